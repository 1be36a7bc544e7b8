import PyProof.Rows.All
import Wide.All
import OpenK.AllK
import Wide.FinOn
import HandS.ForMost
import HandS.SortKw
import HandS.Deep
import HandS.Strs
import HandS.Conv
import HandS.Zip
import HandS.Rev
import HandS.RevRange
import HandS.Flow
import HandS.IsInst
import HandS.Wide
import HandS.TupAny
import HandS.TupMul
import HandS.Lambda
import HandS.FStr
import HandS.StrMore
import KE.SortData
import KE.SortKeyHeap
import HandS.Style
import PyProof.TupleOfSeq
import PyProof.Transfer
import KE.GoesMore
import KE.GoesEnum
import KE.KTupSum
import HandS.Defaults
import PyProof.Conv_int_bool
import KE.KxIndex
import PyProof.StrLawsIn
import PySem.Challenge.RW_countbundles_k37_widths
set_option Elab.async false
set_option linter.all false
set_option maxRecDepth 100000
set_option maxHeartbeats 4000000
namespace Z
open PySem PySem.Spec PyProof.Rows L2

/-! ### plain data, the store of what may change, results -/
/-- plain data; ls: a list that nobody changes; loc n: the n-th thing of the store -/
inductive Dv where
  | non | bl (b : Bool) | int (i : Int) | str (s : Str) | tup (ds : List Dv) | ls (ds : List Dv) | loc (n : Nat)
/-- what may change -/
inductive Ob where
  | lst (ds : List Dv) | dk (kvs : List (Key × Dv)) | dt (kvs : List (List Key × Dv))
abbrev Sto := List Ob
inductive Rs (α : Type) where
  | ok (a : α) (s : Sto) | exc (e : Dv) (s : Sto) | bad
def Rs.bind {α β : Type} (r : Rs α) (f : α → Sto → Rs β) : Rs β := match r with
  | .ok a s => f a s
  | .exc e s => .exc e s
  | .bad => .bad
theorem Rs.bind_ok {α β : Type} {r : Rs α} {f : α → Sto → Rs β} {b : β} {s' : Sto} (h : r.bind f = .ok b s') : ∃ a s, r = .ok a s ∧ f a s = .ok b s' := by
  cases r with
  | ok a s => exact ⟨a, s, rfl, h⟩
  | exc e s => cases h
  | bad => cases h
abbrev En := List (Option Dv)
abbrev Fn (α : Type) := En → Sto → Rs α

/-- where the store's things lie; what is laid aside for the moment -/
structure Lo where
  locs : List Addr
  hid : List Addr
/-- a list at a that nobody changes -/
def Ls (K : PySem.W.Frag) (B : Lo) (H : Hp) (a : Addr) (xs : List V) : Prop :=
  (H a = some (.lst xs) ∧ a ∉ B.locs ∧ a ∉ B.hid) ∨ (∃ o, H a = some (.frz o (.lst xs))) ∨
    ∃ (o : Obj) (its : Array Value) (n : Nat), K.lookup a = some o ∧ o.cls = .type "list" ∧ o.dict = none ∧ o.data = .seq its n ∧ its.size ≤ sizeLine ∧ Vals xs its.toList
theorem Ls.sq {K : PySem.W.Frag} {B : Lo} {H : Hp} {a : Addr} {xs : List V} (h : Ls K B H a xs) : SqL K H a xs := by
  rcases h with ⟨h, _⟩ | h | h
  · exact .inl (.inl h)
  · exact .inl (.inr h)
  · exact .inr h
/-- a tuple at a, its head plain -/
def Tk (K : PySem.W.Frag) (H : Hp) (a : Addr) (xs : List V) : Prop :=
  (∃ o, H a = some (.frz o (.tup xs)) ∧ o.dict = none) ∨
    ∃ (o : Obj) (its : Array Value) (n : Nat), K.lookup a = some o ∧ o.cls = .type "tuple" ∧ o.dict = none ∧ o.data = .seq its n ∧ its.size ≤ sizeLine ∧ Vals xs its.toList
theorem Tk.sq {K : PySem.W.Frag} {H : Hp} {a : Addr} {xs : List V} (h : Tk K H a xs) : SqT K H a xs := by
  rcases h with ⟨o, h, _⟩ | ⟨o, its, n, h1, h2, _, h3⟩
  · exact .inl (.inr ⟨o, h⟩)
  · exact .inr ⟨o, its, n, h1, h2, h3⟩
mutual
inductive Rp (K : PySem.W.Frag) (B : Lo) (H : Hp) : Dv → V → Prop
  | non : Rp K B H .non .non
  | bl (b : Bool) : Rp K B H (.bl b) (.bl b)
  | int (i : Int) : Rp K B H (.int i) (.int i)
  | str (x : Str) : Rp K B H (.str x) (.str x)
  | tup {a : Addr} {xs : List V} {ds : List Dv} : Tk K H a xs → Rps K B H ds xs → Rp K B H (.tup ds) (.ref a)
  | ls {a : Addr} {xs : List V} {ds : List Dv} : Ls K B H a xs → Rps K B H ds xs → Rp K B H (.ls ds) (.ref a)
  | loc {n : Nat} {a : Addr} : B.locs[n]? = some a → Rp K B H (.loc n) (.ref a)
inductive Rps (K : PySem.W.Frag) (B : Lo) (H : Hp) : List Dv → List V → Prop
  | nil : Rps K B H [] []
  | cons {d : Dv} {v : V} {ds : List Dv} {vs : List V} : Rp K B H d v → Rps K B H ds vs → Rps K B H (d :: ds) (v :: vs)
end
/-- what a stretch of running may do to what is tracked -/
structure Mo (B : Lo) (H : Hp) (B' : Lo) (H' : Hp) : Prop where
  pre : B.locs <+: B'.locs
  keep : ∀ b o, H b = some o → b ∉ B.locs → b ∉ B.hid → H' b = some o
  tups : ∀ b xs, H b = some (.tup xs) → H' b = some (.tup xs)
  frzs : ∀ b o u, H b = some (.frz o u) → H' b = some (.frz o u)
  new : ∀ b, b ∈ B'.locs ∨ b ∈ B'.hid → b ∈ B.locs ∨ b ∈ B.hid ∨ H b = none
theorem Mo.refl (B : Lo) (H : Hp) : Mo B H B H := ⟨List.prefix_refl _, fun _ _ h _ _ => h, fun _ _ h => h, fun _ _ _ h => h, fun _ h => h.elim .inl fun z => .inr (.inl z)⟩
theorem Mo.trans {B B1 B2 : Lo} {H H1 H2 : Hp} (a : Mo B H B1 H1) (b : Mo B1 H1 B2 H2) : Mo B H B2 H2 where
  pre := a.pre.trans b.pre
  keep := fun c o h hn hh => by
    refine b.keep c o (a.keep c o h hn hh) (fun z => ?_) fun z => ?_
    · rcases a.new c (.inl z) with q | q | q
      · exact hn q
      · exact hh q
      · rw [h] at q; cases q
    · rcases a.new c (.inr z) with q | q | q
      · exact hn q
      · exact hh q
      · rw [h] at q; cases q
  tups := fun c xs h => b.tups c xs (a.tups c xs h)
  frzs := fun c o u h => b.frzs c o u (a.frzs c o u h)
  new := fun c h => by
    rcases b.new c h with q | q | q
    · exact a.new c (.inl q)
    · exact a.new c (.inr q)
    · cases e : H c with
      | none => exact .inr (.inr rfl)
      | some o =>
        by_cases hc : c ∈ B.locs
        · exact .inl hc
        · by_cases hh : c ∈ B.hid
          · exact .inr (.inl hh)
          · rw [a.keep c o e hc hh] at q; cases q
theorem pre_get {α : Type} {β β' : List α} (h : β <+: β') {n : Nat} {a : α} (e : β[n]? = some a) : β'[n]? = some a := by
  obtain ⟨t, rfl⟩ := h
  have hl : n < β.length := (List.getElem?_eq_some_iff.mp e).1
  rw [List.getElem?_append_left hl]; exact e
section
variable {K : PySem.W.Frag} {B B' : Lo} {H H' : Hp}
theorem Mo.tk (x : Mo B H B' H') {a : Addr} {xs : List V} (h : Tk K H a xs) : Tk K H' a xs := by
  rcases h with ⟨o, h, d⟩ | h
  · exact .inl ⟨o, x.frzs _ _ _ h, d⟩
  · exact .inr h
theorem Mo.ls (x : Mo B H B' H') {a : Addr} {xs : List V} (h : Ls K B H a xs) : Ls K B' H' a xs := by
  rcases h with ⟨h, n, m⟩ | ⟨o, h⟩ | h
  · refine .inl ⟨x.keep _ _ h n m, fun z => ?_, fun z => ?_⟩
    · rcases x.new _ (.inl z) with q | q | q
      · exact n q
      · exact m q
      · rw [h] at q; cases q
    · rcases x.new _ (.inr z) with q | q | q
      · exact n q
      · exact m q
      · rw [h] at q; cases q
  · exact .inr (.inl ⟨o, x.frzs _ _ _ h⟩)
  · exact .inr (.inr h)
mutual
theorem Rp.mono (x : Mo B H B' H') : ∀ {d : Dv} {v : V}, Rp K B H d v → Rp K B' H' d v
  | _, _, .non => .non
  | _, _, .bl b => .bl b
  | _, _, .int i => .int i
  | _, _, .str i => .str i
  | _, _, .tup h r => .tup (x.tk h) (Rps.mono x r)
  | _, _, .ls h r => .ls (x.ls h) (Rps.mono x r)
  | _, _, .loc h => .loc (pre_get x.pre h)
theorem Rps.mono (x : Mo B H B' H') : ∀ {ds : List Dv} {vs : List V}, Rps K B H ds vs → Rps K B' H' ds vs
  | _, _, .nil => .nil
  | _, _, .cons h r => .cons (Rp.mono x h) (Rps.mono x r)
end
theorem Rps.length : ∀ {ds : List Dv} {vs : List V}, Rps K B H ds vs → ds.length = vs.length
  | _, _, .nil => rfl
  | _, _, .cons _ r => congrArg (· + 1) r.length
theorem Rps.get : ∀ {ds : List Dv} {vs : List V}, Rps K B H ds vs → ∀ {i : Nat} {d : Dv}, ds[i]? = some d → ∃ v, vs[i]? = some v ∧ Rp K B H d v
  | _, _, .nil, i, d, e => by simp at e
  | _, _, .cons h r, 0, d, e => by simp at e; subst e; exact ⟨_, rfl, h⟩
  | _, _, .cons h r, i + 1, d, e => by
    obtain ⟨v, h1, h2⟩ := r.get (i := i) (d := d) (by simpa using e)
    exact ⟨v, by simpa using h1, h2⟩
theorem Rps.get' : ∀ {ds : List Dv} {vs : List V}, Rps K B H ds vs → ∀ {i : Nat} {v : V}, vs[i]? = some v → ∃ d, ds[i]? = some d ∧ Rp K B H d v
  | _, _, .nil, i, d, e => by simp at e
  | _, _, .cons h r, 0, d, e => by simp at e; subst e; exact ⟨_, rfl, h⟩
  | _, _, .cons h r, i + 1, d, e => by
    obtain ⟨v, h1, h2⟩ := r.get' (i := i) (v := d) (by simpa using e)
    exact ⟨v, by simpa using h1, h2⟩
theorem Rps.append : ∀ {ds es : List Dv} {vs us : List V}, Rps K B H ds vs → Rps K B H es us → Rps K B H (ds ++ es) (vs ++ us)
  | _, _, _, _, .nil, s => s
  | _, _, _, _, .cons h r, s => .cons h (r.append s)
theorem Rps.take : ∀ {ds : List Dv} {vs : List V} (n : Nat), Rps K B H ds vs → Rps K B H (ds.take n) (vs.take n)
  | _, _, 0, _ => .nil
  | _, _, _ + 1, .nil => .nil
  | _, _, n + 1, .cons h r => .cons h (r.take n)
theorem Rps.drop : ∀ {ds : List Dv} {vs : List V} (n : Nat), Rps K B H ds vs → Rps K B H (ds.drop n) (vs.drop n)
  | _, _, 0, h => h
  | _, _, _ + 1, .nil => .nil
  | _, _, n + 1, .cons h r => r.drop n
theorem Rps.set : ∀ {ds : List Dv} {vs : List V} (n : Nat) {d : Dv} {v : V}, Rps K B H ds vs → Rp K B H d v → Rps K B H (ds.set n d) (vs.set n v)
  | _, _, _, _, _, .nil, _ => .nil
  | _, _, 0, _, _, .cons h r, q => .cons q r
  | _, _, n + 1, _, _, .cons h r, q => .cons h (r.set n q)
theorem Rps.eraseIdx : ∀ {ds : List Dv} {vs : List V} (n : Nat), Rps K B H ds vs → Rps K B H (ds.eraseIdx n) (vs.eraseIdx n)
  | _, _, _, .nil => .nil
  | _, _, 0, .cons h r => r
  | _, _, n + 1, .cons h r => .cons h (r.eraseIdx n)
theorem Rps.reverse {ds : List Dv} {vs : List V} (h : Rps K B H ds vs) : Rps K B H ds.reverse vs.reverse := by
  induction h using Rps.rec (motive_1 := fun _ _ _ => True) with
  | non => trivial
  | bl => trivial
  | int => trivial
  | str => trivial
  | tup => trivial
  | ls => trivial
  | loc => trivial
  | nil => exact .nil
  | cons h r _ ih =>
    rw [List.reverse_cons, List.reverse_cons]
    exact ih.append (.cons h .nil)
end

/-! ### the store -/
section
variable (K : PySem.W.Frag)
def RpO (B : Lo) (H : Hp) (a : Addr) : Ob → Prop
  | .lst ds => ∃ xs, H a = some (.lst xs) ∧ Rps K B H ds xs
  | .dk kvs => ∃ ks, H a = some (.dK ks) ∧ Paired (fun (p : Key × Dv) (q : Key × V) => p.1 = q.1 ∧ Rp K B H p.2 q.2) kvs ks
  | .dt kvs => ∃ ks, H a = some (.dT ks) ∧ Paired (fun (p : List Key × Dv) (q : List Key × V) => p.1 = q.1 ∧ Rp K B H p.2 q.2) kvs ks
structure Sim (B : Lo) (H : Hp) (s : Sto) : Prop where
  nd : B.locs.Nodup
  len : B.locs.length = s.length
  obs : ∀ (n : Nat) (a : Addr) (o : Ob), B.locs[n]? = some a → s[n]? = some o → RpO K B H a o
  hid : ∀ b ∈ B.hid, b ∉ B.locs ∧ ∃ u, H b = some u ∧ Mut (some u)
end
section
variable {K : PySem.W.Frag} {B B' : Lo} {H H' : Hp} {s : Sto}
theorem RpO.mono (x : Mo B H B' H') {a : Addr} (e : H' a = H a) {o : Ob} (h : RpO K B H a o) : RpO K B' H' a o := by
  cases o with
  | lst ds => obtain ⟨xs, h1, h2⟩ := h; exact ⟨xs, e.trans h1, h2.mono x⟩
  | dk kvs => obtain ⟨ks, h1, h2⟩ := h; exact ⟨ks, e.trans h1, Paired.mapP h2 fun p q z => ⟨z.1, z.2.mono x⟩⟩
  | dt kvs => obtain ⟨ks, h1, h2⟩ := h; exact ⟨ks, e.trans h1, Paired.mapP h2 fun p q z => ⟨z.1, z.2.mono x⟩⟩
theorem RpO.there {a : Addr} {o : Ob} (h : RpO K B H a o) : ∃ u, H a = some u ∧ Mut (some u) := by
  cases o with
  | lst ds => obtain ⟨xs, h1, h2⟩ := h; exact ⟨_, h1, trivial⟩
  | dk kvs => obtain ⟨ks, h1, h2⟩ := h; exact ⟨_, h1, trivial⟩
  | dt kvs => obtain ⟨ks, h1, h2⟩ := h; exact ⟨_, h1, trivial⟩
theorem Sim.at (S : Sim K B H s) {n : Nat} {a : Addr} (h : B.locs[n]? = some a) : ∃ o, s[n]? = some o ∧ RpO K B H a o := by
  have hl : n < s.length := by rw [← S.len]; exact (List.getElem?_eq_some_iff.mp h).1
  exact ⟨s[n], List.getElem?_eq_getElem hl, S.obs n a _ h (List.getElem?_eq_getElem hl)⟩
theorem Sim.at' (S : Sim K B H s) {n : Nat} {o : Ob} (h : s[n]? = some o) : ∃ a, B.locs[n]? = some a ∧ RpO K B H a o := by
  have hl : n < B.locs.length := by rw [S.len]; exact (List.getElem?_eq_some_iff.mp h).1
  exact ⟨B.locs[n], List.getElem?_eq_getElem hl, S.obs n _ o (List.getElem?_eq_getElem hl) h⟩
theorem Sim.mem (S : Sim K B H s) {a : Addr} (h : a ∈ B.locs) : ∃ u, H a = some u ∧ Mut (some u) := by
  obtain ⟨n, hn⟩ := List.getElem?_of_mem h
  obtain ⟨o, _, r⟩ := S.at hn
  exact r.there
theorem Sim.free (S : Sim K B H s) {p : Addr} (h : H p = none) : p ∉ B.locs := fun z => by
  obtain ⟨u, e, _⟩ := S.mem z
  rw [h] at e; cases e
theorem Sim.freeH (S : Sim K B H s) {p : Addr} (h : H p = none) : p ∉ B.hid := fun z => by
  obtain ⟨_, xs, e, _⟩ := S.hid p z
  rw [h] at e; cases e
/-- a new thing that the store doesn't have -/
theorem Mo.laid {p : Addr} {o : HO} (h : H p = none) : Mo B H B (upd H p o) :=
  ⟨List.prefix_refl _, fun b u e _ _ => by rw [upd_ne (ne_of_none e h)]; exact e, fun b u e => by rw [upd_ne (ne_of_none e h)]; exact e, fun b u v e => by rw [upd_ne (ne_of_none e h)]; exact e, fun _ z => z.elim .inl fun z => .inr (.inl z)⟩
/-- .. laid aside -/
theorem Mo.aside {p : Addr} {o : HO} (h : H p = none) : Mo B H ⟨B.locs, p :: B.hid⟩ (upd H p o) :=
  ⟨List.prefix_refl _, fun b u e _ _ => by rw [upd_ne (ne_of_none e h)]; exact e, fun b u e => by rw [upd_ne (ne_of_none e h)]; exact e, fun b u v e => by rw [upd_ne (ne_of_none e h)]; exact e, fun b z => by
    rcases z with z | z
    · exact .inl z
    · rcases List.mem_cons.mp z with z | z
      · rw [z]; exact .inr (.inr h)
      · exact .inr (.inl z)⟩
theorem Sim.laid (S : Sim K B H s) {p : Addr} {o : HO} (h : H p = none) : Sim K B (upd H p o) s :=
  ⟨S.nd, S.len, fun n a u e1 e2 => by
    obtain ⟨v, ev, _⟩ := (S.obs n a u e1 e2).there
    exact (S.obs n a u e1 e2).mono (Mo.laid h) (upd_ne (ne_of_none ev h)), fun b hb => by
    obtain ⟨h1, xs, e, hm⟩ := S.hid b hb
    exact ⟨h1, xs, (upd_ne (ne_of_none e h)).trans e, hm⟩⟩
theorem Sim.aside (S : Sim K B H s) {p : Addr} {o : HO} (h : H p = none) (hm : Mut (some o) := by trivial) : Sim K ⟨B.locs, p :: B.hid⟩ (upd H p o) s :=
  ⟨S.nd, S.len, fun n a u e1 e2 => by
    obtain ⟨v, ev, _⟩ := (S.obs n a u e1 e2).there
    exact (S.obs n a u e1 e2).mono (Mo.aside h) (upd_ne (ne_of_none ev h)), fun b hb => by
    rcases List.mem_cons.mp hb with z | z
    · subst z; exact ⟨S.free h, _, upd_same, hm⟩
    · obtain ⟨h1, xs, e, hm⟩ := S.hid b z
      exact ⟨h1, xs, (upd_ne (ne_of_none e h)).trans e, hm⟩⟩
/-- what was laid aside is let go: it is a list that nobody changes -/
theorem Mo.back {p : Addr} : Mo ⟨B.locs, p :: B.hid⟩ H B H :=
  ⟨List.prefix_refl _, fun b u e _ _ => e, fun b u e => e, fun b u v e => e, fun b z => z.elim .inl fun z => .inr (.inl (List.mem_cons_of_mem _ z))⟩
theorem Sim.back {p : Addr} (S : Sim K ⟨B.locs, p :: B.hid⟩ H s) : Sim K B H s :=
  ⟨S.nd, S.len, fun n a u e1 e2 => (S.obs n a u e1 e2).mono Mo.back rfl, fun b hb => S.hid b (List.mem_cons_of_mem _ hb)⟩
/-- .. or it is put into the store -/
theorem Mo.adopt {p : Addr} : Mo ⟨B.locs, p :: B.hid⟩ H ⟨B.locs ++ [p], B.hid⟩ H :=
  ⟨List.prefix_append _ _, fun b u e _ _ => e, fun b u e => e, fun b u v e => e, fun b z => by
    rcases z with z | z
    · rcases List.mem_append.mp z with z | z
      · exact .inl z
      · rw [List.mem_singleton.mp z]; exact .inr (.inl List.mem_cons_self)
    · exact .inr (.inl (List.mem_cons_of_mem _ z))⟩
theorem Sim.adopt {p : Addr} {o : Ob} (S : Sim K ⟨B.locs, p :: B.hid⟩ H s) (hh : p ∉ B.hid) (r : RpO K ⟨B.locs, p :: B.hid⟩ H p o) : Sim K ⟨B.locs ++ [p], B.hid⟩ H (s ++ [o]) := by
  have hp : p ∉ B.locs := (S.hid p List.mem_cons_self).1
  refine ⟨List.nodup_append.mpr ⟨S.nd, by simp, fun a ha b hb => ?_⟩, by simp [← S.len], fun n a u e1 e2 => ?_, fun b hb => ?_⟩
  · rw [List.mem_singleton.mp hb]; exact fun z => hp (z ▸ ha)
  · have hl : B.locs.length = s.length := S.len
    have e1' : (B.locs ++ [p])[n]? = some a := e1
    by_cases hn : n < B.locs.length
    · rw [List.getElem?_append_left hn] at e1'
      rw [List.getElem?_append_left (by rw [← hl]; exact hn)] at e2
      exact (S.obs n a u e1' e2).mono Mo.adopt rfl
    · have h2 : n = B.locs.length := by
        have := (List.getElem?_eq_some_iff.mp e1').1
        simp at this; omega
      subst h2
      rw [List.getElem?_append_right (Nat.le_refl _)] at e1'
      rw [hl, List.getElem?_append_right (Nat.le_refl _)] at e2
      simp at e1' e2
      subst e1'; subst e2
      exact r.mono Mo.adopt rfl
  · obtain ⟨h1, h2⟩ := S.hid b (List.mem_cons_of_mem _ hb)
    refine ⟨fun z => ?_, h2⟩
    rcases List.mem_append.mp z with z | z
    · exact h1 z
    · rw [List.mem_singleton.mp z] at hb; exact hh hb
/-- a thing of the store is changed -/
theorem Mo.write (S : Sim K B H s) {n : Nat} {a : Addr} {o : HO} (e : B.locs[n]? = some a) : Mo B H B (upd H a o) := by
  obtain ⟨u, hu, hm⟩ := S.mem (List.mem_of_getElem? e)
  refine ⟨List.prefix_refl _, fun b v q hb _ => ?_, fun b xs q => ?_, fun b v w q => ?_, fun _ z => z.elim .inl fun z => .inr (.inl z)⟩
  · rw [upd_ne (fun z : b = a => hb (z ▸ List.mem_of_getElem? e))]; exact q
  · rw [upd_ne (fun z => by subst z; rw [q] at hu; cases hu; exact hm)]; exact q
  · rw [upd_ne (fun z => by subst z; rw [q] at hu; cases hu; exact hm)]; exact q
theorem Sim.write (S : Sim K B H s) {n : Nat} {a : Addr} {o : HO} {u : Ob} (e : B.locs[n]? = some a) (r : RpO K B (upd H a o) a u) : Sim K B (upd H a o) (s.set n u) := by
  refine ⟨S.nd, by rw [List.length_set]; exact S.len, fun m b v e1 e2 => ?_, fun b hb => ?_⟩
  · by_cases hm : n = m
    · subst hm
      rw [e] at e1; cases e1
      have hl : n < s.length := by rw [← S.len]; exact (List.getElem?_eq_some_iff.mp e).1
      rw [List.getElem?_set_self hl] at e2; cases e2
      exact r
    · rw [List.getElem?_set_ne hm] at e2
      have hb : b ≠ a := fun z => by
        subst z
        obtain ⟨h1, q1⟩ := List.getElem?_eq_some_iff.mp e
        obtain ⟨h2, q2⟩ := List.getElem?_eq_some_iff.mp e1
        exact hm ((List.getElem_inj S.nd).mp (q1.trans q2.symm))
      exact (S.obs m b v e1 e2).mono (Mo.write S e) (upd_ne hb)
  · obtain ⟨h1, xs, h2, hm⟩ := S.hid b hb
    exact ⟨h1, xs, (upd_ne fun z : b = a => h1 (z ▸ List.mem_of_getElem? e)).trans h2, hm⟩
end

/-- what a stretch of running may do, and what was laid aside stands -/
structure Ext (B : Lo) (H : Hp) (B' : Lo) (H' : Hp) : Prop where
  mo : Mo B H B' H'
  keepH : ∀ b o, H b = some o → b ∈ B.hid → H' b = some o
  sub : ∀ b ∈ B.hid, b ∈ B'.hid
  newL : ∀ b ∈ B'.locs, b ∈ B.locs ∨ H b = none
theorem Ext.refl (B : Lo) (H : Hp) : Ext B H B H := ⟨Mo.refl B H, fun _ _ h _ => h, fun _ h => h, fun _ h => .inl h⟩
theorem Ext.trans {B B1 B2 : Lo} {H H1 H2 : Hp} (a : Ext B H B1 H1) (b : Ext B1 H1 B2 H2) : Ext B H B2 H2 where
  mo := a.mo.trans b.mo
  keepH := fun c o h hc => b.keepH c o (a.keepH c o h hc) (a.sub c hc)
  sub := fun c hc => b.sub c (a.sub c hc)
  newL := fun c hc => by
    rcases b.newL c hc with q | q
    · exact a.newL c q
    · cases e : H c with
      | none => exact .inr rfl
      | some o =>
        by_cases hl : c ∈ B.locs
        · exact .inl hl
        · by_cases hh : c ∈ B.hid
          · rw [a.keepH c o e hh] at q; cases q
          · rw [a.mo.keep c o e hl hh] at q; cases q
section
variable {K : PySem.W.Frag} {B B' : Lo} {H H' : Hp} {s : Sto}
theorem Ext.was_none (x : Ext B H B' H') {b : Addr} (h : H' b = none) (hb : b ∉ B.locs) : H b = none := by
  cases e : H b with
  | none => rfl
  | some o =>
    by_cases hh : b ∈ B.hid
    · rw [x.keepH b o e hh] at h; cases h
    · rw [x.mo.keep b o e hb hh] at h; cases h
theorem Ext.laid {p : Addr} {o : HO} (h : H p = none) : Ext B H B (upd H p o) :=
  ⟨Mo.laid h, fun b u e _ => by rw [upd_ne (ne_of_none e h)]; exact e, fun _ h => h, fun _ h => .inl h⟩
theorem Ext.aside {p : Addr} {o : HO} (h : H p = none) : Ext B H ⟨B.locs, p :: B.hid⟩ (upd H p o) :=
  ⟨Mo.aside h, fun b u e _ => by rw [upd_ne (ne_of_none e h)]; exact e, fun _ h => List.mem_cons_of_mem _ h, fun _ h => .inl h⟩
theorem Ext.write (S : Sim K B H s) {n : Nat} {a : Addr} {o : HO} (e : B.locs[n]? = some a) : Ext B H B (upd H a o) :=
  ⟨Mo.write S e, fun b u q hb => by
    rw [upd_ne (fun z : b = a => (S.hid b hb).1 (z ▸ List.mem_of_getElem? e))]; exact q, fun _ h => h, fun _ h => .inl h⟩
/-- a thing that came up on the way is changed -/
theorem Ext.rewrite (x : Ext B H B' H') {p : Addr} {o : HO} (h : H p = none) : Ext B H B' (upd H' p o) where
  mo := ⟨x.mo.pre, fun b u e h1 h2 => by rw [upd_ne (ne_of_none e h)]; exact x.mo.keep b u e h1 h2, fun b u e => by rw [upd_ne (ne_of_none e h)]; exact x.mo.tups b u e, fun b u v e => by rw [upd_ne (ne_of_none e h)]; exact x.mo.frzs b u v e, x.mo.new⟩
  keepH := fun b u e hb => by rw [upd_ne (ne_of_none e h)]; exact x.keepH b u e hb
  sub := x.sub
  newL := x.newL
theorem Ext.drop {L h : List Addr} {p : Addr} (x : Ext B H ⟨L, p :: h⟩ H') (hs : ∀ b ∈ B.hid, b ∈ h) : Ext B H ⟨L, h⟩ H' :=
  ⟨⟨x.mo.pre, x.mo.keep, x.mo.tups, x.mo.frzs, fun b z => x.mo.new b (z.elim .inl fun z => .inr (List.mem_cons_of_mem _ z))⟩, x.keepH, hs, x.newL⟩
theorem Ext.adopt {L h : List Addr} {p : Addr} (x : Ext B H ⟨L, p :: h⟩ H') (hp : H p = none) (hs : ∀ b ∈ B.hid, b ∈ h) : Ext B H ⟨L ++ [p], h⟩ H' :=
  ⟨⟨x.mo.pre.trans (List.prefix_append _ _), x.mo.keep, x.mo.tups, x.mo.frzs, fun b z => by
    rcases z with z | z
    · rcases List.mem_append.mp z with z | z
      · exact x.mo.new b (.inl z)
      · rw [List.mem_singleton.mp z]; exact .inr (.inr hp)
    · exact x.mo.new b (.inr (List.mem_cons_of_mem _ z))⟩, x.keepH, hs, fun b z => by
    rcases List.mem_append.mp z with z | z
    · exact x.newL b z
    · rw [List.mem_singleton.mp z]; exact .inr hp⟩
end

/-! ### readings by data -/
def RpE (K : PySem.W.Frag) (B : Lo) (H : Hp) (env : En) (σ : L2.St) : Prop := env.length = σ.length ∧ ∀ (i : Nat) (d : Dv), env[i]? = some (some d) → ∃ v, σ[i]? = some (some v) ∧ Rp K B H d v
section
variable {K : PySem.W.Frag} {B B' : Lo} {H H' : Hp} {s s' : Sto} {env : En} {σ : L2.St}
theorem RpE.mono (x : Mo B H B' H') (h : RpE K B H env σ) : RpE K B' H' env σ := ⟨h.1, fun i d e => by
  obtain ⟨v, e1, r⟩ := h.2 i d e
  exact ⟨v, e1, r.mono x⟩⟩
theorem RpE.set (h : RpE K B H env σ) (i : Nat) {d : Dv} {v : V} (r : Rp K B H d v) : RpE K B H (env.set i (some d)) (σ.set i (some v)) := by
  refine ⟨by rw [List.length_set, List.length_set]; exact h.1, fun j e q => ?_⟩
  by_cases hj : i = j
  · subst hj
    have hl : i < env.length := by have := (List.getElem?_eq_some_iff.mp q).1; simpa using this
    rw [List.getElem?_set_self hl] at q
    cases q
    exact ⟨v, List.getElem?_set_self (by rw [← h.1]; exact hl), r⟩
  · rw [List.getElem?_set_ne hj] at q
    rw [List.getElem?_set_ne hj]
    exact h.2 j e q
theorem RpE.unset (h : RpE K B H env σ) (i : Nat) : RpE K B H (env.set i none) (σ.set i none) := by
  refine ⟨by rw [List.length_set, List.length_set]; exact h.1, fun j e q => ?_⟩
  by_cases hj : i = j
  · subst hj
    have hl : i < env.length := by have := (List.getElem?_eq_some_iff.mp q).1; simpa using this
    rw [List.getElem?_set_self hl] at q
    cases q
  · rw [List.getElem?_set_ne hj] at q
    rw [List.getElem?_set_ne hj]
    exact h.2 j e q
end
/-- what is handed on behind: the value, the store -/
def tOf (K : PySem.W.Frag) (f : Fn Dv) : TE := fun σ H Q => ∃ B env s d s', RpE K B H env σ ∧ Sim K B H s ∧ f env s = .ok d s' ∧
  ∀ (B' : Lo) (H' : Hp) (v : V), Ext B H B' H' → B'.hid = B.hid → Sim K B' H' s' → Rp K B' H' d v → Q v H'
/-- a new list that nobody else has -/
def tOfL (K : PySem.W.Frag) (f : Fn (List Dv)) : TE := fun σ H Q => ∃ B env s ds s', RpE K B H env σ ∧ Sim K B H s ∧ f env s = .ok ds s' ∧
  ∀ (B' : Lo) (H' : Hp) (p : Addr) (xs : List V), Ext B H ⟨B'.locs, p :: B'.hid⟩ H' → B'.hid = B.hid → Sim K ⟨B'.locs, p :: B'.hid⟩ H' s' → p ∉ B'.hid → H p = none → H' p = some (.lst xs) → Rps K ⟨B'.locs, p :: B'.hid⟩ H' ds xs → Q (.ref p) H'
def tOfA (K : PySem.W.Frag) (f : Fn (List Dv)) : TA := fun σ H Q => ∃ B env s ds s', RpE K B H env σ ∧ Sim K B H s ∧ f env s = .ok ds s' ∧
  ∀ (B' : Lo) (H' : Hp) (vs : List V), Ext B H B' H' → B'.hid = B.hid → Sim K B' H' s' → Rps K B' H' ds vs → Q vs H'
def tOfT (K : PySem.W.Frag) (f : Fn Bool) : TT := fun σ H Q => ∃ B env s b s', RpE K B H env σ ∧ Sim K B H s ∧ f env s = .ok b s' ∧
  ∀ (B' : Lo) (H' : Hp), Ext B H B' H' → B'.hid = B.hid → Sim K B' H' s' → Q b H'
abbrev ZE (X : Cx) (e : Expr) (f : Fn Dv) : Prop := PE X e (tOf X.K f)
abbrev ZL (X : Cx) (e : Expr) (f : Fn (List Dv)) : Prop := PE X e (tOfL X.K f)
abbrev ZA (X : Cx) (es : List Expr) (f : Fn (List Dv)) : Prop := PA X es (tOfA X.K f)
abbrev ZT (X : Cx) (e : Expr) (f : Fn Bool) : Prop := PT X e (tOfT X.K f)
theorem pe_mono {X : Cx} {e : Expr} {t t' : TE} (h : PE X e t) (hh : ∀ σ H Q, t' σ H Q → t σ H Q) : PE X e t' := ⟨fun pins s σ H Q I q => h.run pins s σ H Q I (hh _ _ _ q)⟩
theorem pe_alt {X : Cx} {e : Expr} {t t' : TE} (h : PE X e t) (h' : PE X e t') : PE X e (fun σ H Q => t σ H Q ∨ t' σ H Q) := ⟨fun pins s σ H Q I q => q.elim (h.run pins s σ H Q I) (h'.run pins s σ H Q I)⟩
theorem pt_mono {X : Cx} {e : Expr} {t t' : TT} (h : PT X e t) (hh : ∀ σ H Q, t' σ H Q → t σ H Q) : PT X e t' := ⟨fun pins s σ H Q I q => h.run pins s σ H Q I (hh _ _ _ q)⟩
theorem pa_mono {X : Cx} {e : List Expr} {t t' : TA} (h : PA X e t) (hh : ∀ σ H Q, t' σ H Q → t σ H Q) : PA X e t' := ⟨fun pos pins s σ H Q I q => h.run pos pins s σ H Q I (hh _ _ _ q)⟩
theorem ps_mono {X : Cx} {e : Stmt} {t t' : TS} (h : PS X e t) (hh : ∀ D σ H, t' D σ H → t D σ H) : PS X e t' := ⟨fun pins s σ H Q I q => h.run pins s σ H Q I (hh _ _ _ q)⟩
theorem ps_alt {X : Cx} {e : Stmt} {t t' : TS} (h : PS X e t) (h' : PS X e t') : PS X e (fun D σ H => t D σ H ∨ t' D σ H) := ⟨fun pins s σ H Q I q => q.elim (h.run pins s σ H Q I) (h'.run pins s σ H Q I)⟩
theorem pg_mono {X : Cx} {e : Expr} {t t' : TG} (h : PG X e t) (hh : ∀ v σ H Q, t' v σ H Q → t v σ H Q) : PG X e t' := ⟨fun pins s σ H v u Q I r q => h.run pins s σ H v u Q I r (hh _ _ _ _ q)⟩
end Z

namespace Z
open PySem PySem.Spec PyProof.Rows L2

/-! ### the context by data -/
/-- what stands behind the top -/
structure Gz where
  prog : Program
  w : World
  K : PySem.W.Frag
  mg : Str → Option Value
  base : Heap
structure Cz (G : Gz) (bs : List Str) (k : Nat) (X : Cx) (N : List Str) (nm : List (Str × NameKind)) (ow : Str → Bool) : Prop where
  hN : X.N = N
  nd : N.Nodup
  kd : X.env.scope.kind = .function
  nm : X.env.scope.names = nm
  ow : X.fn = ow
  calm : X.calm = true
  rm : Room k X.A
  gd : X.A.guards = some []
  bl : ∀ x ∈ bs, X.mg x = none
  gp : X.prog = G.prog
  gw : X.w = G.w
  gK : X.K = G.K
  gm : X.mg = G.mg
  gb : X.base = G.base
  po : PassesOwn (model X.prog X.w) X.A X.env X.xe
/-- the name x stands in place i, to be read -/
def vOk (N : List Str) (nm : List (Str × NameKind)) (i : Nat) (x : Str) : Bool :=
  decide (N[i]? = some x) && (match nm.lookup x with | some .local => true | some .cell => true | some .free => true | _ => false)
/-- .. to be stored -/
def sOk (N : List Str) (nm : List (Str × NameKind)) (ow : Str → Bool) (i : Nat) (x : Str) : Bool :=
  decide (N[i]? = some x) && (match nm.lookup x with | some .local => true | some .cell => ow x | _ => false)
/-- a name of the module or a builtin -/
def gOk (nm : List (Str × NameKind)) (x : Str) : Bool := match nm.lookup x with | some .globalImplicit => true | _ => false
/-- a builtin -/
def bOk (bs : List Str) (nm : List (Str × NameKind)) (x : Str) : Bool := gOk nm x && bs.contains x
section
variable {G : Gz} {bs : List Str} {k : Nat} {X : Cx} {N : List Str} {nm : List (Str × NameKind)} {ow : Str → Bool} {x : Str} {i : Nat} {pos : Pos}
theorem Cz.vis (c : Cz G bs k X N nm ow) (h : vOk N nm i x = true) : X.N[i]? = some x ∧ Vis X.env.scope x := by
  unfold vOk at h
  rw [Bool.and_eq_true] at h
  obtain ⟨h1, h2⟩ := h
  refine ⟨by rw [c.hN]; exact of_decide_eq_true h1, ?_⟩
  unfold Vis
  rw [c.nm]
  split at h2
  · rename_i e; exact .inl e
  · rename_i e; exact .inr (.inl e)
  · rename_i e; exact .inr (.inr e)
  · cases h2
theorem Cz.loc (c : Cz G bs k X N nm ow) (h : sOk N nm ow i x = true) : X.N[i]? = some x ∧ Loc X.env.scope x ∧ (X.fn x = true ∨ X.env.scope.names.lookup x = some .local) := by
  unfold sOk at h
  rw [Bool.and_eq_true] at h
  obtain ⟨h1, h2⟩ := h
  refine ⟨by rw [c.hN]; exact of_decide_eq_true h1, ?_⟩
  unfold L2.Loc
  rw [c.nm, c.ow]
  split at h2
  · rename_i e; exact ⟨.inl e, .inr e⟩
  · rename_i e; exact ⟨.inr e, .inl h2⟩
  · cases h2
theorem Cz.gl (c : Cz G bs k X N nm ow) (h : gOk nm x = true) : Gl X x := by
  unfold gOk at h
  unfold Gl
  show X.env.scope.names.lookup x = _
  rw [c.nm]
  split at h
  · assumption
  · cases h
theorem Cz.blt (c : Cz G bs k X N nm ow) (h : bOk bs nm x = true) : Gl X x ∧ X.mg x = none := by
  unfold bOk at h
  rw [Bool.and_eq_true] at h
  exact ⟨c.gl h.1, c.bl x (List.contains_iff_mem.mp h.2)⟩
theorem Cz.un (c : Cz G bs k X N nm ow) : X.A.units + 64 < cLine := c.rm.units
end

/-! ### names, constants -/
def fVar (i : Nat) : Fn Dv := fun env s => match env[i]? with | some (some d) => .ok d s | _ => .bad
theorem fVar_ok {i : Nat} {env : En} {s s' : Sto} {d : Dv} (h : fVar i env s = .ok d s') : env[i]? = some (some d) ∧ s = s' := by
  unfold fVar at h
  split at h
  · rename_i e
    cases h
    exact ⟨e, rfl⟩
  · cases h
/-- a guard -/
def Rs.iff {α : Type} (c : Bool) (r : Rs α) : Rs α := if c = true then r else .bad
theorem Rs.iff_ok {α : Type} {c : Bool} {r : Rs α} {a : α} {s : Sto} (h : Rs.iff c r = .ok a s) : c = true ∧ r = .ok a s := by
  unfold Rs.iff at h
  split at h
  · exact ⟨by assumption, h⟩
  · cases h
def fC (d : Dv) : Fn Dv := fun _ s => .ok d s
section
variable {G : Gz} {bs : List Str} {k : Nat} {X : Cx} {N : List Str} {nm : List (Str × NameKind)} {ow : Str → Bool} {x : Str} {i : Nat} {pos : Pos} {a b e : Expr} {es : List Expr} {fa fb fc : Fn Dv} {fs : Fn (List Dv)}
theorem z_var (c : Cz G bs k X N nm ow) (h : vOk N nm i x = true) (hd : (x == ("__debug__" : Str)) = false := by decide +kernel) (hcd : (x == ("__classdict__" : Str)) = false := by decide +kernel) : ZE X (.Name x pos) (fVar i) := by
  obtain ⟨h1, h2⟩ := c.vis h
  refine pe_mono (pe_var h1 h2 hd hcd) fun σ H Q q => ?_
  obtain ⟨B, env, s, d, s', hE, hS, hf, hQ⟩ := q
  obtain ⟨e, rfl⟩ := fVar_ok hf
  obtain ⟨v, ev, r⟩ := hE.2 i d e
  exact ⟨v, ev, hQ B H v (Ext.refl _ _) rfl hS r⟩
theorem z_const {v : V} {d : Dv} (h : PE X e (tC v)) (r : ∀ B H, Rp X.K B H d v) : ZE X e (fC d) := by
  refine pe_mono h fun σ H Q q => ?_
  obtain ⟨B, env, s, d', s', hE, hS, hf, hQ⟩ := q
  cases hf
  exact hQ B H v (Ext.refl _ _) rfl hS (r _ _)
theorem z_int {i : Int} {j} : ZE X (.Constant (.int i) j pos) (fC (.int i)) := z_const pe_int fun _ _ => .int i
theorem z_str {i : Str} {j} : ZE X (.Constant (.str i) j pos) (fC (.str i)) := z_const pe_str fun _ _ => .str i
theorem z_bl {i : Bool} {j} : ZE X (.Constant (.bool i) j pos) (fC (.bl i)) := z_const pe_bl fun _ _ => .bl i
theorem z_non {j} : ZE X (.Constant .none j pos) (fC .non) := z_const pe_non fun _ _ => .non

/-! ### displays -/
def fNil : Fn (List Dv) := fun _ s => .ok [] s
def fCons (f : Fn Dv) (g : Fn (List Dv)) : Fn (List Dv) := fun env s => (f env s).bind fun d s1 => (g env s1).bind fun ds s2 => .ok (d :: ds) s2
theorem z_nil : ZA X [] fNil := by
  refine pa_mono pa_nil fun σ H Q q => ?_
  obtain ⟨B, env, s, d', s', hE, hS, hf, hQ⟩ := q
  cases hf
  exact hQ B H [] (Ext.refl _ _) rfl hS .nil
theorem z_cons (ha : ZE X e fa) (hr : ZA X es fs) (hs : starEach (e :: es) X.env = (false, eval e X.env) :: starEach es X.env := by rfl) : ZA X (e :: es) (fCons fa fs) := by
  refine pa_mono (pa_cons ha hr hs) fun σ H Q q => ?_
  obtain ⟨B, env, s, d', s', hE, hS, hf, hQ⟩ := q
  obtain ⟨d, s1, h1, hf⟩ := Rs.bind_ok hf
  obtain ⟨ds, s2, h2, hf⟩ := Rs.bind_ok hf
  cases hf
  refine ⟨B, env, s, d, s1, hE, hS, h1, fun B1 H1 v x1 e1 S1 r1 => ?_⟩
  refine ⟨B1, env, s1, _, _, hE.mono x1.mo, S1, h2, fun B2 H2 vs x2 e2 S2 r2 => ?_⟩
  exact hQ B2 H2 _ (x1.trans x2) (e2.trans e1) S2 (.cons (r1.mono x2.mo) r2)

/-- a new tuple with a plain head -/
theorem tupK_new {pins : List (Addr × Obj)} {σ : L2.St} {H : Hp} {s : Shared} {xs : List V} {us : List Value} {t' : Nat} (I : Inv X pins σ H s) (hz : xs.length ≤ sizeLine) (r : Vals xs us) {Q : VK}
    (q : ∀ p o, H p = none → o.dict = none → Q (.ref p) (upd H p (.frz o (.tup xs)))) : EP X pins σ Q (.ref s.heap.objs.size) { s with heap := s.heap.push { cls := .type "tuple", data := .seq us.toArray }, toks := t' } := by
  have hf : H s.heap.objs.size = none := I.hok.fresh (Nat.le_refl _)
  refine ⟨.ref s.heap.objs.size, upd H s.heap.objs.size (.frz { cls := .type "tuple", data := .seq us.toArray } (.tup xs)), I.laid (t' := t') (fun b u e => Heap.get?_push_of_some _ e) (Nat.le_refl _) ?_, rfl, q _ _ hf rfl⟩
  exact ⟨Heap.get?_push_size _ rfl, hz, us, r, ⟨_, Heap.get?_push_size _ rfl, rfl, _, rfl⟩⟩
def tTupK (t : TA) : TE := fun σ H Q => t σ H fun xs H1 => xs.length ≤ sizeLine ∧ ∀ p o, H1 p = none → o.dict = none → Q (.ref p) (upd H1 p (.frz o (.tup xs)))
theorem pe_tupK {x1 : Nat} {t : TA} (h : PA X es t) : PE X (.Tuple es x1 pos) (tTupK t) := by
  refine ⟨fun pins s σ H Q I hq => ?_⟩
  refine wpAny_Tuple_spliced (thn (h.run pos pins s σ H _ I hq) fun us s1 ⟨xs, H1, I1, r, z, q⟩ => ⟨by rw [← r.length]; exact z, ?_⟩)
  exact tupK_new I1 z r q
def fTup (f : Fn (List Dv)) : Fn Dv := fun env s => (f env s).bind fun ds s1 => Rs.iff (decide (ds.length ≤ 16777216)) (.ok (.tup ds) s1)
/-- what a new tuple brings -/
theorem new_tup {K : PySem.W.Frag} {B : Lo} {H : Hp} {s : Sto} {ds : List Dv} {xs : List V} {Q : VK} (S : Sim K B H s) (r : Rps K B H ds xs)
    (hQ : ∀ (B' : Lo) (H' : Hp) (v : V), Ext B H B' H' → B'.hid = B.hid → Sim K B' H' s → Rp K B' H' (.tup ds) v → Q v H') {p : Addr} {o : Obj} (hp : H p = none) (hd : o.dict = none) : Q (.ref p) (upd H p (.frz o (.tup xs))) :=
  hQ B _ _ (Ext.laid hp) rfl (S.laid hp) (.tup (.inl ⟨o, upd_same, hd⟩) (r.mono (Ext.laid hp).mo))
theorem len_line {n : Nat} (h : n ≤ 16777216) : n ≤ sizeLine := by rw [sizeLine_eq]; exact h
theorem z_tup {x1 : Nat} (h : ZA X es fs) : ZE X (.Tuple es x1 pos) (fTup fs) := by
  refine pe_mono (pe_tupK h) fun σ H Q q => ?_
  obtain ⟨B, env, s, d', s', hE, hS, hf, hQ⟩ := q
  obtain ⟨ds, s1, h1, hf⟩ := Rs.bind_ok hf
  obtain ⟨hz, hf⟩ := Rs.iff_ok hf
  have hz := of_decide_eq_true hz
  cases hf
  refine ⟨B, env, s, _, _, hE, hS, h1, fun B1 H1 xs x1 e1 S1 r1 => ⟨len_line (r1.length ▸ hz), fun p o hp hd => ?_⟩⟩
  exact new_tup S1 r1 (fun B' H' v x e S r => hQ B' H' v (x1.trans x) (e.trans e1) S r) hp hd
theorem new_none {K : PySem.W.Frag} {B B1 B' : Lo} {H H1 H' : Hp} {s : Sto} {p : Addr} (x1 : Ext B H B1 H1) (x : Ext B1 H1 ⟨B'.locs, p :: B'.hid⟩ H') (S : Sim K ⟨B'.locs, p :: B'.hid⟩ H' s) (hn : H1 p = none) : H p = none :=
  x1.was_none hn fun z => (S.hid p List.mem_cons_self).1 (x.mo.pre.subset (x1.mo.pre.subset z))
def fLst (f : Fn (List Dv)) : Fn (List Dv) := fun env s => (f env s).bind fun ds s1 => Rs.iff (decide (ds.length ≤ 16777216)) (.ok ds s1)
/-- what a new list brings -/
theorem new_lst {K : PySem.W.Frag} {B : Lo} {H : Hp} {s : Sto} {ds : List Dv} {xs : List V} {Q : VK} (S : Sim K B H s) (r : Rps K B H ds xs) {p : Addr} (hp : H p = none)
    (hQ : ∀ (B' : Lo) (H' : Hp) (p : Addr) (xs : List V), Ext B H ⟨B'.locs, p :: B'.hid⟩ H' → B'.hid = B.hid → Sim K ⟨B'.locs, p :: B'.hid⟩ H' s → p ∉ B'.hid → H p = none → H' p = some (.lst xs) → Rps K ⟨B'.locs, p :: B'.hid⟩ H' ds xs → Q (.ref p) H') :
    Q (.ref p) (upd H p (.lst xs)) :=
  hQ B _ p xs (Ext.aside hp) rfl (S.aside hp) (S.freeH hp) hp upd_same (r.mono (Ext.aside hp).mo)
theorem z_lst (h : ZA X es fs) : ZL X (.List es pos) (fLst fs) := by
  refine pe_mono (pe_lst h) fun σ H Q q => ?_
  obtain ⟨B, env, s, d', s', hE, hS, hf, hQ⟩ := q
  obtain ⟨ds, s1, h1, hf⟩ := Rs.bind_ok hf
  obtain ⟨hz, hf⟩ := Rs.iff_ok hf
  have hz := of_decide_eq_true hz
  cases hf
  refine ⟨B, env, s, _, _, hE, hS, h1, fun B1 H1 xs x1 e1 S1 r1 => ⟨len_line (r1.length ▸ hz), fun p hp => ?_⟩⟩
  exact new_lst S1 r1 hp fun B' H' p xs x e S hh hn hl r => hQ B' H' p xs (x1.trans x) (e.trans e1) S hh (new_none x1 x S hn) hl r
/-- a new list as a value that nobody changes -/
def fVal (f : Fn (List Dv)) : Fn Dv := fun env s => (f env s).bind fun ds s1 => .ok (.ls ds) s1
theorem z_val {f : Fn (List Dv)} (h : ZL X e f) : ZE X e (fVal f) := by
  refine pe_mono h fun σ H Q q => ?_
  obtain ⟨B, env, s, d', s', hE, hS, hf, hQ⟩ := q
  obtain ⟨ds, s1, h1, hf⟩ := Rs.bind_ok hf
  cases hf
  refine ⟨B, env, s, _, _, hE, hS, h1, fun B1 H1 p xs x1 e1 S1 hh hn hl r1 => ?_⟩
  have S2 := S1.back
  refine hQ ⟨B1.locs, B1.hid⟩ H1 _ (x1.drop fun b hb => by rw [e1]; exact hb) e1 S2 (.ls (.inl ⟨hl, (S1.hid p List.mem_cons_self).1, hh⟩) (r1.mono Mo.back))
/-- .. as a thing of the store -/
def fNew (f : Fn (List Dv)) : Fn Dv := fun env s => (f env s).bind fun ds s1 => .ok (.loc s1.length) (s1 ++ [.lst ds])
theorem z_new {f : Fn (List Dv)} (h : ZL X e f) : ZE X e (fNew f) := by
  refine pe_mono h fun σ H Q q => ?_
  obtain ⟨B, env, s, d', s', hE, hS, hf, hQ⟩ := q
  obtain ⟨ds, s1, h1, hf⟩ := Rs.bind_ok hf
  cases hf
  refine ⟨B, env, s, _, _, hE, hS, h1, fun B1 H1 p xs x1 e1 S1 hh hn hl r1 => ?_⟩
  refine hQ ⟨B1.locs ++ [p], B1.hid⟩ H1 _ (x1.adopt hn fun b hb => by rw [e1]; exact hb) e1 (S1.adopt hh ⟨xs, hl, r1⟩) (.loc ?_)
  rw [← S1.len]
  show (B1.locs ++ [p])[B1.locs.length]? = some p
  rw [List.getElem?_append_right (Nat.le_refl _)]
  simp
end
end Z

namespace Z
open PySem PySem.Spec PyProof.Rows L2

/-! ### operators by data -/
def PostZ (K : PySem.W.Frag) (B : Lo) (H : Hp) (s' : Sto) (d : Dv) (Q : VK) : Prop := ∀ (B' : Lo) (H' : Hp) (v : V), Ext B H B' H' → B'.hid = B.hid → Sim K B' H' s' → Rp K B' H' d v → Q v H'
theorem PostZ.same {K : PySem.W.Frag} {B : Lo} {H : Hp} {s : Sto} {d : Dv} {Q : VK} (h : PostZ K B H s d Q) (S : Sim K B H s) {v : V} (r : Rp K B H d v) : Q v H := h B H v (Ext.refl _ _) rfl S r
def OpZ (K : PySem.W.Frag) (r : R2) (g : Dv → Dv → Sto → Rs Dv) : Prop :=
  ∀ (B : Lo) (H : Hp) (s : Sto) (x y : Dv) (v w : V) (d : Dv) (s' : Sto) (Q : VK), Sim K B H s → Rp K B H x v → Rp K B H y w → g x y s = .ok d s' → PostZ K B H s' d Q → r v w H Q
def fBin (g : Dv → Dv → Sto → Rs Dv) (f1 f2 : Fn Dv) : Fn Dv := fun env s => (f1 env s).bind fun x s1 => (f2 env s1).bind fun y s2 => g x y s2
section
variable {X : Cx} {a b c e : Expr} {es : List Expr} {fa fb fc : Fn Dv} {fs : Fn (List Dv)} {pos : Pos} {g g' : Dv → Dv → Sto → Rs Dv} {r r' : R2}
theorem OpR.or {f : Value → Value → Sem Value} {r r' : R2} (h : OpR X f r) (h' : OpR X f r') : OpR X f (fun x y H Q => r x y H Q ∨ r' x y H Q) := by
  intro pins s σ H x y v u Q I rx ry q
  rcases q with q | q
  · exact h pins s σ H x y v u Q I rx ry q
  · exact h' pins s σ H x y v u Q I rx ry q
theorem bin_to (hg : OpZ X.K r g) : ∀ σ H Q, tOf X.K (fBin g fa fb) σ H Q → tOp r (tOf X.K fa) (tOf X.K fb) σ H Q := fun σ H Q q => by
  obtain ⟨B, env, s, d, s', hE, hS, hf, hQ⟩ := q
  obtain ⟨x, s1, h1, hf⟩ := Rs.bind_ok hf
  obtain ⟨y, s2, h2, hf⟩ := Rs.bind_ok hf
  refine ⟨B, env, s, _, _, hE, hS, h1, fun B1 H1 v x1 e1 S1 r1 => ?_⟩
  refine ⟨B1, env, s1, _, _, hE.mono x1.mo, S1, h2, fun B2 H2 w x2 e2 S2 r2 => ?_⟩
  exact hg B2 H2 s2 x y v w d s' Q S2 (r1.mono x2.mo) r2 hf fun B3 H3 u x3 e3 S3 r3 => hQ B3 H3 u (x1.trans (x2.trans x3)) (e3.trans (e2.trans e1)) S3 r3
theorem z_op {op : Operator} (ho : OpR X (binaryOp op) r) (hg : OpZ X.K r g) (ha : ZE X a fa) (hb : ZE X b fb) : ZE X (.BinOp a op b pos) (fBin g fa fb) := pe_mono (pe_op ho ha hb) (bin_to hg)
theorem z_cmp {op : CmpOp} (ho : OpR X (compareOp op) r) (hg : OpZ X.K r g) (ha : ZE X a fa) (hb : ZE X b fb) (hm : behindInMarks op b = false) : ZE X (.Compare a [op] [b] pos) (fBin g fa fb) := pe_mono (pe_cmpR ho ha hb hm) (bin_to hg)
/-- a truth's truth -/
def fTest (f : Fn Dv) : Fn Bool := fun env s => (f env s).bind fun d s1 => match d with | .bl b => .ok b s1 | _ => .bad
theorem fTest_ok {f : Fn Dv} {env : En} {s s' : Sto} {b : Bool} (h : fTest f env s = .ok b s') : f env s = .ok (.bl b) s' := by
  obtain ⟨d, s1, h1, h⟩ := Rs.bind_ok h
  cases d with
  | bl b' => cases h; exact h1
  | _ => cases h
theorem test_to {t : TE} {f : Fn Dv} (ht : ∀ σ H Q, tOf X.K f σ H Q → t σ H Q) : ∀ σ H Q, tOfT X.K (fTest f) σ H Q → tTest t σ H Q := fun σ H Q q => by
  obtain ⟨B, env, s, b, s', hE, hS, hf, hQ⟩ := q
  refine ht _ _ _ ⟨B, env, s, _, _, hE, hS, fTest_ok hf, fun B1 H1 v x1 e1 S1 r1 => ?_⟩
  cases r1
  exact ⟨b, rfl, hQ B1 H1 x1 e1 S1⟩
theorem z_cmpT {op : CmpOp} (ho : OpR X (compareOp op) r) (hg : OpZ X.K r g) (ha : ZE X a fa) (hb : ZE X b fb) (hm : behindInMarks op b = false) : ZT X (.Compare a [op] [b] pos) (fTest (fBin g fa fb)) :=
  pt_mono (pt_cmpR ho ha hb hm) (test_to (bin_to hg))
theorem z_valT (ha : ZE X a fa) (he : ∀ whole, isTrue a X.env whole = (do let v ← whole; standAt a.pos; holding [v] (truthy v)) := by intro _; rfl) : ZT X a (fTest fa) :=
  pt_mono (pt_val ha he) (test_to fun _ _ _ h => h)
/-- a op b op' c -/
def fChain (g g' : Dv → Dv → Sto → Rs Dv) (f1 f2 f3 : Fn Dv) : Fn Dv := fun env s => (f1 env s).bind fun x s1 => (f2 env s1).bind fun y s2 => (g x y s2).bind fun t s3 => match t with
  | .bl true => (f3 env s3).bind fun z s4 => g' y z s4
  | .bl false => .ok (.bl false) s3
  | _ => .bad
theorem chain_to (hg : OpZ X.K r g) (hg' : OpZ X.K r' g') : ∀ σ H Q, tOf X.K (fChain g g' fa fb fc) σ H Q → tChain r r' (tOf X.K fa) (tOf X.K fb) (tOf X.K fc) σ H Q := fun σ H Q q => by
  obtain ⟨B, env, s, d, s', hE, hS, hf, hQ⟩ := q
  obtain ⟨x, s1, h1, hf⟩ := Rs.bind_ok hf
  obtain ⟨y, s2, h2, hf⟩ := Rs.bind_ok hf
  obtain ⟨t, s3, h3, hf⟩ := Rs.bind_ok hf
  refine ⟨B, env, s, _, _, hE, hS, h1, fun B1 H1 v x1 e1 S1 r1 => ?_⟩
  refine ⟨B1, env, s1, _, _, hE.mono x1.mo, S1, h2, fun B2 H2 w x2 e2 S2 r2 => ?_⟩
  refine hg B2 H2 s2 x y v w t s3 _ S2 (r1.mono x2.mo) r2 h3 fun B3 H3 u x3 e3 S3 r3 => ?_
  cases t with
  | bl k =>
    cases r3
    refine ⟨k, rfl, ?_⟩
    cases k with
    | false =>
      cases hf
      rw [if_neg Bool.false_ne_true]
      exact hQ B3 H3 _ (x1.trans (x2.trans x3)) (e3.trans (e2.trans e1)) S3 (.bl false)
    | true =>
      obtain ⟨z, s4, h4, hf⟩ := Rs.bind_ok hf
      rw [if_pos rfl]
      refine ⟨B3, env, s3, _, _, hE.mono (x1.trans (x2.trans x3)).mo, S3, h4, fun B4 H4 w' x4 e4 S4 r4 => ?_⟩
      exact hg' B4 H4 s4 y z w w' d s' Q S4 (r2.mono (x3.trans x4).mo) r4 hf fun B5 H5 u x5 e5 S5 r5 => hQ B5 H5 u (x1.trans (x2.trans (x3.trans (x4.trans x5)))) (e5.trans (e4.trans (e3.trans (e2.trans e1)))) S5 r5
  | _ => cases hf
theorem z_chain {op op' : CmpOp} (ho : OpR X (compareOp op) r) (ho' : OpR X (compareOp op') r') (hg : OpZ X.K r g) (hg' : OpZ X.K r' g') (ha : ZE X a fa) (hb : ZE X b fb) (hc : ZE X c fc) (hm : lastMarks [op, op'] [b, c] = false := by with_unfolding_all rfl) :
    ZE X (.Compare a [op, op'] [b, c] pos) (fChain g g' fa fb fc) := pe_mono (pe_chain ho ho' ha hb hc hm) (chain_to hg hg')
theorem z_chainT {op op' : CmpOp} (ho : OpR X (compareOp op) r) (ho' : OpR X (compareOp op') r') (hg : OpZ X.K r g) (hg' : OpZ X.K r' g') (ha : ZE X a fa) (hb : ZE X b fb) (hc : ZE X c fc) (hm : lastMarks [op, op'] [b, c] = false := by with_unfolding_all rfl) :
    ZT X (.Compare a [op, op'] [b, c] pos) (fTest (fChain g g' fa fb fc)) := pt_mono (pt_chain ho ho' ha hb hc hm) (test_to (chain_to hg hg'))

/-! ### and, or, not, if else -/
def fAndT (f g : Fn Bool) : Fn Bool := fun env s => (f env s).bind fun b s1 => if b = true then g env s1 else .ok false s1
def fOrT (f g : Fn Bool) : Fn Bool := fun env s => (f env s).bind fun b s1 => if b = true then .ok true s1 else g env s1
def fNotT (f : Fn Bool) : Fn Bool := fun env s => (f env s).bind fun b s1 => .ok (!b) s1
abbrev ZW (X : Cx) (e : Expr) (f : Fn Bool) : Prop := PW X e (tOfT X.K f)
theorem pw_mono {e : Expr} {t t' : TT} (h : PW X e t) (hh : ∀ σ H Q, t' σ H Q → t σ H Q) : PW X e t' := ⟨fun wh pins s σ H Q I q => h.run wh pins s σ H Q I (hh _ _ _ q)⟩
variable {ta tb : Fn Bool} {rest : List Expr}
theorem w_and1 (ha : ZT X a ta) : ZW X (.BoolOp .And [a] pos) ta := pw_and1 ha
theorem w_or1 (ha : ZT X a ta) : ZW X (.BoolOp .Or [a] pos) ta := pw_or1 ha
theorem w_and (ha : ZT X a ta) (hb : ZW X (.BoolOp .And (b :: rest) pos) tb) : ZW X (.BoolOp .And (a :: b :: rest) pos) (fAndT ta tb) := by
  refine pw_mono (pw_and ha hb) fun σ H Q q => ?_
  obtain ⟨B, env, s, d, s', hE, hS, hf, hQ⟩ := q
  obtain ⟨x, s1, h1, hf⟩ := Rs.bind_ok hf
  refine ⟨B, env, s, _, _, hE, hS, h1, fun B1 H1 x1 e1 S1 => ?_⟩
  split at hf
  · rename_i hx
    rw [if_pos hx]
    exact ⟨B1, env, s1, _, _, hE.mono x1.mo, S1, hf, fun B2 H2 x2 e2 S2 => hQ B2 H2 (x1.trans x2) (e2.trans e1) S2⟩
  · rename_i hx
    rw [if_neg hx]
    cases hf
    exact hQ B1 H1 x1 e1 S1
theorem w_or (ha : ZT X a ta) (hb : ZW X (.BoolOp .Or (b :: rest) pos) tb) : ZW X (.BoolOp .Or (a :: b :: rest) pos) (fOrT ta tb) := by
  refine pw_mono (pw_or ha hb) fun σ H Q q => ?_
  obtain ⟨B, env, s, d, s', hE, hS, hf, hQ⟩ := q
  obtain ⟨x, s1, h1, hf⟩ := Rs.bind_ok hf
  refine ⟨B, env, s, _, _, hE, hS, h1, fun B1 H1 x1 e1 S1 => ?_⟩
  split at hf
  · rename_i hx
    rw [if_pos hx]
    cases hf
    exact hQ B1 H1 x1 e1 S1
  · rename_i hx
    rw [if_neg hx]
    exact ⟨B1, env, s1, _, _, hE.mono x1.mo, S1, hf, fun B2 H2 x2 e2 S2 => hQ B2 H2 (x1.trans x2) (e2.trans e1) S2⟩
theorem z_wT (h : ZW X e ta) : ZT X e ta := h.pt
theorem z_notT (ha : ZT X a ta) : ZT X (.UnaryOp .Not a pos) (fNotT ta) := by
  refine pt_mono (pt_not ha) fun σ H Q q => ?_
  obtain ⟨B, env, s, d, s', hE, hS, hf, hQ⟩ := q
  obtain ⟨x, s1, h1, hf⟩ := Rs.bind_ok hf
  refine ⟨B, env, s, _, _, hE, hS, h1, fun B1 H1 x1 e1 S1 => ?_⟩
  cases hf
  exact hQ B1 H1 x1 e1 S1
def fAnd (f g : Fn Dv) : Fn Dv := fun env s => (fTest f env s).bind fun b s1 => if b = true then g env s1 else .ok (.bl false) s1
def fOr (f g : Fn Dv) : Fn Dv := fun env s => (fTest f env s).bind fun b s1 => if b = true then .ok (.bl true) s1 else g env s1
def fNot (f : Fn Dv) : Fn Dv := fun env s => (fTest f env s).bind fun b s1 => .ok (.bl (!b)) s1
theorem z_one {op} (h : ZE X a fa) : ZE X (.BoolOp op [a] pos) fa := pe_one h
theorem z_and (ha : ZE X a fa) (hb : ZE X (.BoolOp .And (b :: rest) pos) fb) : ZE X (.BoolOp .And (a :: b :: rest) pos) (fAnd fa fb) := by
  refine pe_mono (pe_and ha hb) fun σ H Q q => ?_
  obtain ⟨B, env, s, d, s', hE, hS, hf, hQ⟩ := q
  obtain ⟨x, s1, h1, hf⟩ := Rs.bind_ok hf
  refine ⟨B, env, s, _, _, hE, hS, fTest_ok h1, fun B1 H1 v x1 e1 S1 r1 => ?_⟩
  cases r1
  refine ⟨x, rfl, ?_⟩
  split at hf
  · rename_i hx
    rw [if_pos hx]
    exact ⟨B1, env, s1, _, _, hE.mono x1.mo, S1, hf, fun B2 H2 v x2 e2 S2 r2 => hQ B2 H2 v (x1.trans x2) (e2.trans e1) S2 r2⟩
  · rename_i hx
    rw [if_neg hx]
    cases hf
    exact hQ B1 H1 _ x1 e1 S1 (.bl false)
theorem z_or (ha : ZE X a fa) (hb : ZE X (.BoolOp .Or (b :: rest) pos) fb) : ZE X (.BoolOp .Or (a :: b :: rest) pos) (fOr fa fb) := by
  refine pe_mono (pe_or ha hb) fun σ H Q q => ?_
  obtain ⟨B, env, s, d, s', hE, hS, hf, hQ⟩ := q
  obtain ⟨x, s1, h1, hf⟩ := Rs.bind_ok hf
  refine ⟨B, env, s, _, _, hE, hS, fTest_ok h1, fun B1 H1 v x1 e1 S1 r1 => ?_⟩
  cases r1
  refine ⟨x, rfl, ?_⟩
  split at hf
  · rename_i hx
    rw [if_pos hx]
    cases hf
    exact hQ B1 H1 _ x1 e1 S1 (.bl true)
  · rename_i hx
    rw [if_neg hx]
    exact ⟨B1, env, s1, _, _, hE.mono x1.mo, S1, hf, fun B2 H2 v x2 e2 S2 r2 => hQ B2 H2 v (x1.trans x2) (e2.trans e1) S2 r2⟩
theorem z_not (ha : ZE X a fa) : ZE X (.UnaryOp .Not a pos) (fNot fa) := by
  refine pe_mono (pe_not ha) fun σ H Q q => ?_
  obtain ⟨B, env, s, d, s', hE, hS, hf, hQ⟩ := q
  obtain ⟨x, s1, h1, hf⟩ := Rs.bind_ok hf
  refine ⟨B, env, s, _, _, hE, hS, fTest_ok h1, fun B1 H1 v x1 e1 S1 r1 => ?_⟩
  cases r1
  cases hf
  exact ⟨x, rfl, hQ B1 H1 _ x1 e1 S1 (.bl _)⟩
def fIf (t : Fn Bool) (f g : Fn Dv) : Fn Dv := fun env s => (t env s).bind fun b s1 => if b = true then f env s1 else g env s1
theorem z_if (hc : ZT X c ta) (ha : ZE X a fa) (hb : ZE X b fb) : ZE X (.IfExp c a b pos) (fIf ta fa fb) := by
  refine pe_mono (pe_ifExp hc ha hb) fun σ H Q q => ?_
  obtain ⟨B, env, s, d, s', hE, hS, hf, hQ⟩ := q
  obtain ⟨x, s1, h1, hf⟩ := Rs.bind_ok hf
  refine ⟨B, env, s, _, _, hE, hS, h1, fun B1 H1 x1 e1 S1 => ?_⟩
  split at hf
  · rename_i hx
    rw [if_pos hx]
    exact ⟨B1, env, s1, _, _, hE.mono x1.mo, S1, hf, fun B2 H2 v x2 e2 S2 r2 => hQ B2 H2 v (x1.trans x2) (e2.trans e1) S2 r2⟩
  · rename_i hx
    rw [if_neg hx]
    exact ⟨B1, env, s1, _, _, hE.mono x1.mo, S1, hf, fun B2 H2 v x2 e2 S2 r2 => hQ B2 H2 v (x1.trans x2) (e2.trans e1) S2 r2⟩
/-- one thing in, by its rule -/
def UnZ (K : PySem.W.Frag) (r : V → Hp → VK → Prop) (g : Dv → Sto → Rs Dv) : Prop :=
  ∀ (B : Lo) (H : Hp) (s : Sto) (x : Dv) (v : V) (d : Dv) (s' : Sto) (Q : VK), Sim K B H s → Rp K B H x v → g x s = .ok d s' → PostZ K B H s' d Q → r v H Q
def fUn (g : Dv → Sto → Rs Dv) (f : Fn Dv) : Fn Dv := fun env s => (f env s).bind fun x s1 => g x s1
theorem z_un {op : UnaryOp} {r : V → Hp → VK → Prop} {g : Dv → Sto → Rs Dv} (ho : UnR X (unaryOp op) r) (hg : UnZ X.K r g) (ha : ZE X a fa) : ZE X (.UnaryOp op a pos) (fUn g fa) := by
  refine pe_mono (pe_un ho ha) fun σ H Q q => ?_
  obtain ⟨B, env, s, d, s', hE, hS, hf, hQ⟩ := q
  obtain ⟨x, s1, h1, hf⟩ := Rs.bind_ok hf
  refine ⟨B, env, s, _, _, hE, hS, h1, fun B1 H1 v x1 e1 S1 r1 => ?_⟩
  exact hg B1 H1 s1 x v d s' Q S1 r1 hf fun B2 H2 u x2 e2 S2 r2 => hQ B2 H2 u (x1.trans x2) (e2.trans e1) S2 r2
end

/-! ### the operators themselves -/
def gI (g : Int → Int → Dv) : Dv → Dv → Sto → Rs Dv := fun x y s => match x, y with | .int i, .int j => .ok (g i j) s | _, _ => .bad
def gIc (c : Int → Int → Bool) (g : Int → Int → Dv) : Dv → Dv → Sto → Rs Dv := fun x y s => match x, y with | .int i, .int j => Rs.iff (c i j) (.ok (g i j) s) | _, _ => .bad
theorem gI_ok {g : Int → Int → Dv} {x y d : Dv} {s s' : Sto} (h : gI g x y s = .ok d s') : ∃ i j, x = .int i ∧ y = .int j ∧ d = g i j ∧ s' = s := by
  unfold gI at h
  split at h
  · cases h; exact ⟨_, _, rfl, rfl, rfl, rfl⟩
  · cases h
theorem gIc_ok {c : Int → Int → Bool} {g : Int → Int → Dv} {x y d : Dv} {s s' : Sto} (h : gIc c g x y s = .ok d s') : ∃ i j, x = .int i ∧ y = .int j ∧ c i j = true ∧ d = g i j ∧ s' = s := by
  unfold gIc at h
  split at h
  · obtain ⟨h1, h2⟩ := Rs.iff_ok h
    cases h2; exact ⟨_, _, rfl, rfl, h1, rfl, rfl⟩
  · cases h
section
variable {K : PySem.W.Frag}
theorem oz_int {f : Int → Int → Int} : OpZ K (rI0 fun i j => .int (f i j)) (gI fun i j => .int (f i j)) := by
  intro B H s x y v w d s' Q S rx ry h q
  obtain ⟨i, j, rfl, rfl, rfl, rfl⟩ := gI_ok h
  cases rx; cases ry
  exact ⟨i, j, rfl, rfl, q.same S (.int _)⟩
theorem oz_intB {f : Int → Int → Bool} : OpZ K (rI0 fun i j => .bl (f i j)) (gI fun i j => .bl (f i j)) := by
  intro B H s x y v w d s' Q S rx ry h q
  obtain ⟨i, j, rfl, rfl, rfl, rfl⟩ := gI_ok h
  cases rx; cases ry
  exact ⟨i, j, rfl, rfl, q.same S (.bl _)⟩
theorem oz_intC {C : Int → Int → Prop} {c : Int → Int → Bool} {f : Int → Int → Int} (hc : ∀ i j, c i j = true → C i j) : OpZ K (rI C fun i j => .int (f i j)) (gIc c fun i j => .int (f i j)) := by
  intro B H s x y v w d s' Q S rx ry h q
  obtain ⟨i, j, rfl, rfl, hcc, rfl, rfl⟩ := gIc_ok h
  cases rx; cases ry
  exact ⟨i, j, rfl, rfl, hc _ _ hcc, q.same S (.int _)⟩
def cDiv (_ j : Int) : Bool := decide (0 < j) && decide (j < 2 ^ 64)
def cMod (_ j : Int) : Bool := decide (0 < j)
def cPow (i j : Int) : Bool := decide (0 ≤ j) && decide (j ≤ 1000000) && decide (-(2 ^ 64) < i) && decide (i < 2 ^ 64)
def cMul (i j : Int) : Bool := (decide (-(2 ^ 64) < i) && decide (i < 2 ^ 64)) || (decide (-(2 ^ 64) < j) && decide (j < 2 ^ 64))
theorem cDiv_ok (i j : Int) (h : cDiv i j = true) : CDivW i j := by
  unfold cDiv at h
  simp only [Bool.and_eq_true, decide_eq_true_eq] at h
  exact wide_div (b := 64) h.1 (by omega) (by decide) (by decide)
theorem cMod_ok (i j : Int) (h : cMod i j = true) : 0 < j := of_decide_eq_true h
theorem cPow_ok (i j : Int) (h : cPow i j = true) : CPow i j := by
  unfold cPow at h
  simp only [Bool.and_eq_true, decide_eq_true_eq] at h
  exact ⟨h.1.1.1, h.1.1.2, by omega⟩
theorem cMul_ok (i j : Int) (h : cMul i j = true) : CMul i j := by
  unfold cMul at h
  simp only [Bool.or_eq_true, Bool.and_eq_true, decide_eq_true_eq] at h
  exact h
/-- + of ints, texts, tuples -/
def gAdd (x y : Dv) (s : Sto) : Rs Dv := match x, y with
  | .int i, .int j => .ok (.int (i + j)) s
  | .str a, .str b => Rs.iff (decide (a.length + b.length ≤ 16777216)) (.ok (.str (a ++ b)) s)
  | .tup a, .tup b => Rs.iff (decide (a.length + b.length ≤ 16777216)) (.ok (.tup (a ++ b)) s)
  | _, _ => .bad
def rCatZ (K : PySem.W.Frag) : R2 := fun x y H Q => ∃ a b xs ys, x = .ref a ∧ y = .ref b ∧ SqT K H a xs ∧ SqT K H b ys ∧ xs.length + ys.length ≤ sizeLine ∧
  (xs = [] → Q (.ref b) H) ∧ (xs ≠ [] → ys = [] → Q (.ref a) H) ∧ (xs ≠ [] → ys ≠ [] → ∀ p o, H p = none → o.dict = none → Q (.ref p) (upd H p (.frz o (.tup (xs ++ ys)))))
theorem op_catZ {X : Cx} : OpR X (binaryOp .Add) (rCatZ X.K) := by
  intro pins s σ H x y v u Q I rx ry h
  obtain ⟨a, b, xs, ys, rfl, rfl, ha, hb, hz, q0, q1, q2⟩ := h
  cases rx
  cases ry
  obtain ⟨its, r1, p1, _⟩ := I.tuple ha
  obtain ⟨its2, r2, p2, _⟩ := I.tuple hb
  by_cases hx : xs = []
  · subst hx
    cases r1
    exact L2.cat_tup0 p1 p2 ⟨.ref b, H, I, rfl, q0 rfl⟩
  · refine HT.cat_tup p1 p2 (fun z => hx (r1.nil_iff.mp z)) (fun z => ⟨.ref a, H, I, rfl, q1 hx (r2.nil_iff.mp z)⟩) (fun z => ?_) (by rw [← r1.length, ← r2.length]; exact hz)
    exact tupK_new I (by rw [List.length_append]; exact hz) (r1.append r2) (q2 hx fun w => z (r2.nil_iff.mpr w))
def rAddZ (K : PySem.W.Frag) : R2 := fun x y H Q => ((rI0 (fun i j => .int (i + j)) x y H Q) ∨ (∃ i j : Str, x = .str i ∧ y = .str j ∧ i.length + j.length ≤ sizeLine ∧ Q (.str (i ++ j)) H)) ∨ rCatZ K x y H Q
theorem op_addZ {X : Cx} : OpR X (binaryOp .Add) (rAddZ X.K) := OpR.or (OpR.or op_add op_add_str) op_catZ
theorem oz_add : OpZ K (rAddZ K) gAdd := by
  intro B H s x y v w d s' Q S rx ry h q
  unfold gAdd at h
  split at h
  · cases h
    cases rx; cases ry
    exact .inl (.inl ⟨_, _, rfl, rfl, q.same S (.int _)⟩)
  · obtain ⟨hz, h⟩ := Rs.iff_ok h
    cases h
    cases rx; cases ry
    exact .inl (.inr ⟨_, _, rfl, rfl, len_line (of_decide_eq_true hz), q.same S (.str _)⟩)
  · obtain ⟨hz, h⟩ := Rs.iff_ok h
    cases h
    cases rx with
    | tup h1 r1 =>
      cases ry with
      | tup h2 r2 =>
        rename_i a xs b ys
        refine .inr ⟨_, _, _, _, rfl, rfl, h1.sq, h2.sq, len_line (by rw [← r1.length, ← r2.length]; exact of_decide_eq_true hz), fun e => ?_, fun _ e => ?_, fun _ _ p o hp hd => ?_⟩
        · subst e
          cases r1
          exact q.same S (.tup h2 r2)
        · subst e
          cases r2
          refine q.same S (.tup h1 ?_)
          rw [List.append_nil]; exact r1
        · exact new_tup S (r1.append r2) q hp hd
  · cases h
/-- * of ints, of a tuple and an int -/
def gMul (x y : Dv) (s : Sto) : Rs Dv := match x, y with
  | .int i, .int j => Rs.iff (cMul i j) (.ok (.int (i * j)) s)
  | _, _ => .bad
theorem oz_mul : OpZ K (rI CMul fun i j => .int (i * j)) gMul := oz_intC (c := cMul) (f := fun i j => i * j) cMul_ok
end
section
variable {G : Gz} {bs : List Str} {k : Nat} {X : Cx} {N : List Str} {nm : List (Str × NameKind)} {ow : Str → Bool} {a b c e : Expr} {fa fb fc : Fn Dv} {pos : Pos}
def gSub := gI fun i j => .int (i - j)
def gDiv := gIc cDiv fun i j => .int (i / j)
def gMod := gIc cMod fun i j => .int (i % j)
def gPow := gIc cPow fun i j => .int (i ^ j.toNat)
theorem z_add (ha : ZE X a fa) (hb : ZE X b fb) : ZE X (.BinOp a .Add b pos) (fBin gAdd fa fb) := z_op op_addZ oz_add ha hb
theorem z_sub (ha : ZE X a fa) (hb : ZE X b fb) : ZE X (.BinOp a .Sub b pos) (fBin gSub fa fb) := z_op op_sub oz_int ha hb
theorem z_mul (ha : ZE X a fa) (hb : ZE X b fb) : ZE X (.BinOp a .Mult b pos) (fBin gMul fa fb) := z_op op_mul oz_mul ha hb
theorem z_div (ha : ZE X a fa) (hb : ZE X b fb) : ZE X (.BinOp a .FloorDiv b pos) (fBin gDiv fa fb) := z_op op_fdivW (oz_intC cDiv_ok) ha hb
theorem z_mod (ha : ZE X a fa) (hb : ZE X b fb) : ZE X (.BinOp a .Mod b pos) (fBin gMod fa fb) := z_op op_mod (oz_intC cMod_ok) ha hb
theorem z_pow (ha : ZE X a fa) (hb : ZE X b fb) : ZE X (.BinOp a .Pow b pos) (fBin gPow fa fb) := z_op op_pow (oz_intC cPow_ok) ha hb
def gNeg (x : Dv) (s : Sto) : Rs Dv := match x with | .int i => .ok (.int (-i)) s | _ => .bad
theorem z_neg (ha : ZE X a fa) : ZE X (.UnaryOp .USub a pos) (fUn gNeg fa) := z_un un_neg (fun B H s x v d s' Q S rx h q => by
  cases x with
  | int i => cases h; cases rx; exact ⟨i, rfl, q.same S (.int _)⟩
  | _ => cases h) ha
end
end Z

namespace Z
open PySem PySem.Spec PyProof.Rows L2

/-! ### data of any depth -/
def py (s : Sto) : Nat → Dv → Option PyData
  | 0, _ => none
  | k + 1, d => match d with
    | .non => some .none
    | .bl b => some (.bool b)
    | .int i => some (.int i)
    | .str x => some (.str x)
    | .tup ds => (ds.mapM (py s k)).map .tuple
    | .ls ds => (ds.mapM (py s k)).map .list
    | .loc n => match s[n]? with
      | some (.lst ds) => (ds.mapM (py s k)).map .list
      | _ => none
abbrev pyOf (s : Sto) (d : Dv) : Option PyData := py s 40 d
theorem mapM_cons_some {α β : Type} {f : α → Option β} {a : α} {l : List α} {ys : List β} (h : (a :: l).mapM f = some ys) : ∃ y r, f a = some y ∧ l.mapM f = some r ∧ ys = y :: r := by
  rw [List.mapM_cons] at h
  cases e : f a with
  | none => rw [e] at h; cases h
  | some y =>
    rw [e] at h
    cases e2 : l.mapM f with
    | none => simp [e2] at h
    | some r => simp [e2] at h; exact ⟨y, r, rfl, rfl, h.symm⟩
section
variable {K : PySem.W.Frag} {B : Lo} {H : Hp} {s : Sto}
theorem dpAll_of {f : Dv → Option PyData} (hf : ∀ d v p, Rp K B H d v → f d = some p → Dp K H v p) : ∀ {ds : List Dv} {vs : List V} {ps : List PyData}, Rps K B H ds vs → ds.mapM f = some ps → DpAll K H vs ps
  | _, _, _, .nil, h => by simp at h; subst h; exact .nil
  | _, _, _, .cons h r, e => by
    obtain ⟨y, t, h1, h2, rfl⟩ := mapM_cons_some e
    exact .cons (hf _ _ _ h h1) (dpAll_of hf r h2)
theorem dp_of (S : Sim K B H s) : ∀ (k : Nat) (d : Dv) (v : V) (p : PyData), Rp K B H d v → py s k d = some p → Dp K H v p
  | 0, _, _, _, _, h => by cases h
  | k + 1, d, v, p, r, h => by
    cases r with
    | non => cases h; exact .non
    | bl b => cases h; exact .bl b
    | int i => cases h; exact .int i
    | str x => cases h; exact .str x
    | tup h1 h2 =>
      obtain ⟨ps, h3, rfl⟩ := Option.map_eq_some_iff.mp h
      exact .tup h1.sq (dpAll_of (dp_of S k) h2 h3)
    | ls h1 h2 =>
      obtain ⟨ps, h3, rfl⟩ := Option.map_eq_some_iff.mp h
      exact .lst h1.sq (dpAll_of (dp_of S k) h2 h3)
    | loc h1 =>
      rename_i n a
      obtain ⟨o, ho, ro⟩ := S.at h1
      have h' : (match s[n]? with | some (.lst ds) => (ds.mapM (py s k)).map .list | _ => none) = some p := h
      rw [ho] at h'
      cases o with
      | lst ds =>
        obtain ⟨xs, e1, e2⟩ := ro
        obtain ⟨ps, h3, rfl⟩ := Option.map_eq_some_iff.mp h'
        exact .lst (.of e1) (dpAll_of (dp_of S k) e2 h3)
      | _ => cases h'
end

/-! ### comparisons -/
def gEq (x y : Dv) (s : Sto) : Rs Dv := match x, y with
  | .int i, .int j => .ok (.bl (i == j)) s
  | .str i, .str j => .ok (.bl (i == j)) s
  | .bl i, .bl j => .ok (.bl (i == j)) s
  | .non, .non => .ok (.bl true) s
  | x, y => match pyOf s x, pyOf s y with
    | some p, some q => Rs.iff (SeqAt.shaped p && SeqAt.shaped q) (.ok (.bl (PyData.eqv p q)) s)
    | _, _ => .bad
def gNot (g : Dv → Dv → Sto → Rs Dv) : Dv → Dv → Sto → Rs Dv := fun x y s => (g x y s).bind fun d s1 => match d with | .bl b => .ok (.bl (!b)) s1 | _ => .bad
def gNe := gNot gEq
def rEqZ (K : PySem.W.Frag) : R2 := fun x y H Q => rEq x y H Q ∨ rEqD K x y H Q
def rNeZ (K : PySem.W.Frag) : R2 := fun x y H Q => rNe x y H Q ∨ rNeD K x y H Q
theorem gEq_cases {x y d : Dv} {s s' : Sto} (h : gEq x y s = .ok d s') : s' = s ∧ ((∃ i j, x = .int i ∧ y = .int j ∧ d = .bl (i == j)) ∨ (∃ i j, x = .str i ∧ y = .str j ∧ d = .bl (i == j)) ∨ (∃ i j, x = .bl i ∧ y = .bl j ∧ d = .bl (i == j)) ∨ (x = .non ∧ y = .non ∧ d = .bl true) ∨
    ∃ p q, pyOf s x = some p ∧ pyOf s y = some q ∧ SeqAt.shaped p = true ∧ SeqAt.shaped q = true ∧ d = .bl (PyData.eqv p q)) := by
  unfold gEq at h
  split at h
  · cases h; exact ⟨rfl, .inl ⟨_, _, rfl, rfl, rfl⟩⟩
  · cases h; exact ⟨rfl, .inr (.inl ⟨_, _, rfl, rfl, rfl⟩)⟩
  · cases h; exact ⟨rfl, .inr (.inr (.inl ⟨_, _, rfl, rfl, rfl⟩))⟩
  · cases h; exact ⟨rfl, .inr (.inr (.inr (.inl ⟨rfl, rfl, rfl⟩)))⟩
  · split at h
    · rename_i e1 e2
      obtain ⟨h1, h2⟩ := Rs.iff_ok h
      rw [Bool.and_eq_true] at h1
      cases h2
      exact ⟨rfl, .inr (.inr (.inr (.inr ⟨_, _, e1, e2, h1.1, h1.2, rfl⟩)))⟩
    · cases h
theorem oz_eq {K : PySem.W.Frag} : OpZ K (rEqZ K) gEq := by
  intro B H s x y v w d s' Q S rx ry h q
  obtain ⟨rfl, h⟩ := gEq_cases h
  rcases h with ⟨i, j, rfl, rfl, rfl⟩ | ⟨i, j, rfl, rfl, rfl⟩ | ⟨i, j, rfl, rfl, rfl⟩ | ⟨rfl, rfl, rfl⟩ | ⟨p, t, h1, h2, h3, h4, rfl⟩
  · cases rx; cases ry
    refine .inl ⟨rfl, ?_⟩
    rw [dec_int]; exact q.same S (.bl _)
  · cases rx; cases ry
    refine .inl ⟨rfl, ?_⟩
    rw [dec_str]; exact q.same S (.bl _)
  · cases rx; cases ry
    refine .inl ⟨rfl, ?_⟩
    rw [dec_bl]; exact q.same S (.bl _)
  · cases rx; cases ry
    exact .inl ⟨rfl, q.same S (.bl _)⟩
  · exact .inr ⟨p, t, dp_of S _ _ _ _ rx h1, dp_of S _ _ _ _ ry h2, h3, h4, q.same S (.bl _)⟩
theorem oz_ne {K : PySem.W.Frag} : OpZ K (rNeZ K) gNe := by
  intro B H s x y v w d s' Q S rx ry h q
  obtain ⟨b, s1, h, h5⟩ := Rs.bind_ok h
  obtain ⟨rfl, h⟩ := gEq_cases h
  rcases h with ⟨i, j, rfl, rfl, rfl⟩ | ⟨i, j, rfl, rfl, rfl⟩ | ⟨i, j, rfl, rfl, rfl⟩ | ⟨rfl, rfl, rfl⟩ | ⟨p, t, h1, h2, h3, h4, rfl⟩
  · cases rx; cases ry; cases h5
    refine .inl ⟨rfl, ?_⟩
    rw [dec_int]; exact q.same S (.bl _)
  · cases rx; cases ry; cases h5
    refine .inl ⟨rfl, ?_⟩
    rw [dec_str]; exact q.same S (.bl _)
  · cases rx; cases ry; cases h5
    refine .inl ⟨rfl, ?_⟩
    rw [dec_bl]; exact q.same S (.bl _)
  · cases rx; cases ry; cases h5
    exact .inl ⟨rfl, q.same S (.bl _)⟩
  · cases h5
    exact .inr ⟨p, t, dp_of S _ _ _ _ rx h1, dp_of S _ _ _ _ ry h2, h3, h4, q.same S (.bl _)⟩
/-- order of ints, of texts -/
def gOrd (f : Int → Int → Bool) (h : Str → Str → Bool) (x y : Dv) (s : Sto) : Rs Dv := match x, y with
  | .int i, .int j => .ok (.bl (f i j)) s
  | .str i, .str j => .ok (.bl (h i j)) s
  | _, _ => .bad
def strLt (i j : Str) : Bool := decide (i.cps.toList < j.cps.toList)
def rOrd (f : Int → Int → Bool) (h : Str → Str → Bool) : R2 := fun x y H Q => rI0 (fun i j => .bl (f i j)) x y H Q ∨ ∃ i j, x = .str i ∧ y = .str j ∧ Q (.bl (h i j)) H
theorem oz_ord {K : PySem.W.Frag} {f : Int → Int → Bool} {g : Str → Str → Bool} : OpZ K (rOrd f g) (gOrd f g) := by
  intro B H s x y v w d s' Q S rx ry h q
  unfold gOrd at h
  split at h
  · cases h; cases rx; cases ry
    exact .inl ⟨_, _, rfl, rfl, q.same S (.bl _)⟩
  · cases h; cases rx; cases ry
    exact .inr ⟨_, _, rfl, rfl, q.same S (.bl _)⟩
  · cases h
def gLt := gOrd (fun i j => decide (i < j)) strLt
def gLe := gOrd (fun i j => decide (i ≤ j)) (fun i j => !strLt j i)
def gGt := gOrd (fun i j => decide (j < i)) (fun i j => strLt j i)
def gGe := gOrd (fun i j => decide (j ≤ i)) (fun i j => !strLt i j)
section
variable {X : Cx}
theorem or_lt : OpR X (compareOp .Lt) (rOrd (fun i j => decide (i < j)) strLt) := OpR.or op_lt op_lt_str
theorem or_le : OpR X (compareOp .LtE) (rOrd (fun i j => decide (i ≤ j)) (fun i j => !strLt j i)) := OpR.or op_le op_le_str
theorem or_gt : OpR X (compareOp .Gt) (rOrd (fun i j => decide (j < i)) (fun i j => strLt j i)) := OpR.or op_gt op_gt_str
theorem or_ge : OpR X (compareOp .GtE) (rOrd (fun i j => decide (j ≤ i)) (fun i j => !strLt i j)) := OpR.or op_ge op_ge_str
end
/-- is, is not: None, truths -/
def gIs (x y : Dv) (s : Sto) : Rs Dv := match x, y with
  | .bl i, .bl j => .ok (.bl (i == j)) s
  | .non, .non => .ok (.bl true) s
  | _, .non => .ok (.bl false) s
  | _, _ => .bad
def gIsNot := gNot gIs
end Z

namespace Z
open PySem PySem.Spec PyProof.Rows L2
def rIsZ : R2 := fun x y H Q => (y = .non ∧ Q (.bl (decide (x = .non))) H) ∨ rIsB x y H Q
def rIsNotZ : R2 := fun x y H Q => (y = .non ∧ Q (.bl (!decide (x = .non))) H) ∨ rNotB x y H Q
theorem gIs_cases {x y d : Dv} {s s' : Sto} (h : gIs x y s = .ok d s') : s' = s ∧ ((∃ i j, x = .bl i ∧ y = .bl j ∧ d = .bl (i == j)) ∨ (x = .non ∧ y = .non ∧ d = .bl true) ∨ (x ≠ .non ∧ y = .non ∧ d = .bl false)) := by
  unfold gIs at h
  split at h
  · cases h; exact ⟨rfl, .inl ⟨_, _, rfl, rfl, rfl⟩⟩
  · cases h; exact ⟨rfl, .inr (.inl ⟨rfl, rfl, rfl⟩)⟩
  · rename_i hn
    cases h; exact ⟨rfl, .inr (.inr ⟨hn, rfl, rfl⟩)⟩
  · cases h
theorem rp_non {K : PySem.W.Frag} {B : Lo} {H : Hp} {d : Dv} {v : V} (r : Rp K B H d v) : v = .non ↔ d = .non := by
  cases r <;> simp
theorem oz_is {K : PySem.W.Frag} : OpZ K rIsZ gIs := by
  intro B H s x y v w d s' Q S rx ry h q
  replace h := gIs_cases h
  obtain ⟨rfl, h⟩ := h
  rcases h with ⟨i, j, rfl, rfl, rfl⟩ | ⟨rfl, rfl, rfl⟩ | ⟨hx, rfl, rfl⟩
  · cases rx; cases ry
    refine .inr ⟨i, j, rfl, rfl, ?_⟩
    rw [show decide (i = j) = (i == j) by cases i <;> cases j <;> rfl]; exact q.same S (.bl _)
  · cases rx; cases ry
    exact .inl ⟨rfl, q.same S (.bl _)⟩
  · cases ry
    refine .inl ⟨rfl, ?_⟩
    rw [decide_eq_false fun e => hx ((rp_non rx).mp e)]; exact q.same S (.bl _)
theorem oz_isnot {K : PySem.W.Frag} : OpZ K rIsNotZ gIsNot := by
  intro B H s x y v w d s' Q S rx ry h q
  replace h := Rs.bind_ok h
  obtain ⟨b, s1, h, h5⟩ := h
  replace h := gIs_cases h
  obtain ⟨rfl, h⟩ := h
  rcases h with ⟨i, j, rfl, rfl, rfl⟩ | ⟨rfl, rfl, rfl⟩ | ⟨hx, rfl, rfl⟩
  · cases rx; cases ry; cases h5
    refine .inr ⟨i, j, rfl, rfl, ?_⟩
    rw [show decide (i = j) = (i == j) by cases i <;> cases j <;> rfl]; exact q.same S (.bl _)
  · cases rx; cases ry; cases h5
    exact .inl ⟨rfl, q.same S (.bl _)⟩
  · cases ry; cases h5
    refine .inl ⟨rfl, ?_⟩
    rw [decide_eq_false fun e => hx ((rp_non rx).mp e)]; exact q.same S (.bl _)

/-! ### sequences -/
/-- what a list or a tuple holds -/
def seqOf (s : Sto) : Dv → Option (List Dv)
  | .tup ds => some ds
  | .ls ds => some ds
  | .loc n => match s[n]? with
    | some (.lst ds) => some ds
    | _ => none
  | _ => none
theorem seq_of {K : PySem.W.Frag} {B : Lo} {H : Hp} {s : Sto} (S : Sim K B H s) {d : Dv} {v : V} {ds : List Dv} (r : Rp K B H d v) (h : seqOf s d = some ds) : ∃ a xs, v = .ref a ∧ (SqL K H a xs ∨ SqT K H a xs) ∧ Rps K B H ds xs := by
  cases r with
  | tup h1 h2 => cases h; exact ⟨_, _, rfl, .inr h1.sq, h2⟩
  | ls h1 h2 => cases h; exact ⟨_, _, rfl, .inl h1.sq, h2⟩
  | loc h1 =>
    rename_i n a
    obtain ⟨o, ho, ro⟩ := S.at h1
    have h' : (match s[n]? with | some (.lst ds) => some ds | _ => none) = some ds := h
    rw [ho] at h'
    cases o with
    | lst es =>
      cases h'
      obtain ⟨xs, e1, e2⟩ := ro
      exact ⟨_, xs, rfl, .inl (.of e1), e2⟩
    | _ => cases h'
  | _ => cases h
/-- flat things -/
def fV : Dv → Option V
  | .non => some .non
  | .bl b => some (.bl b)
  | .int i => some (.int i)
  | .str x => some (.str x)
  | _ => none
theorem fV_of {K : PySem.W.Frag} {B : Lo} {H : Hp} {d : Dv} {v u : V} (r : Rp K B H d v) (h : fV d = some u) : v = u ∧ flatV u = true := by
  cases r <;> cases h <;> exact ⟨rfl, rfl⟩
theorem fVs_of {K : PySem.W.Frag} {B : Lo} {H : Hp} : ∀ {ds : List Dv} {vs us : List V}, Rps K B H ds vs → ds.mapM fV = some us → vs = us ∧ us.all flatV = true
  | _, _, _, .nil, h => by simp at h; subst h; exact ⟨rfl, rfl⟩
  | _, _, _, .cons r rr, h => by
    obtain ⟨y, t, h1, h2, rfl⟩ := mapM_cons_some h
    obtain ⟨rfl, e1⟩ := fV_of r h1
    obtain ⟨rfl, e2⟩ := fVs_of rr h2
    exact ⟨rfl, by simp [e1, e2]⟩
def gIn (x y : Dv) (s : Sto) : Rs Dv := match x, y with
  | .str a, .str b => .ok (.bl (!(Builtin.Str.occurrences b a 0 b.length 1).isEmpty)) s
  | x, y => match fV x, (seqOf s y).bind (·.mapM fV) with
    | some v, some vs => .ok (.bl (inV v vs)) s
    | _, _ => .bad
def gNotIn := gNot gIn
theorem gIn_cases {x y d : Dv} {s s' : Sto} (h : gIn x y s = .ok d s') : s' = s ∧ ((∃ a b, x = .str a ∧ y = .str b ∧ d = .bl (!(Builtin.Str.occurrences b a 0 b.length 1).isEmpty)) ∨
    ∃ v ds vs, fV x = some v ∧ seqOf s y = some ds ∧ ds.mapM fV = some vs ∧ d = .bl (inV v vs)) := by
  unfold gIn at h
  split at h
  · cases h; exact ⟨rfl, .inl ⟨_, _, rfl, rfl, rfl⟩⟩
  · split at h
    · rename_i v vs e1 e2
      obtain ⟨ds, e3, e4⟩ := Option.bind_eq_some_iff.mp e2
      cases h; exact ⟨rfl, .inr ⟨v, ds, vs, e1, e3, e4, rfl⟩⟩
    · cases h
def rInZ (K : PySem.W.Frag) : R2 := fun x y H Q => (∃ i j, x = .str i ∧ y = .str j ∧ Q (.bl (!(Builtin.Str.occurrences j i 0 j.length 1).isEmpty)) H) ∨ rIn K false x y H Q
def rNotInZ (K : PySem.W.Frag) : R2 := fun x y H Q => (∃ i j, x = .str i ∧ y = .str j ∧ Q (.bl (!(!(Builtin.Str.occurrences j i 0 j.length 1).isEmpty))) H) ∨ rIn K true x y H Q
theorem oz_in {K : PySem.W.Frag} : OpZ K (rInZ K) gIn := by
  intro B H s x y v w d s' Q S rx ry h q
  obtain ⟨rfl, h⟩ := gIn_cases h
  rcases h with ⟨a, b, rfl, rfl, rfl⟩ | ⟨u, ds, vs, h1, h2, h3, rfl⟩
  · cases rx; cases ry
    exact .inl ⟨a, b, rfl, rfl, q.same S (.bl _)⟩
  · obtain ⟨rfl, f1⟩ := fV_of rx h1
    obtain ⟨p, xs, rfl, hq, rr⟩ := seq_of S ry h2
    obtain ⟨rfl, f2⟩ := fVs_of rr h3
    exact .inr ⟨p, xs, rfl, hq, f1, f2, q.same S (.bl _)⟩
theorem oz_notin {K : PySem.W.Frag} : OpZ K (rNotInZ K) gNotIn := by
  intro B H s x y v w d s' Q S rx ry h q
  obtain ⟨b, s1, h, h5⟩ := Rs.bind_ok h
  obtain ⟨rfl, h⟩ := gIn_cases h
  rcases h with ⟨a, b, rfl, rfl, rfl⟩ | ⟨u, ds, vs, h1, h2, h3, rfl⟩
  · cases rx; cases ry; cases h5
    exact .inl ⟨a, b, rfl, rfl, q.same S (.bl _)⟩
  · cases h5
    obtain ⟨rfl, f1⟩ := fV_of rx h1
    obtain ⟨p, xs, rfl, hq, rr⟩ := seq_of S ry h2
    obtain ⟨rfl, f2⟩ := fVs_of rr h3
    exact .inr ⟨p, xs, rfl, hq, f1, f2, q.same S (.bl _)⟩
section
variable {G : Gz} {bs : List Str} {k : Nat} {X : Cx} {N : List Str} {nm : List (Str × NameKind)} {ow : Str → Bool} {a b c e : Expr} {fa fb fc : Fn Dv} {pos : Pos}
theorem z_eq (c : Cz G bs k X N nm ow) (ha : ZE X a fa) (hb : ZE X b fb) : ZE X (.Compare a [.Eq] [b] pos) (fBin gEq fa fb) := z_cmp (OpR.or op_eq (op_eqD c.un)) oz_eq ha hb (nomark _)
theorem z_ne (c : Cz G bs k X N nm ow) (ha : ZE X a fa) (hb : ZE X b fb) : ZE X (.Compare a [.NotEq] [b] pos) (fBin gNe fa fb) := z_cmp (OpR.or op_ne (op_neD c.un)) oz_ne ha hb (nomark _)
theorem z_lt (c : Cz G bs k X N nm ow) (ha : ZE X a fa) (hb : ZE X b fb) : ZE X (.Compare a [.Lt] [b] pos) (fBin gLt fa fb) := z_cmp or_lt oz_ord ha hb (nomark _)
theorem z_le (c : Cz G bs k X N nm ow) (ha : ZE X a fa) (hb : ZE X b fb) : ZE X (.Compare a [.LtE] [b] pos) (fBin gLe fa fb) := z_cmp or_le oz_ord ha hb (nomark _)
theorem z_gt (c : Cz G bs k X N nm ow) (ha : ZE X a fa) (hb : ZE X b fb) : ZE X (.Compare a [.Gt] [b] pos) (fBin gGt fa fb) := z_cmp or_gt oz_ord ha hb (nomark _)
theorem z_ge (c : Cz G bs k X N nm ow) (ha : ZE X a fa) (hb : ZE X b fb) : ZE X (.Compare a [.GtE] [b] pos) (fBin gGe fa fb) := z_cmp or_ge oz_ord ha hb (nomark _)
theorem z_is (c : Cz G bs k X N nm ow) (ha : ZE X a fa) (hb : ZE X b fb) : ZE X (.Compare a [.Is] [b] pos) (fBin gIs fa fb) := z_cmp (OpR.or op_isN op_isBl) oz_is ha hb (nomark _)
theorem z_isnot (c : Cz G bs k X N nm ow) (ha : ZE X a fa) (hb : ZE X b fb) : ZE X (.Compare a [.IsNot] [b] pos) (fBin gIsNot fa fb) := z_cmp (OpR.or op_notN op_notBl) oz_isnot ha hb (nomark _)
theorem z_in (c : Cz G bs k X N nm ow) (ha : ZE X a fa) (hb : ZE X b fb) (hm : behindInMarks .In b = false := by rfl) : ZE X (.Compare a [.In] [b] pos) (fBin gIn fa fb) := z_cmp (OpR.or op_in_str op_in_seq) oz_in ha hb hm
theorem z_notin (c : Cz G bs k X N nm ow) (ha : ZE X a fa) (hb : ZE X b fb) (hm : behindInMarks .NotIn b = false := by rfl) : ZE X (.Compare a [.NotIn] [b] pos) (fBin gNotIn fa fb) := z_cmp (OpR.or op_notIn_str op_notIn_seq) oz_notin ha hb hm
theorem z_eqT (c : Cz G bs k X N nm ow) (ha : ZE X a fa) (hb : ZE X b fb) : ZT X (.Compare a [.Eq] [b] pos) (fTest (fBin gEq fa fb)) := z_cmpT (OpR.or op_eq (op_eqD c.un)) oz_eq ha hb (nomark _)
theorem z_neT (c : Cz G bs k X N nm ow) (ha : ZE X a fa) (hb : ZE X b fb) : ZT X (.Compare a [.NotEq] [b] pos) (fTest (fBin gNe fa fb)) := z_cmpT (OpR.or op_ne (op_neD c.un)) oz_ne ha hb (nomark _)
theorem z_ltT (c : Cz G bs k X N nm ow) (ha : ZE X a fa) (hb : ZE X b fb) : ZT X (.Compare a [.Lt] [b] pos) (fTest (fBin gLt fa fb)) := z_cmpT or_lt oz_ord ha hb (nomark _)
theorem z_leT (c : Cz G bs k X N nm ow) (ha : ZE X a fa) (hb : ZE X b fb) : ZT X (.Compare a [.LtE] [b] pos) (fTest (fBin gLe fa fb)) := z_cmpT or_le oz_ord ha hb (nomark _)
theorem z_gtT (c : Cz G bs k X N nm ow) (ha : ZE X a fa) (hb : ZE X b fb) : ZT X (.Compare a [.Gt] [b] pos) (fTest (fBin gGt fa fb)) := z_cmpT or_gt oz_ord ha hb (nomark _)
theorem z_geT (c : Cz G bs k X N nm ow) (ha : ZE X a fa) (hb : ZE X b fb) : ZT X (.Compare a [.GtE] [b] pos) (fTest (fBin gGe fa fb)) := z_cmpT or_ge oz_ord ha hb (nomark _)
theorem z_isT (c : Cz G bs k X N nm ow) (ha : ZE X a fa) (hb : ZE X b fb) : ZT X (.Compare a [.Is] [b] pos) (fTest (fBin gIs fa fb)) := z_cmpT (OpR.or op_isN op_isBl) oz_is ha hb (nomark _)
theorem z_isnotT (c : Cz G bs k X N nm ow) (ha : ZE X a fa) (hb : ZE X b fb) : ZT X (.Compare a [.IsNot] [b] pos) (fTest (fBin gIsNot fa fb)) := z_cmpT (OpR.or op_notN op_notBl) oz_isnot ha hb (nomark _)
theorem z_inT (c : Cz G bs k X N nm ow) (ha : ZE X a fa) (hb : ZE X b fb) (hm : behindInMarks .In b = false := by rfl) : ZT X (.Compare a [.In] [b] pos) (fTest (fBin gIn fa fb)) := z_cmpT (OpR.or op_in_str op_in_seq) oz_in ha hb hm
theorem z_notinT (c : Cz G bs k X N nm ow) (ha : ZE X a fa) (hb : ZE X b fb) (hm : behindInMarks .NotIn b = false := by rfl) : ZT X (.Compare a [.NotIn] [b] pos) (fTest (fBin gNotIn fa fb)) := z_cmpT (OpR.or op_notIn_str op_notIn_seq) oz_notin ha hb hm
end

/-! ### a[i] -/
def gIx (x y : Dv) (s : Sto) : Rs Dv := match x, y with
  | .str z, .int i => match atI z.cps.toList i with
    | some c => Rs.iff (decide (z.length ≤ 16777216)) (.ok (.str ⟨#[c]⟩) s)
    | none => .bad
  | .loc n, y => match s[n]?, y with
    | some (.lst ds), .int i => match atI ds i with | some d => .ok d s | none => .bad
    | some (.dk kvs), .int i => match valV' kvs (.inl i) with | some d => .ok d s | none => .bad
    | some (.dk kvs), .str z => match valV' kvs (.inr z) with | some d => .ok d s | none => .bad
    | _, _ => .bad
  | x, .int i => match (seqOf s x).bind (atI · i) with | some d => .ok d s | none => .bad
  | _, _ => .bad
where valV' (kvs : List (Key × Dv)) (k : Key) : Option Dv := (kvs.find? fun kv => decide (kv.1 = k)).map (·.2)
abbrev lookK := gIx.valV'
theorem rps_atI {K : PySem.W.Frag} {B : Lo} {H : Hp} {ds : List Dv} {xs : List V} (r : Rps K B H ds xs) {i : Int} {d : Dv} (h : atI ds i = some d) : ∃ v, atI xs i = some v ∧ Rp K B H d v := by
  obtain ⟨j, h1, h2⟩ := Option.bind_eq_some_iff.mp h
  obtain ⟨v, h3, h4⟩ := r.get h2
  refine ⟨v, ?_, h4⟩
  unfold atI
  rw [← r.length, h1]
  exact h3
theorem look_rel {K : PySem.W.Frag} {B : Lo} {H : Hp} {κ : Type} [DecidableEq κ] : ∀ {kvs : List (κ × Dv)} {ks : List (κ × V)}, Paired (fun (p : κ × Dv) (q : κ × V) => p.1 = q.1 ∧ Rp K B H p.2 q.2) kvs ks → ∀ {k : κ} {d : Dv},
    (kvs.find? fun kv => decide (kv.1 = k)).map (·.2) = some d → ∃ v, valV ks k = some v ∧ Rp K B H d v
  | _, _, .nil, k, d, h => by simp at h
  | (k1, d1) :: _, (k2, v2) :: _, .cons ⟨e, r⟩ t, k, d, h => by
    have e : k1 = k2 := e
    subst e
    unfold valV
    rw [List.find?_cons] at h ⊢
    by_cases hk : k1 = k
    · simp only [hk, decide_true] at h ⊢
      cases h
      exact ⟨v2, rfl, r⟩
    · simp only [hk, decide_false] at h ⊢
      exact look_rel t h
theorem gIx_cases {x y d : Dv} {s s' : Sto} (h : gIx x y s = .ok d s') : s' = s ∧ ((∃ z i c, x = .str z ∧ y = .int i ∧ atI z.cps.toList i = some c ∧ z.length ≤ 16777216 ∧ d = .str ⟨#[c]⟩) ∨
    (∃ i ds, y = .int i ∧ seqOf s x = some ds ∧ atI ds i = some d) ∨ ∃ n kvs k, x = .loc n ∧ s[n]? = some (.dk kvs) ∧ ((∃ i, y = .int i ∧ k = .inl i) ∨ ∃ z, y = .str z ∧ k = .inr z) ∧ lookK kvs k = some d) := by
  unfold gIx at h
  split at h
  · split at h
    · rename_i e
      obtain ⟨h1, h2⟩ := Rs.iff_ok h
      cases h2
      exact ⟨rfl, .inl ⟨_, _, _, rfl, rfl, e, of_decide_eq_true h1, rfl⟩⟩
    · cases h
  · split at h
    · rename_i e1
      split at h
      · rename_i e2
        cases h
        refine ⟨rfl, .inr (.inl ⟨_, _, rfl, ?_, e2⟩)⟩
        simp only [seqOf, e1]
      · cases h
    · rename_i e1
      split at h
      · rename_i e2
        cases h
        exact ⟨rfl, .inr (.inr ⟨_, _, _, rfl, e1, .inl ⟨_, rfl, rfl⟩, e2⟩)⟩
      · cases h
    · rename_i e1
      split at h
      · rename_i e2
        cases h
        exact ⟨rfl, .inr (.inr ⟨_, _, _, rfl, e1, .inr ⟨_, rfl, rfl⟩, e2⟩)⟩
      · cases h
    · cases h
  · split at h
    · rename_i e
      obtain ⟨ds, e1, e2⟩ := Option.bind_eq_some_iff.mp e
      cases h
      exact ⟨rfl, .inr (.inl ⟨_, _, rfl, e1, e2⟩)⟩
    · cases h
  · cases h
theorem rp_key {K : PySem.W.Frag} {B : Lo} {H : Hp} {y : Dv} {w : V} {k : Key} (ry : Rp K B H y w) (h : (∃ i, y = .int i ∧ k = .inl i) ∨ ∃ z, y = .str z ∧ k = .inr z) : w = kV k := by
  rcases h with ⟨i, rfl, rfl⟩ | ⟨z, rfl, rfl⟩
  · cases ry; rfl
  · cases ry; rfl
section
variable {G : Gz} {bs : List Str} {k : Nat} {X : Cx} {N : List Str} {nm : List (Str × NameKind)} {ow : Str → Bool} {a b c e : Expr} {fa fb fc : Fn Dv} {pos : Pos}
theorem z_ix (c : Cz G bs k X N nm ow) (ha : ZE X a fa) (hb : ZE X b fb) (hs : PlainIx b := by exact fun _ _ => rfl) : ZE X (.Subscript a b pos) (fBin gIx fa fb) := by
  refine pe_mono (pe_alt (pe_ix ix_seq ha hb hs) (pe_dget (hu_of c.rm) ha hb hs)) fun σ H Q q => ?_
  obtain ⟨B, env, s, d, s', hE, hS, hf, hQ⟩ := q
  obtain ⟨x, s1, h1, hf⟩ := Rs.bind_ok hf
  obtain ⟨y, s2, h2, hf⟩ := Rs.bind_ok hf
  obtain ⟨rfl, hg⟩ := gIx_cases hf
  rcases hg with hg | hg | ⟨n, kvs, ky, rfl, e1, e2, e3⟩
  · left
    refine ⟨B, env, s, _, _, hE, hS, h1, fun B1 H1 v x1 e1 S1 r1 => ?_⟩
    refine ⟨B1, env, s1, _, _, hE.mono x1.mo, S1, h2, fun B2 H2 w x2 e2 S2 r2 => ?_⟩
    obtain ⟨z, i, c, rfl, rfl, h3, h4, rfl⟩ := hg
    cases r1; cases r2
    exact .inr (.inr ⟨z, i, c, rfl, rfl, len_line h4, h3, hQ B2 H2 _ (x1.trans x2) (e2.trans e1) S2 (.str _)⟩)
  · left
    refine ⟨B, env, s, _, _, hE, hS, h1, fun B1 H1 v x1 e1 S1 r1 => ?_⟩
    refine ⟨B1, env, s1, _, _, hE.mono x1.mo, S1, h2, fun B2 H2 w x2 e2 S2 r2 => ?_⟩
    obtain ⟨i, ds, rfl, h3, h4⟩ := hg
    obtain ⟨p, xs, rfl, hq, rr⟩ := seq_of S2 (r1.mono x2.mo) h3
    obtain ⟨u, h5, ru⟩ := rps_atI rr h4
    cases r2
    rcases hq with hq | hq
    · exact .inl ⟨p, xs, i, u, rfl, rfl, hq, h5, hQ B2 H2 _ (x1.trans x2) (e2.trans e1) S2 ru⟩
    · exact .inr (.inl ⟨p, xs, i, u, rfl, rfl, hq, h5, hQ B2 H2 _ (x1.trans x2) (e2.trans e1) S2 ru⟩)
  · right
    refine ⟨B, env, s, _, _, hE, hS, h1, fun B1 H1 v x1 ee1 S1 r1 => ?_⟩
    refine ⟨B1, env, s1, _, _, hE.mono x1.mo, S1, h2, fun B2 H2 w x2 ee2 S2 r2 => ?_⟩
    cases r1.mono x2.mo with
    | loc hl =>
      obtain ⟨o, ho, ro⟩ := S2.at hl
      rw [e1] at ho; cases ho
      obtain ⟨ks, h3, h4⟩ := ro
      obtain ⟨u, h5, ru⟩ := look_rel h4 e3
      rw [rp_key r2 e2]
      refine ⟨_, u, rfl, ?_, hQ B2 H2 _ (x1.trans x2) (ee2.trans ee1) S2 ru⟩
      rw [← h5]
      exact DGet.k h3
end
end Z

namespace Z
open PySem PySem.Spec PyProof.Rows L2

/-! ### statements -/
inductive Ct where
  | next (env : En) | ret (d : Dv) | brk (env : En) | cont (env : En)
def PostC (K : PySem.W.Frag) (B : Lo) (H : Hp) (s' : Sto) (D : Ends) : Ct → Prop
  | .next env => ∀ (B' : Lo) (H' : Hp) (σ' : L2.St), Ext B H B' H' → B'.hid = B.hid → Sim K B' H' s' → RpE K B' H' env σ' → D.nx σ' H'
  | .ret d => ∀ (B' : Lo) (H' : Hp) (v : V), Ext B H B' H' → B'.hid = B.hid → Sim K B' H' s' → Rp K B' H' d v → D.rt v H'
  | .brk env => ∀ (B' : Lo) (H' : Hp) (σ' : L2.St), Ext B H B' H' → B'.hid = B.hid → Sim K B' H' s' → RpE K B' H' env σ' → D.bk σ' H'
  | .cont env => ∀ (B' : Lo) (H' : Hp) (σ' : L2.St), Ext B H B' H' → B'.hid = B.hid → Sim K B' H' s' → RpE K B' H' env σ' → D.ct σ' H'
def tOfS (K : PySem.W.Frag) (f : Fn Ct) : TS := fun D σ H => ∃ B env s c s', RpE K B H env σ ∧ Sim K B H s ∧ f env s = .ok c s' ∧ PostC K B H s' D c
abbrev ZS (X : Cx) (st : Stmt) (f : Fn Ct) : Prop := PS X st (tOfS X.K f)
abbrev ZB (X : Cx) (st : List Stmt) (f : Fn Ct) : Prop := PSs X st (tOfS X.K f)
theorem pss_mono {X : Cx} {e : List Stmt} {t t' : TS} (h : PSs X e t) (hh : ∀ D σ H, t' D σ H → t D σ H) : PSs X e t' := ⟨fun pins s σ H Q I q => h.run pins s σ H Q I (hh _ _ _ q)⟩
theorem PostC.ahead {K : PySem.W.Frag} {B B1 : Lo} {H H1 : Hp} {s' : Sto} {D : Ends} (x : Ext B H B1 H1) (e : B1.hid = B.hid) : ∀ {c : Ct}, PostC K B H s' D c → PostC K B1 H1 s' D c
  | .next env, h => fun B' H' σ' x' e' S r => h B' H' σ' (x.trans x') (e'.trans e) S r
  | .ret d, h => fun B' H' σ' x' e' S r => h B' H' σ' (x.trans x') (e'.trans e) S r
  | .brk env, h => fun B' H' σ' x' e' S r => h B' H' σ' (x.trans x') (e'.trans e) S r
  | .cont env, h => fun B' H' σ' x' e' S r => h B' H' σ' (x.trans x') (e'.trans e) S r
def fNop : Fn Ct := fun env s => .ok (.next env) s
def fSeq (f g : Fn Ct) : Fn Ct := fun env s => (f env s).bind fun c s1 => match c with | .next e => g e s1 | c => .ok c s1
section
variable {G : Gz} {bs : List Str} {k : Nat} {X : Cx} {N : List Str} {nm : List (Str × NameKind)} {ow : Str → Bool} {a b c e : Expr} {fa fb fc : Fn Dv} {pos : Pos} {st : Stmt} {rest p q : List Stmt} {f g : Fn Ct} {x : Str} {i : Nat} {tc : Fn Bool}
theorem z_snil : ZB X [] fNop := by
  refine pss_mono pss_nil fun D σ H q => ?_
  obtain ⟨B, env, s, c, s', hE, hS, hf, hQ⟩ := q
  cases hf
  exact hQ B H σ (Ext.refl _ _) rfl hS hE
theorem z_cons2 (h1 : ZS X st f) (h2 : ZB X rest g) : ZB X (st :: rest) (fSeq f g) := by
  refine pss_mono (pss_cons h1 h2) fun D σ H q => ?_
  obtain ⟨B, env, s, c, s', hE, hS, hf, hQ⟩ := q
  obtain ⟨c1, s1, h1, hf⟩ := Rs.bind_ok hf
  refine ⟨B, env, s, c1, s1, hE, hS, h1, ?_⟩
  cases c1 with
  | next e1 => exact fun B1 H1 σ1 x1 ee S1 r1 => ⟨B1, e1, s1, c, s', r1, S1, hf, hQ.ahead x1 ee⟩
  | ret d => cases hf; exact hQ
  | brk d => cases hf; exact hQ
  | cont d => cases hf; exact hQ
theorem z_sone (h1 : ZS X st f) : ZB X [st] f := pss_one h1
theorem z_pass : ZS X (.Pass pos) fNop := by
  refine ps_mono ps_pass fun D σ H q => ?_
  obtain ⟨B, env, s, c, s', hE, hS, hf, hQ⟩ := q
  cases hf
  exact hQ B H σ (Ext.refl _ _) rfl hS hE
def fBrk : Fn Ct := fun env s => .ok (.brk env) s
def fCont : Fn Ct := fun env s => .ok (.cont env) s
theorem z_break : ZS X (.Break pos) fBrk := by
  refine ps_mono ps_break fun D σ H q => ?_
  obtain ⟨B, env, s, c, s', hE, hS, hf, hQ⟩ := q
  cases hf
  exact hQ B H σ (Ext.refl _ _) rfl hS hE
theorem z_continue : ZS X (.Continue pos) fCont := by
  refine ps_mono ps_continue fun D σ H q => ?_
  obtain ⟨B, env, s, c, s', hE, hS, hf, hQ⟩ := q
  cases hf
  exact hQ B H σ (Ext.refl _ _) rfl hS hE
/-- a statement that the law never comes to -/
def fNever : Fn Ct := fun _ _ => .bad
theorem z_never : ZS X st fNever := ps_mono ps_never fun D σ H q => by
  obtain ⟨B, env, s, c, s', hE, hS, hf, hQ⟩ := q
  cases hf
def fDrop (f : Fn Dv) : Fn Ct := fun env s => (f env s).bind fun _ s1 => .ok (.next env) s1
theorem z_expr (h : ZE X e fa) (hs : swapsWith e none pos.line X.env = pure false := by rfl) : ZS X (.Expr e pos) (fDrop fa) := by
  refine ps_mono (ps_expr h hs) fun D σ H q => ?_
  obtain ⟨B, env, s, c, s', hE, hS, hf, hQ⟩ := q
  obtain ⟨d, s1, h1, hf⟩ := Rs.bind_ok hf
  cases hf
  exact ⟨B, env, s, _, _, hE, hS, h1, fun B1 H1 v x1 e1 S1 r1 => hQ B1 H1 σ x1 e1 S1 (hE.mono x1.mo)⟩
def fRet (f : Fn Dv) : Fn Ct := fun env s => (f env s).bind fun d s1 => .ok (.ret d) s1
theorem z_ret (h : ZE X e fa) : ZS X (.Return (some e) pos) (fRet fa) := by
  refine ps_mono (ps_ret h) fun D σ H q => ?_
  obtain ⟨B, env, s, c, s', hE, hS, hf, hQ⟩ := q
  obtain ⟨d, s1, h1, hf⟩ := Rs.bind_ok hf
  cases hf
  exact ⟨B, env, s, _, _, hE, hS, h1, fun B1 H1 v x1 e1 S1 r1 => hQ B1 H1 v x1 e1 S1 r1⟩
def fRetN : Fn Ct := fun _ s => .ok (.ret .non) s
theorem z_retN : ZS X (.Return none pos) fRetN := by
  refine ps_mono ps_retN fun D σ H q => ?_
  obtain ⟨B, env, s, c, s', hE, hS, hf, hQ⟩ := q
  cases hf
  exact hQ B H .non (Ext.refl _ _) rfl hS .non
def fIfS (t : Fn Bool) (f g : Fn Ct) : Fn Ct := fun env s => (t env s).bind fun b s1 => if b = true then f env s1 else g env s1
theorem z_ifS (hc : ZT X a tc) (hp : ZB X p f) (hq : ZB X q g) : ZS X (.If a p q pos) (fIfS tc f g) := by
  refine ps_mono (ps_if hc hp hq) fun D σ H q => ?_
  obtain ⟨B, env, s, c, s', hE, hS, hf, hQ⟩ := q
  obtain ⟨d, s1, h1, hf⟩ := Rs.bind_ok hf
  refine ⟨B, env, s, _, _, hE, hS, h1, fun B1 H1 x1 e1 S1 => ?_⟩
  split at hf
  · rename_i hx
    rw [if_pos hx]
    exact ⟨B1, env, s1, c, s', hE.mono x1.mo, S1, hf, hQ.ahead x1 e1⟩
  · rename_i hx
    rw [if_neg hx]
    exact ⟨B1, env, s1, c, s', hE.mono x1.mo, S1, hf, hQ.ahead x1 e1⟩
/-- a name is set -/
def fSet (i : Nat) (f : Fn Dv) : Fn Ct := fun env s => (f env s).bind fun d s1 => .ok (.next (env.set i (some d))) s1
theorem set_to {K : PySem.W.Frag} {te : TE} (ht : ∀ σ H Q, tOf K fa σ H Q → te σ H Q) : ∀ D σ H, tOfS K (fSet i fa) D σ H → tAsg te (gName i) D σ H := fun D σ H q => by
  obtain ⟨B, env, s, c, s', hE, hS, hf, hQ⟩ := q
  obtain ⟨d, s1, h1, hf⟩ := Rs.bind_ok hf
  cases hf
  exact ht _ _ _ ⟨B, env, s, _, _, hE, hS, h1, fun B1 H1 v x1 e1 S1 r1 => hQ B1 H1 _ x1 e1 S1 ((hE.mono x1.mo).set i r1)⟩
theorem z_set {pos' : Pos} (c : Cz G bs k X N nm ow) (h : sOk N nm ow i x = true) (he : ZE X e fa) (hs : swapsWith e (some (.Name x pos')) pos.line X.env = pure false := by rfl) : ZS X (.Assign [.Name x pos'] e pos) (fSet i fa) := by
  obtain ⟨h1, h2, h3⟩ := c.loc h
  have nd : X.N.Nodup := by rw [c.hN]; exact c.nd
  exact ps_mono (ps_set nd h1 h2 he hs h3) (set_to fun _ _ _ h => h)
end

/-! ### targets -/
/-- an item of a loop: q: a pair that came up for the loop's target alone -/
def Rel (K : PySem.W.Frag) (q : Bool) (B : Lo) (H : Hp) (d : Dv) (v : V) : Prop := match q with
  | false => Rp K B H d v
  | true => Rp K B H d v ∨ ∃ a xs ds, d = .tup ds ∧ v = .ref a ∧ SqT K H a xs ∧ Rps K B H ds xs
theorem Rel.of {K : PySem.W.Frag} {q : Bool} {B : Lo} {H : Hp} {d : Dv} {v : V} (h : Rp K B H d v) : Rel K q B H d v := by
  cases q
  · exact h
  · exact .inl h
/-- the slots alone that is names -/
def Only1 (is : List Nat) (σ σ' : L2.St) : Prop := σ'.length = σ.length ∧ ∀ j : Nat, j ∉ is → σ'[j]? = σ[j]?
def tOfG (K : PySem.W.Frag) (q : Bool) (is : List Nat) (g : Dv → Fn En) : TG := fun v σ H Q => ∃ B env s d env' s', RpE K B H env σ ∧ Sim K B H s ∧ Rel K q B H d v ∧ g d env s = .ok env' s' ∧
  ∀ (B' : Lo) (H' : Hp) (σ' : L2.St), Ext B H B' H' → B'.hid = B.hid → Sim K B' H' s' → RpE K B' H' env' σ' → Only1 is σ σ' → Q σ' H'
abbrev ZG (X : Cx) (q : Bool) (is : List Nat) (tg : Expr) (g : Dv → Fn En) : Prop := PG X tg (tOfG X.K q is g)
def tOfGs (K : PySem.W.Frag) (is : List Nat) (g : List Dv → Fn En) : TGs := fun vs σ H Q => ∃ B env s ds env' s', RpE K B H env σ ∧ Sim K B H s ∧ Rps K B H ds vs ∧ g ds env s = .ok env' s' ∧
  ∀ (B' : Lo) (H' : Hp) (σ' : L2.St), Ext B H B' H' → B'.hid = B.hid → Sim K B' H' s' → RpE K B' H' env' σ' → Only1 is σ σ' → Q σ' H'
abbrev ZGs (X : Cx) (is : List Nat) (tg : List Expr) (g : List Dv → Fn En) : Prop := PGs X tg (tOfGs X.K is g)
def gNm (i : Nat) : Dv → Fn En := fun d env s => .ok (env.set i (some d)) s
def gsNil : List Dv → Fn En := fun ds env s => match ds with | [] => .ok env s | _ => .bad
def gsCons (g : Dv → Fn En) (h : List Dv → Fn En) : List Dv → Fn En := fun ds env s => match ds with | d :: r => (g d env s).bind fun env1 s1 => h r env1 s1 | _ => .bad
def gTp (n : Nat) (h : List Dv → Fn En) : Dv → Fn En := fun d env s => match d with | .tup ds => Rs.iff (ds.length == n) (h ds env s) | _ => .bad
section
variable {G : Gz} {bs : List Str} {k : Nat} {X : Cx} {N : List Str} {nm : List (Str × NameKind)} {ow : Str → Bool} {a b c e : Expr} {fa fb fc : Fn Dv} {pos : Pos} {x : Str} {i : Nat} {q : Bool}
theorem zg_name (c : Cz G bs k X N nm ow) (h : sOk N nm ow i x = true) : ZG X false [i] (.Name x pos) (gNm i) := by
  obtain ⟨h1, h2, h3⟩ := c.loc h
  have nd : X.N.Nodup := by rw [c.hN]; exact c.nd
  refine pg_mono (pg_name nd h1 h2 h3) fun v σ H Q q => ?_
  obtain ⟨B, env, s, d, env', s', hE, hS, hr, hg, hQ⟩ := q
  cases hg
  refine hQ B H _ (Ext.refl _ _) rfl hS (hE.set i hr) ⟨by rw [List.length_set], fun j hj => ?_⟩
  rw [List.getElem?_set_ne (fun e => hj (by rw [e]; exact List.mem_singleton.mpr rfl))]
theorem zgs_nil : ZGs X [] [] gsNil := by
  refine ⟨fun pins s σ H vs us Q I r q => pgs_nil.run pins s σ H vs us Q I r ?_⟩
  obtain ⟨B, env, s, ds, env', s', hE, hS, hr, hg, hQ⟩ := q
  cases ds with
  | nil =>
    cases hg
    cases hr
    exact ⟨rfl, hQ B H σ (Ext.refl _ _) rfl hS hE ⟨rfl, fun _ _ => rfl⟩⟩
  | cons d r => cases hg
theorem zgs_cons {es : List Expr} {is js : List Nat} {g : Dv → Fn En} {h : List Dv → Fn En} (h1 : ZG X false is e g) (h2 : ZGs X js es h) (hs : (assignEach (e :: es) X.env).map (·.2) = assign e X.env :: (assignEach es X.env).map (·.2) := by rfl) :
    ZGs X (is ++ js) (e :: es) (gsCons g h) := by
  refine ⟨fun pins s σ H vs us Q I r q => (pgs_cons h1 h2 hs).run pins s σ H vs us Q I r ?_⟩
  obtain ⟨B, env, s, ds, env', s', hE, hS, hr, hg, hQ⟩ := q
  cases hr with
  | nil => cases hg
  | cons r1 rr =>
    obtain ⟨env1, s1, hg1, hg⟩ := Rs.bind_ok (r := _) (f := fun env1 s1 => h _ env1 s1) hg
    refine ⟨_, _, rfl, B, env, _, _, _, _, hE, hS, r1, hg1, fun B1 H1 σ1 x1 e1 S1 E1 o1 => ?_⟩
    refine ⟨B1, _, _, _, _, _, E1, S1, rr.mono x1.mo, hg, fun B2 H2 σ2 x2 e2 S2 E2 o2 => ?_⟩
    refine hQ B2 H2 σ2 (x1.trans x2) (e2.trans e1) S2 E2 ⟨o2.1.trans o1.1, fun j hj => ?_⟩
    rw [List.mem_append, not_or] at hj
    exact (o2.2 j hj.2).trans (o1.2 j hj.1)
theorem zg_tup {es : List Expr} {kk n : Nat} {is : List Nat} {h : List Dv → Fn En} (c : Cz G bs k X N nm ow) (hh : ZGs X is es h) (hn : (assignEach es X.env).length = n := by rfl) (hst : (assignEach es X.env).findIdx? (·.1) = none := by rfl) : ZG X q is (.Tuple es kk pos) (gTp n h) := by
  refine pg_mono (pg_tup c.calm hh hn hst) fun v σ H Q q => ?_
  obtain ⟨B, env, s, d, env', s', hE, hS, hr, hg, hQ⟩ := q
  have go : ∀ {ds : List Dv}, d = .tup ds → (∃ a xs, v = .ref a ∧ SqT X.K H a xs ∧ Rps X.K B H ds xs) → gTup X.K n (tOfGs X.K is h) v σ H Q := fun {ds} ed hx => by
    subst ed
    obtain ⟨a, xs, ev, hq, hrs⟩ := hx
    obtain ⟨hl, hg⟩ := Rs.iff_ok (c := ds.length == n) (r := h ds env s) hg
    exact ⟨a, xs, ev, hq, hrs.length ▸ (beq_iff_eq.mp hl), B, env, s, ds, env', s', hE, hS, hrs, hg, hQ⟩
  cases d with
  | tup ds =>
    cases q with
    | false =>
      have hr : Rp X.K B H (.tup ds) v := hr
      cases hr with
      | tup h1 h2 => exact go rfl ⟨_, _, rfl, h1.sq, h2⟩
    | true =>
      rcases hr with hr | ⟨a, xs, ds', ed, ev, hq, hrs⟩
      · cases hr with
        | tup h1 h2 => exact go rfl ⟨_, _, rfl, h1.sq, h2⟩
      · cases ed
        exact go rfl ⟨a, xs, ev, hq, hrs⟩
  | _ => cases hg
/-- target = value, by any target -/
def fAsg (f : Fn Dv) (g : Dv → Fn En) : Fn Ct := fun env s => (f env s).bind fun d s1 => (g d env s1).bind fun env1 s2 => .ok (.next env1) s2
theorem z_asg {tg : Expr} {is : List Nat} {g : Dv → Fn En} (he : ZE X e fa) (hg : ZG X false is tg g) (hs : swapsWithSole [tg] e pos.line X.env = pure false := by rfl) (hw : swappedStores [tg] e X.env = pure none := by rfl)
    (h1 : (assignEach [tg] X.env).map (·.2) = [assign tg X.env] := by rfl) : ZS X (.Assign [tg] e pos) (fAsg fa g) := by
  refine ps_mono (ps_asg he hg hs hw h1) fun D σ H q => ?_
  obtain ⟨B, env, s, c, s', hE, hS, hf, hQ⟩ := q
  obtain ⟨d, s1, h1, hf⟩ := Rs.bind_ok hf
  obtain ⟨env1, s2, h2, hf⟩ := Rs.bind_ok hf
  cases hf
  refine ⟨B, env, s, _, _, hE, hS, h1, fun B1 H1 v x1 e1 S1 r1 => ?_⟩
  exact ⟨B1, env, _, _, _, _, hE.mono x1.mo, S1, r1, h2, fun B2 H2 σ2 x2 e2 S2 E2 _ => hQ B2 H2 σ2 (x1.trans x2) (e2.trans e1) S2 E2⟩
end
end Z

namespace Z
open PySem PySem.Spec PyProof.Rows L2

mutual
def eqDv : Dv → Dv → Bool
  | .non, .non => true
  | .bl a, .bl b => a == b
  | .int a, .int b => a == b
  | .str a, .str b => decide (a = b)
  | .tup a, .tup b => eqDvs a b
  | .ls a, .ls b => eqDvs a b
  | .loc a, .loc b => a == b
  | _, _ => false
def eqDvs : List Dv → List Dv → Bool
  | [], [] => true
  | a :: r, b :: t => eqDv a b && eqDvs r t
  | _, _ => false
end
mutual
theorem eqDv_eq : ∀ {a b : Dv}, eqDv a b = true → a = b
  | .non, b, h => by cases b <;> first | rfl | cases h
  | .bl x, b, h => by cases b <;> first | (rw [beq_iff_eq.mp h]) | cases h
  | .int x, b, h => by cases b <;> first | (rw [beq_iff_eq.mp h]) | cases h
  | .str x, b, h => by cases b <;> first | (rw [of_decide_eq_true h]) | cases h
  | .tup x, b, h => by cases b <;> first | (rw [eqDvs_eq h]) | cases h
  | .ls x, b, h => by cases b <;> first | (rw [eqDvs_eq h]) | cases h
  | .loc x, b, h => by cases b <;> first | (rw [beq_iff_eq.mp h]) | cases h
theorem eqDvs_eq : ∀ {a b : List Dv}, eqDvs a b = true → a = b
  | [], b, h => by cases b <;> first | rfl | cases h
  | x :: r, b, h => by
    cases b with
    | nil => cases h
    | cons y t =>
      have h' : (eqDv x y && eqDvs r t) = true := h
      rw [Bool.and_eq_true] at h'
      rw [eqDv_eq h'.1, eqDvs_eq h'.2]
end
mutual
theorem eqDv_rfl : ∀ a : Dv, eqDv a a = true
  | .non => rfl
  | .bl x => by simp [eqDv]
  | .int x => by simp [eqDv]
  | .str x => by simp [eqDv]
  | .tup x => by simp [eqDv, eqDvs_rfl x]
  | .ls x => by simp [eqDv, eqDvs_rfl x]
  | .loc x => by simp [eqDv]
theorem eqDvs_rfl : ∀ a : List Dv, eqDvs a a = true
  | [] => rfl
  | x :: r => by simp [eqDvs, eqDv_rfl x, eqDvs_rfl r]
end

/-! ### what is walked -/
def isLst (n : Nat) (ds : List Dv) (s : Sto) : Bool := match s[n]? with | some (.lst es) => eqDvs es ds | _ => false
theorem isLst_at {n : Nat} {ds : List Dv} {s : Sto} (h : isLst n ds s = true) : s[n]? = some (.lst ds) := by
  unfold isLst at h
  split at h
  · rename_i e; rw [e, eqDvs_eq h]
  · cases h
abbrev Src := List Dv × (Sto → Bool)
/-- from here on the walk hands out ds, as long as the check holds -/
def WalkZ (K : PySem.W.Frag) (q : Bool) (J : It) (B : Lo) (H : Hp) (src : Src) : Prop :=
  ∀ (B1 : Lo) (H1 : Hp) (s1 : Sto), Ext B H B1 H1 → Sim K B1 H1 s1 → src.2 s1 = true →
    (∀ (i : Nat) (d : Dv), src.1[i]? = some d → J.go i H1 ∧ ∀ x H2, J.yld i H1 x H2 → Ext B1 H1 B1 H2 ∧ Sim K B1 H2 s1 ∧ Rel K q B1 H2 d x) ∧ J.stop src.1.length H1
def tOfI (K : PySem.W.Frag) (q : Bool) (f : Fn Src) : TI := fun σ H R => ∃ B env s src s', RpE K B H env σ ∧ Sim K B H s ∧ f env s = .ok src s' ∧
  ∀ (B' : Lo) (H' : Hp) (J : It), Ext B H B' H' → B'.hid = B.hid → Sim K B' H' s' → WalkZ K q J B' H' src → R J H'
abbrev ZI (X : Cx) (q : Bool) (tg iter : Expr) (f : Fn Src) : Prop := PI X tg iter (tOfI X.K q f)
theorem pi_mono {X : Cx} {tg e : Expr} {t t' : TI} (h : PI X tg e t) (hh : ∀ σ H Q, t' σ H Q → t σ H Q) : PI X tg e t' := ⟨fun pins s σ H Q I q => h.run pins s σ H Q I (hh _ _ _ q)⟩
theorem pi_alt {X : Cx} {tg e : Expr} {t t' : TI} (h : PI X tg e t) (h' : PI X tg e t') : PI X tg e (fun σ H Q => t σ H Q ∨ t' σ H Q) := ⟨fun pins s σ H Q I q => q.elim (h.run pins s σ H Q I) (h'.run pins s σ H Q I)⟩
theorem walk_list {K : PySem.W.Frag} {a : Addr} {q : Bool} {B : Lo} {H : Hp} {ds : List Dv} {chk : Sto → Bool} (h : ∀ (B1 : Lo) (H1 : Hp) (s1 : Sto), Ext B H B1 H1 → Sim K B1 H1 s1 → chk s1 = true → ∃ xs, SqL K H1 a xs ∧ Rps K B1 H1 ds xs) : WalkZ K q (Itl K a) B H (ds, chk) := by
  intro B1 H1 s1 x S hc
  obtain ⟨xs, h1, h2⟩ := h B1 H1 s1 x S hc
  refine ⟨fun i d e => ?_, xs, h1, by rw [← h2.length]; exact Nat.le_refl _⟩
  obtain ⟨v, e1, r⟩ := h2.get e
  refine ⟨⟨xs, v, h1, e1⟩, fun y H2 hy => ?_⟩
  obtain ⟨rfl, hy⟩ := hy
  have e2 := hy xs h1
  rw [e1] at e2; cases e2
  exact ⟨Ext.refl _ _, S, .of r⟩
theorem walk_tup {K : PySem.W.Frag} {a : Addr} {q : Bool} {B : Lo} {H : Hp} {ds : List Dv} {chk : Sto → Bool} {xs : List V} (h1 : Tk K H a xs) (h2 : Rps K B H ds xs) : WalkZ K q (Itt K a) B H (ds, chk) := by
  intro B1 H1 s1 x S hc
  have h1 := (x.mo.tk h1).sq
  have h2 := h2.mono x.mo
  refine ⟨fun i d e => ?_, xs, h1, by rw [← h2.length]; exact Nat.le_refl _⟩
  obtain ⟨v, e1, r⟩ := h2.get e
  refine ⟨⟨xs, v, h1, e1⟩, fun y H2 hy => ?_⟩
  obtain ⟨rfl, hy⟩ := hy
  have e2 := hy xs h1
  rw [e1] at e2; cases e2
  exact ⟨Ext.refl _ _, S, .of r⟩
def noChk : Sto → Bool := fun _ => true
/-- a list or a tuple walked -/
def fSrc (f : Fn Dv) : Fn Src := fun env s => (f env s).bind fun d s1 => match d with
  | .tup ds => .ok (ds, noChk) s1
  | .ls ds => .ok (ds, noChk) s1
  | .loc n => match s1[n]? with | some (.lst ds) => .ok (ds, isLst n ds) s1 | _ => .bad
  | _ => .bad
def rngD (lo : Int) (n : Nat) : List Dv := (List.range n).map fun (i : Nat) => Dv.int (lo + (i : Int))
theorem rngD_len (lo : Int) (n : Nat) : (rngD lo n).length = n := by simp [rngD]
theorem rngD_get {lo : Int} {n i : Nat} {d : Dv} (h : (rngD lo n)[i]? = some d) : i < n ∧ d = .int (lo + i) := by
  have hl : i < n := by have := (List.getElem?_eq_some_iff.mp h).1; simpa [rngD] using this
  refine ⟨hl, ?_⟩
  simp [rngD, hl] at h
  exact h.symm
theorem walk_rng {K : PySem.W.Frag} {q : Bool} {B : Lo} {H : Hp} {chk : Sto → Bool} (lo : Int) (n : Nat) : WalkZ K q (Itr lo n) B H (rngD lo n, chk) := by
  intro B1 H1 s1 x S hc
  refine ⟨fun i d e => ?_, Nat.le_of_eq (rngD_len lo n).symm⟩
  obtain ⟨hl, rfl⟩ := rngD_get e
  refine ⟨hl, fun y H2 hy => ?_⟩
  obtain ⟨rfl, rfl⟩ := hy
  exact ⟨Ext.refl _ _, S, .of (.int _)⟩
def inRng (i : Int) : Bool := decide (-(2 ^ 62) ≤ i) && decide (i < 2 ^ 62)
theorem inRng_ok {i : Int} (h : inRng i = true) : -(2 ^ 62) ≤ i ∧ i < 2 ^ 62 := by
  unfold inRng at h
  simpa only [Bool.and_eq_true, decide_eq_true_eq] using h
def fRng1 (f : Fn (List Dv)) : Fn Src := fun env s => (f env s).bind fun ds s1 => match ds with | [.int j] => Rs.iff (inRng j) (.ok (rngD 0 j.toNat, noChk) s1) | _ => .bad
def fRng2 (f : Fn (List Dv)) : Fn Src := fun env s => (f env s).bind fun ds s1 => match ds with | [.int i, .int j] => Rs.iff (inRng i && inRng j) (.ok (rngD i (j - i).toNat, noChk) s1) | _ => .bad
section
variable {G : Gz} {bs : List Str} {k : Nat} {X : Cx} {N : List Str} {nm : List (Str × NameKind)} {ow : Str → Bool} {a b e tg : Expr} {fa fb fc : Fn Dv} {fs : Fn (List Dv)} {pos p : Pos} {q : Bool}
theorem zi_seq (he : ZE X e fa) : ZI X q tg e (fSrc fa) := by
  refine pi_mono (pi_alt (pi_list (tg := tg) he) (pi_tup (tg := tg) he)) fun σ H R h => ?_
  obtain ⟨B, env, s, src, s', hE, hS, hf, hQ⟩ := h
  obtain ⟨d, s1, h1, hf⟩ := Rs.bind_ok hf
  cases d with
  | tup ds =>
    cases hf
    right
    refine ⟨B, env, s, _, _, hE, hS, h1, fun B1 H1 v x1 e1 S1 r1 => ?_⟩
    cases r1 with
    | tup h2 h3 => exact ⟨_, rfl, ⟨_, h2.sq⟩, hQ B1 H1 _ x1 e1 S1 (walk_tup h2 h3)⟩
  | ls ds =>
    cases hf
    left
    refine ⟨B, env, s, _, _, hE, hS, h1, fun B1 H1 v x1 e1 S1 r1 => ?_⟩
    cases r1 with
    | ls h2 h3 => exact ⟨_, rfl, ⟨_, h2.sq⟩, hQ B1 H1 _ x1 e1 S1 (walk_list fun B2 H2 s2 x2 S2 _ => ⟨_, (x2.mo.ls h2).sq, h3.mono x2.mo⟩)⟩
  | loc n =>
    left
    cases e : s1[n]? with
    | none => simp [e] at hf
    | some o =>
      cases o with
      | lst ds =>
        simp [e] at hf
        obtain ⟨rfl, rfl⟩ := hf
        refine ⟨B, env, s, _, _, hE, hS, h1, fun B1 H1 v x1 e1 S1 r1 => ?_⟩
        cases r1 with
        | loc h2 =>
          obtain ⟨o, ho, ro⟩ := S1.at h2
          rw [e] at ho; cases ho
          obtain ⟨xs, h3, h4⟩ := ro
          refine ⟨_, rfl, ⟨_, .of h3⟩, hQ B1 H1 _ x1 e1 S1 (walk_list fun B2 H2 s2 x2 S2 hc => ?_)⟩
          have h5 := isLst_at hc
          obtain ⟨o, ho, ro⟩ := S2.at (pre_get x2.mo.pre h2)
          rw [h5] at ho; cases ho
          obtain ⟨ys, h6, h7⟩ := ro
          exact ⟨ys, .of h6, h7⟩
      | _ => simp [e] at hf
  | _ => cases hf
theorem zi_rng1 (c : Cz G bs k X N nm ow) (ha : ZA X [a] fs) (hb : bOk bs nm "range" = true := by decide +kernel) (hs : starEach [a] X.env = [(false, eval a X.env)] := by rfl) : ZI X q tg (.Call (.Name "range" p) [a] [] pos) (fRng1 fs) := by
  obtain ⟨hg, hm⟩ := c.blt hb
  refine pi_mono (pi_range1 hg hm ha hs) fun σ H R h => ?_
  obtain ⟨B, env, s, src, s', hE, hS, hf, hQ⟩ := h
  obtain ⟨ds, s1, h1, hf⟩ := Rs.bind_ok hf
  split at hf
  · obtain ⟨hj, hf⟩ := Rs.iff_ok hf
    cases hf
    obtain ⟨j1, j2⟩ := inRng_ok hj
    refine ⟨B, env, s, _, _, hE, hS, h1, fun B1 H1 v x1 e1 S1 r1 => ?_⟩
    cases r1 with
    | cons r rr =>
      cases r; cases rr
      exact ⟨_, rfl, j1, j2, hQ B1 H1 _ x1 e1 S1 (walk_rng _ _)⟩
  · cases hf
theorem zi_rng2 (c : Cz G bs k X N nm ow) (ha : ZA X [a, b] fs) (hb : bOk bs nm "range" = true := by decide +kernel) (hs : starEach [a, b] X.env = [(false, eval a X.env), (false, eval b X.env)] := by rfl) (hs2 : starEach [b] X.env = [(false, eval b X.env)] := by rfl) :
    ZI X q tg (.Call (.Name "range" p) [a, b] [] pos) (fRng2 fs) := by
  obtain ⟨hg, hm⟩ := c.blt hb
  refine pi_mono (pi_range2 hg hm ha hs hs2) fun σ H R h => ?_
  obtain ⟨B, env, s, src, s', hE, hS, hf, hQ⟩ := h
  obtain ⟨ds, s1, h1, hf⟩ := Rs.bind_ok hf
  split at hf
  · obtain ⟨hj, hf⟩ := Rs.iff_ok hf
    rw [Bool.and_eq_true] at hj
    cases hf
    obtain ⟨j1, j2⟩ := inRng_ok hj.1
    obtain ⟨j3, j4⟩ := inRng_ok hj.2
    refine ⟨B, env, s, _, _, hE, hS, h1, fun B1 H1 v x1 e1 S1 r1 => ?_⟩
    cases r1 with
    | cons r rr =>
      cases r
      cases rr with
      | cons r rr =>
        cases r; cases rr
        exact ⟨_, _, rfl, ⟨j1, j2, j3, j4⟩, hQ B1 H1 _ x1 e1 S1 (walk_rng _ _)⟩
  · cases hf
end

/-! ### for -/
def loopZ (chk : Sto → Bool) (g : Dv → Fn En) (body : Fn Ct) : List Dv → Fn Ct
  | [], env, s => Rs.iff (chk s) (.ok (.next env) s)
  | d :: ds, env, s => Rs.iff (chk s) ((g d env s).bind fun env1 s1 => (body env1 s1).bind fun c s2 => match c with
    | .next e => loopZ chk g body ds e s2
    | .cont e => loopZ chk g body ds e s2
    | .brk e => .ok (.next e) s2
    | .ret r => .ok (.ret r) s2)
def fFor (fi : Fn Src) (g : Dv → Fn En) (body : Fn Ct) : Fn Ct := fun env s => (fi env s).bind fun src s1 => loopZ src.2 g body src.1 env s1
section
variable {G : Gz} {bs : List Str} {k : Nat} {X : Cx} {N : List Str} {nm : List (Str × NameKind)} {ow : Str → Bool} {a b e tg iter : Expr} {fa fb fc : Fn Dv} {pos p : Pos} {q : Bool} {body : List Stmt} {fi : Fn Src} {g : Dv → Fn En} {fb : Fn Ct} {is : List Nat}
theorem z_for (c : Cz G bs k X N nm ow) (hi : ZI X q tg iter fi) (hg : ZG X q is tg g) (hb : ZB X body fb) (hs : ∀ x, foldedSetIterable iter X.env x = pure x := by intro _; rfl) : ZS X (.For tg iter body [] pos) (fFor fi g fb) := by
  refine ps_mono (ps_for c.po c.calm hi hg hb hs) fun D σ H h => ?_
  obtain ⟨B, env, s, ct, s', hE, hS, hf, hQ⟩ := h
  obtain ⟨src, s1, h1, hf⟩ := Rs.bind_ok hf
  refine ⟨B, env, s, _, _, hE, hS, h1, fun B1 H1 J x1 e1 S1 W1 => ?_⟩
  have hQ1 := hQ.ahead x1 e1
  refine ⟨fun i m σ3 H3 => m = src.1.length - i ∧ i ≤ src.1.length ∧ ∃ B3 env3 s3, Ext B1 H1 B3 H3 ∧ B3.hid = B1.hid ∧ Sim X.K B3 H3 s3 ∧ RpE X.K B3 H3 env3 σ3 ∧ loopZ src.2 g fb (src.1.drop i) env3 s3 = .ok ct s',
    ⟨_, rfl, Nat.zero_le _, B1, env, s1, Ext.refl _ _, rfl, S1, hE.mono x1.mo, hf⟩, fun i m σ3 H3 w => ?_⟩
  obtain ⟨rfl, hi, B3, env3, s3, x3, e3, S3, E3, hl⟩ := w
  by_cases hlt : i < src.1.length
  · have hd : src.1.drop i = src.1[i] :: src.1.drop (i + 1) := List.drop_eq_getElem_cons hlt
    rw [hd] at hl
    obtain ⟨hc, hl⟩ := Rs.iff_ok hl
    obtain ⟨hgo, _⟩ := W1 B3 H3 s3 x3 S3 hc
    obtain ⟨go, yl⟩ := hgo i src.1[i] (List.getElem?_eq_getElem hlt)
    obtain ⟨env4, s4, h4, hl⟩ := Rs.bind_ok hl
    obtain ⟨c5, s5, h5, hl⟩ := Rs.bind_ok hl
    right
    refine ⟨go, fun σ' H' => ∃ B5 env5, Ext B1 H1 B5 H' ∧ B5.hid = B1.hid ∧ Sim X.K B5 H' s5 ∧ RpE X.K B5 H' env5 σ' ∧ loopZ src.2 g fb (src.1.drop (i + 1)) env5 s5 = .ok ct s', fun σ' H' hN => ?_, fun x H' hy => ?_⟩
    · obtain ⟨B5, env5, x5, e5, S5, E5, hl5⟩ := hN
      exact ⟨_, by omega, rfl, hlt, B5, env5, s5, x5, e5, S5, E5, hl5⟩
    · obtain ⟨x6, S6, r6⟩ := yl x H' hy
      refine ⟨B3, env3, s3, _, _, _, E3.mono x6.mo, S6, r6, h4, fun B7 H7 σ7 x7 e7 S7 E7 o7 => ?_⟩
      refine ⟨B7, env4, s4, c5, s5, E7, S7, h5, ?_⟩
      have xx : Ext B1 H1 B7 H7 := x3.trans (x6.trans x7)
      have ee : B7.hid = B1.hid := e7.trans e3
      cases c5 with
      | next env5 => exact fun B8 H8 σ8 x8 e8 S8 E8 => ⟨B8, env5, xx.trans x8, e8.trans ee, S8, E8, hl⟩
      | cont env5 => exact fun B8 H8 σ8 x8 e8 S8 E8 => ⟨B8, env5, xx.trans x8, e8.trans ee, S8, E8, hl⟩
      | brk env5 =>
        cases hl
        exact fun B8 H8 σ8 x8 e8 S8 E8 => hQ1 B8 H8 σ8 (xx.trans x8) (e8.trans ee) S8 E8
      | ret d =>
        cases hl
        exact fun B8 H8 v x8 e8 S8 r8 => hQ1 B8 H8 v (xx.trans x8) (e8.trans ee) S8 r8
  · have hi2 : i = src.1.length := by omega
    rw [List.drop_eq_nil_of_le (by omega)] at hl
    obtain ⟨hc, hl⟩ := Rs.iff_ok hl
    cases hl
    left
    obtain ⟨_, hst⟩ := W1 B3 H3 _ x3 S3 hc
    exact ⟨by rw [hi2]; exact hst, hQ1 B3 H3 σ3 x3 e3 S3 E3⟩
end

/-! ### while -/
def whileZ (t : Fn Bool) (body : Fn Ct) : Nat → Fn Ct
  | 0, _, _ => .bad
  | n + 1, env, s => (t env s).bind fun b s1 => if b = true then (body env s1).bind fun c s2 => match c with
      | .next e => whileZ t body n e s2
      | .cont e => whileZ t body n e s2
      | .brk e => .ok (.next e) s2
      | .ret r => .ok (.ret r) s2
    else .ok (.next env) s1
def fWhile (n : Nat) (t : Fn Bool) (body : Fn Ct) : Fn Ct := whileZ t body n
section
variable {G : Gz} {bs : List Str} {k : Nat} {X : Cx} {N : List Str} {nm : List (Str × NameKind)} {ow : Str → Bool} {a b e tg iter : Expr} {pos p : Pos} {q : Bool} {body : List Stmt} {tc : Fn Bool} {fb : Fn Ct} {is : List Nat}
theorem z_while (n : Nat) (c : Cz G bs k X N nm ow) (ht : ZT X a tc) (hb : ZB X body fb) : ZS X (.While a body [] pos) (fWhile n tc fb) := by
  refine ps_mono (ps_while c.po ht hb) fun D σ H h => ?_
  obtain ⟨B, env, s, ct, s', hE, hS, hf, hQ⟩ := h
  refine ⟨fun m σ3 H3 => ∃ B3 env3 s3, Ext B H B3 H3 ∧ B3.hid = B.hid ∧ Sim X.K B3 H3 s3 ∧ RpE X.K B3 H3 env3 σ3 ∧ whileZ tc fb m env3 s3 = .ok ct s',
    ⟨n, B, env, s, Ext.refl _ _, rfl, hS, hE, hf⟩, fun m σ3 H3 w => ?_⟩
  obtain ⟨B3, env3, s3, x3, e3, S3, E3, hl⟩ := w
  cases m with
  | zero => cases hl
  | succ m =>
    obtain ⟨t4, s4, h4, hl⟩ := Rs.bind_ok hl
    refine ⟨B3, env3, s3, _, _, E3, S3, h4, fun B4 H4 x4 e4 S4 => ?_⟩
    split at hl
    · rename_i ht4
      rw [if_pos ht4]
      obtain ⟨c5, s5, h5, hl⟩ := Rs.bind_ok hl
      refine ⟨fun σ' H' => ∃ B5 env5, Ext B H B5 H' ∧ B5.hid = B.hid ∧ Sim X.K B5 H' s5 ∧ RpE X.K B5 H' env5 σ' ∧ whileZ tc fb m env5 s5 = .ok ct s', fun σ' H' hN => ?_, ?_⟩
      · obtain ⟨B5, env5, x5, e5, S5, E5, hl5⟩ := hN
        exact ⟨m, Nat.lt_succ_self _, B5, env5, s5, x5, e5, S5, E5, hl5⟩
      · refine ⟨B4, env3, s4, c5, s5, E3.mono x4.mo, S4, h5, ?_⟩
        have xx : Ext B H B4 H4 := x3.trans x4
        have ee : B4.hid = B.hid := e4.trans e3
        cases c5 with
        | next env5 => exact fun B8 H8 σ8 x8 e8 S8 E8 => ⟨B8, env5, xx.trans x8, e8.trans ee, S8, E8, hl⟩
        | cont env5 => exact fun B8 H8 σ8 x8 e8 S8 E8 => ⟨B8, env5, xx.trans x8, e8.trans ee, S8, E8, hl⟩
        | brk env5 =>
          cases hl
          exact fun B8 H8 σ8 x8 e8 S8 E8 => hQ B8 H8 σ8 (xx.trans x8) (e8.trans ee) S8 E8
        | ret d =>
          cases hl
          exact fun B8 H8 v x8 e8 S8 r8 => hQ B8 H8 v (xx.trans x8) (e8.trans ee) S8 r8
    · rename_i ht4
      rw [if_neg ht4]
      cases hl
      exact hQ B4 H4 σ3 (x3.trans x4) (e4.trans e3) S4 (E3.mono x4.mo)
end
end Z

namespace Z
open PySem PySem.Spec PyProof.Rows L2

/-! ### a comprehension's block -/
def relN (nm names : List (Str × NameKind)) : List (Str × NameKind) := names.map fun (n, k) => if (k == .free && nm.lookup n == some .cell) = true then (n, .cell) else (n, k)
def ownN (names : List (Str × NameKind)) : Str → Bool := fun x => names.lookup x == some .cell
def scD (nm : List (Str × NameKind)) : Scope := { kind := .function, names := nm, isGenerator := false, isCoroutine := false }
def blkZ (N : List Str) (nm : List (Str × NameKind)) (scope : Scope) (own : List (Str × Nat)) : Bool := blkC N (scD nm) scope own
section
variable {G : Gz} {bs : List Str} {k : Nat} {X : Cx} {N : List Str} {nm : List (Str × NameKind)} {ow : Str → Bool}
theorem Cz.blkOk (c : Cz G bs k X N nm ow) {scope : Scope} {own : List (Str × Nat)} (h : blkZ N nm scope own = true) : BlkOk X.N X.env.scope scope own := by
  obtain ⟨h1, h2, h3, h4, h5⟩ := blkOk_by h
  rw [c.hN]
  refine ⟨h1, h2, h3, fun y hy e => ?_, h5⟩
  rw [c.nm]
  exact h4 y hy e
theorem Cz.blk (c : Cz G bs k X N nm ow) {scope : Scope} (hk : scope.kind = .function) (s : Shared) (H : Hp) (C : Addr) (cl : List (Str × Addr)) (fp : List Addr) :
    Cz G bs k (X.blk s H scope (compEnvC scope cl C X.env) fp) N (relN nm scope.names) (ownN scope.names) where
  hN := c.hN
  nd := c.nd
  kd := hk
  nm := by
    show (relabel scope X.env).names = _
    unfold relabel relN
    simp only
    refine List.map_congr_left fun y hy => ?_
    have e : (X.env.scope.kind == ScopeKind.function) = true := by rw [c.kd]; rfl
    have e2 : X.env.kindOf y.1 = nm.lookup y.1 := by show X.env.scope.names.lookup _ = _; rw [c.nm]
    simp only [e, e2, Bool.and_true]
  ow := rfl
  calm := c.calm
  rm := c.rm
  gd := c.gd
  bl := c.bl
  gp := c.gp
  gw := c.gw
  gK := c.gK
  gm := c.gm
  gb := c.gb
  po := PassesOwn.never
end
def wipeZ (env : En) : List Nat → En
  | [] => env
  | v :: vs => (wipeZ env vs).set v none
theorem RpE.wipe {K : PySem.W.Frag} {B : Lo} {H : Hp} {env : En} {σ : L2.St} (h : RpE K B H env σ) : ∀ vs : List Nat, RpE K B H (wipeZ env vs) (wipe σ vs)
  | [] => h
  | v :: vs => (h.wipe vs).unset v
theorem wipe_get {σ : L2.St} {j : Nat} : ∀ {vs : List Nat}, (wipe σ vs)[j]? = if j ∈ vs then (if j < σ.length then some none else none) else σ[j]?
  | [] => by simp [L2.wipe]
  | v :: vs => by
    have ih := wipe_get (σ := σ) (j := j) (vs := vs)
    show ((wipe σ vs).set v none)[j]? = _
    by_cases hj : v = j
    · subst hj
      by_cases hl : v < σ.length
      · rw [List.getElem?_set_self (by rw [wipe_length]; exact hl)]
        simp [hl]
      · rw [List.getElem?_eq_none (by rw [List.length_set, wipe_length]; omega)]
        simp [hl]
    · rw [List.getElem?_set_ne hj, ih]
      simp only [List.mem_cons, show ¬ j = v from fun e => hj e.symm, false_or]
theorem wipe_only {σ σ2 : L2.St} {is vs : List Nat} (h : Only1 is (wipe σ vs) σ2) (hs : ∀ i ∈ is, i ∈ vs) : wipe σ2 vs = wipe σ vs := by
  have hl : σ2.length = σ.length := by rw [h.1, wipe_length]
  apply List.ext_getElem?
  intro j
  rw [wipe_get, wipe_get]
  by_cases hj : j ∈ vs
  · simp [hj, hl]
  · rw [if_neg hj, if_neg hj, h.2 j (fun z => hj (hs j z)), wipe_get, if_neg hj]

/-! ### what lies aside is changed -/
section
variable {K : PySem.W.Frag} {B : Lo} {H : Hp} {s : Sto}
theorem Mo.rehid (S : Sim K B H s) {D : Addr} {o : HO} (h : D ∈ B.hid) : Mo B H B (upd H D o) := by
  obtain ⟨h1, v, h2, hm⟩ := S.hid D h
  refine ⟨List.prefix_refl _, fun b o e _ hb => ?_, fun b o e => ?_, fun b o u e => ?_, fun _ z => z.elim .inl fun z => .inr (.inl z)⟩
  · rw [upd_ne (fun z => hb (by rw [z]; exact h))]; exact e
  · rw [upd_ne (fun z => by rw [z, h2] at e; cases e; exact hm)]; exact e
  · rw [upd_ne (fun z => by rw [z, h2] at e; cases e; exact hm)]; exact e
theorem Sim.rehid (S : Sim K B H s) {D : Addr} {o : HO} (h : D ∈ B.hid) (ho : Mut (some o) := by trivial) : Sim K B (upd H D o) s := by
  obtain ⟨h1, v, h2, hm⟩ := S.hid D h
  refine ⟨S.nd, S.len, fun n a u e1 e2 => (S.obs n a u e1 e2).mono (Mo.rehid S h) (upd_ne fun z => h1 (by rw [← z]; exact List.mem_of_getElem? e1)), fun b hb => ?_⟩
  obtain ⟨h3, zs, h4, h5⟩ := S.hid b hb
  refine ⟨h3, ?_⟩
  by_cases hd : b = D
  · rw [hd]; exact ⟨o, upd_same, ho⟩
  · exact ⟨zs, (upd_ne hd).trans h4, h5⟩
end

/-! ### [elt for target in iter if ..] -/
def lcZ (chk : Sto → Bool) (own : List Nat) (g : Dv → Fn En) (tt : Fn Bool) (te : Fn Dv) : List Dv → Fn (List Dv)
  | [], _, s => Rs.iff (chk s) (.ok [] s)
  | d :: ds, env, s => Rs.iff (chk s) ((g d (wipeZ env own) s).bind fun env1 s1 => (tt env1 s1).bind fun b s2 => if b = true then (te env1 s2).bind fun y s3 => (lcZ chk own g tt te ds env s3).bind fun ys s4 => .ok (y :: ys) s4
      else lcZ chk own g tt te ds env s2)
def fLc (fi : Fn Src) (own : List Nat) (g : Dv → Fn En) (tt : Fn Bool) (te : Fn Dv) : Fn (List Dv) := fun env s => (fi env s).bind fun src s1 => Rs.iff (decide (src.1.length < 16777216)) (lcZ src.2 own g tt te src.1 env s1)
def fYes : Fn Bool := fun _ s => .ok true s
abbrev ZTs (X : Cx) (ifs : List Expr) (f : Fn Bool) : Prop := PTs X ifs (tOfT X.K f)
theorem pts_mono {X : Cx} {e : List Expr} {t t' : TT} (h : PTs X e t) (hh : ∀ σ H Q, t' σ H Q → t σ H Q) : PTs X e t' := ⟨fun pins s σ H Q I q => h.run pins s σ H Q I (hh _ _ _ q)⟩
theorem zts_nil {X : Cx} : ZTs X [] fYes := pts_mono pts_nil fun σ H Q q => by
  obtain ⟨B, env, s, b, s', hE, hS, hf, hQ⟩ := q
  cases hf
  exact hQ B H (Ext.refl _ _) rfl hS
theorem zts_one {X : Cx} {c : Expr} {f : Fn Bool} (h : ZT X c f) : ZTs X [c] f := pts_one h
theorem lc_to {K : PySem.W.Frag} {q : Bool} {fi : Fn Src} {is own : List Nat} {g : Dv → Fn En} {tt : Fn Bool} {te : Fn Dv} (his : ∀ i ∈ is, i ∈ own) :
    ∀ σ H Q, tOfL K (fLc fi own g tt te) σ H Q → tLc (tOfI K q fi) (tOfG K q is g) (tOfT K tt) (tOf K te) own σ H Q := fun σ H Q h => by
  obtain ⟨B, env, s, rs, s', hE, hS, hf, hQ⟩ := h
  obtain ⟨src, s1, h1, hf⟩ := Rs.bind_ok hf
  obtain ⟨hz, hf⟩ := Rs.iff_ok hf
  have hz : src.1.length < 16777216 := of_decide_eq_true hz
  refine ⟨B, env, s, _, _, hE, hS, h1, fun B1 H1 J x1 e1 S1 W1 D hD => ?_⟩
  have nD : D ∉ B1.hid := S1.freeH hD
  have nL : D ∉ B1.locs := S1.free hD
  have D0 : H D = none := x1.was_none hD fun z => nL (x1.mo.pre.subset z)
  refine ⟨fun i m H3 => m = src.1.length - i ∧ i ≤ src.1.length ∧ ∃ (L3 : List Addr) (s3 : Sto) (acc rest : List Dv) (accV : List V), Ext B1 H1 ⟨L3, D :: B1.hid⟩ H3 ∧ Sim K ⟨L3, D :: B1.hid⟩ H3 s3 ∧ RpE K ⟨L3, D :: B1.hid⟩ H3 env σ ∧
      H3 D = some (.lst accV) ∧ Rps K ⟨L3, D :: B1.hid⟩ H3 acc accV ∧ acc.length ≤ i ∧ lcZ src.2 own g tt te (src.1.drop i) env s3 = .ok rest s' ∧ acc ++ rest = rs,
    ⟨_, rfl, Nat.zero_le _, B1.locs, s1, [], rs, [], Ext.aside hD, S1.aside hD, hE.mono (x1.mo.trans (Mo.aside hD)), upd_same, .nil, Nat.le_refl _, hf, rfl⟩, fun i m H3 w => ?_⟩
  obtain ⟨rfl, hi, L3, s3, acc, rest, accV, x3, S3, E3, hd, ra, hal, hl, hr⟩ := w
  by_cases hlt : i < src.1.length
  · have hdr : src.1.drop i = src.1[i] :: src.1.drop (i + 1) := List.drop_eq_getElem_cons hlt
    rw [hdr] at hl
    obtain ⟨hc, hl⟩ := Rs.iff_ok hl
    obtain ⟨hgo, _⟩ := W1 _ H3 s3 x3 S3 hc
    obtain ⟨go, yl⟩ := hgo i src.1[i] (List.getElem?_eq_getElem hlt)
    obtain ⟨env4, s4, h4, hl⟩ := Rs.bind_ok hl
    obtain ⟨b5, s5, h5, hl⟩ := Rs.bind_ok hl
    right
    refine ⟨go, fun H' => ∃ (L5 : List Addr) (s6 : Sto) (acc rest : List Dv) (accV : List V), Ext B1 H1 ⟨L5, D :: B1.hid⟩ H' ∧ Sim K ⟨L5, D :: B1.hid⟩ H' s6 ∧ RpE K ⟨L5, D :: B1.hid⟩ H' env σ ∧
      H' D = some (.lst accV) ∧ Rps K ⟨L5, D :: B1.hid⟩ H' acc accV ∧ acc.length ≤ i + 1 ∧ lcZ src.2 own g tt te (src.1.drop (i + 1)) env s6 = .ok rest s' ∧ acc ++ rest = rs, fun H' hN => ?_, fun x H' hy => ?_⟩
    · obtain ⟨L5, s6, acc, rest, accV, hh⟩ := hN
      exact ⟨_, by omega, rfl, hlt, L5, s6, acc, rest, accV, hh⟩
    · obtain ⟨x6, S6, r6⟩ := yl x H' hy
      have d6 : H' D = some (.lst accV) := x6.keepH D _ hd List.mem_cons_self
      refine ⟨_, wipeZ env own, s3, _, _, _, (E3.mono x6.mo).wipe own, S6, r6, h4, fun B7 H7 σ7 x7 e7 S7 E7 o7 => ⟨wipe_only o7 his, ?_⟩⟩
      refine ⟨B7, env4, s4, b5, s5, E7, S7, h5, fun B8 H8 x8 e8 S8 => ?_⟩
      have hh8 : B8.hid = D :: B1.hid := e8.trans e7
      obtain ⟨L8, h8⟩ := B8
      simp only at hh8
      subst hh8
      have xx : Ext B1 H1 ⟨L8, D :: B1.hid⟩ H8 := x3.trans (x6.trans (x7.trans x8))
      have mm : Mo ⟨L3, D :: B1.hid⟩ H3 ⟨L8, D :: B1.hid⟩ H8 := (x6.trans (x7.trans x8)).mo
      have d8 : H8 D = some (.lst accV) := (x7.trans x8).keepH D _ d6 List.mem_cons_self
      split at hl
      · rename_i hb
        show if b5 = true then _ else _
        rw [if_pos hb]
        obtain ⟨y, s9, h9, hl⟩ := Rs.bind_ok hl
        obtain ⟨ys, s10, h10, hl⟩ := Rs.bind_ok hl
        cases hl
        refine ⟨⟨L8, D :: B1.hid⟩, env4, s5, _, _, E7.mono x8.mo, S8, h9, fun B9 H9 v x9 e9 S9 r9 => ?_⟩
        obtain ⟨L9, hid9⟩ := B9
        simp only at e9
        subst e9
        have d9 : H9 D = some (.lst accV) := x9.keepH D _ d8 List.mem_cons_self
        have ra9 := (ra.mono mm).mono x9.mo
        have hm9 : D ∈ (⟨L9, D :: B1.hid⟩ : Lo).hid := List.mem_cons_self
        have mr := Mo.rehid (o := .lst (accV ++ [v])) S9 hm9
        refine ⟨accV, d9, ?_, L9, s9, acc ++ [y], ys, accV ++ [v], (xx.trans x9).rewrite hD, S9.rehid hm9, (E3.mono (mm.trans x9.mo)).mono mr, upd_same, (ra9.append (.cons r9 .nil)).mono mr, ?_, h10, ?_⟩
        · rw [← ra9.length, sizeLine_eq]; omega
        · rw [List.length_append, List.length_singleton]; omega
        · rw [← hr, List.append_assoc]; rfl
      · rename_i hb
        show if b5 = true then _ else _
        rw [if_neg hb]
        exact ⟨L8, s5, acc, rest, accV, xx, S8, E3.mono mm, d8, ra.mono mm, by omega, hl, hr⟩
  · have hi2 : i = src.1.length := by omega
    rw [List.drop_eq_nil_of_le (by omega)] at hl
    obtain ⟨hc, hl⟩ := Rs.iff_ok hl
    cases hl
    left
    obtain ⟨_, hst⟩ := W1 _ H3 _ x3 S3 hc
    rw [List.append_nil] at hr
    subst hr
    exact ⟨by rw [hi2]; exact hst, hQ ⟨L3, B1.hid⟩ H3 D accV (x1.trans x3) e1 S3 nD D0 hd ra⟩
section
variable {G : Gz} {bs : List Str} {k : Nat} {X : Cx} {N : List Str} {nm : List (Str × NameKind)} {ow : Str → Bool} {elt tg iter : Expr} {ifs : List Expr} {scope : Scope} {own : List (Str × Nat)} {pos : Pos} {q : Bool} {fi : Fn Src} {is : List Nat} {g : Dv → Fn En} {tt : Fn Bool} {te : Fn Dv}
theorem z_lc (c : Cz G bs k X N nm ow) (own : List (Str × Nat)) (hi : ZI X q tg iter fi)
    (hin : ∀ X' : Cx, Cz G bs k X' N (relN nm scope.names) (ownN scope.names) → ZG X' q is tg g ∧ ZTs X' ifs tt ∧ ZE X' elt te)
    (ok : blkZ N nm scope own = true := by decide +kernel) (hk : scope.kind = .function := by rfl) (his : is.all (fun i => (own.map (·.2)).contains i) = true := by decide +kernel) (hs : ∀ x, foldedSetIterable iter X.env x = pure x := by intro _; rfl) :
    ZL X (.ListComp elt [⟨tg, iter, ifs, 0⟩] scope pos) (fLc fi (own.map (·.2)) g tt te) := by
  have nd : X.N.Nodup := by rw [c.hN]; exact c.nd
  have hcs := fun s H C cl fp => hin _ (c.blk hk s H C cl fp)
  refine pe_mono (pe_lc (own := own) c.calm nd hi (c.blkOk ok) (fun s H C cl fp => (hcs s H C cl fp).1) (fun s H C cl fp => (hcs s H C cl fp).2.1) (fun s H C cl fp => (hcs s H C cl fp).2.2) hs) (lc_to fun i hi => ?_)
  have := List.all_eq_true.mp his i hi
  exact List.contains_iff_mem.mp this
end
end Z

namespace Z
open PySem PySem.Spec PyProof.Rows L2

/-! ### what a def leaves behind it -/
mutual
/-- no place of the store from b on is named in it -/
def below (b : Nat) : Dv → Bool
  | .tup ds => belows b ds
  | .ls ds => belows b ds
  | .loc n => decide (n < b)
  | _ => true
def belows (b : Nat) : List Dv → Bool
  | [] => true
  | d :: r => below b d && belows b r
end
def belowO (b : Nat) : Ob → Bool
  | .lst ds => belows b ds
  | .dk kvs => kvs.all fun p => below b p.2
  | .dt kvs => kvs.all fun p => below b p.2
section
variable {K : PySem.W.Frag} {B' : Lo} {H : Hp} {L h : List Addr} {b : Nat}
mutual
theorem Rp.cut (hp : L <+: B'.locs) (hb : L.length = b) (hh : ∀ a ∈ h, a ∈ B'.hid) : ∀ {d : Dv} {v : V}, Rp K B' H d v → below b d = true → Rp K ⟨L, h⟩ H d v
  | _, _, .non, _ => .non
  | _, _, .bl b, _ => .bl b
  | _, _, .int b, _ => .int b
  | _, _, .str b, _ => .str b
  | _, _, .tup h1 h2, e => .tup h1 (Rps.cut hp hb hh h2 (by simpa [below] using e))
  | _, _, .ls h1 h2, e => by
    refine .ls ?_ (Rps.cut hp hb hh h2 (by simpa [below] using e))
    rcases h1 with ⟨q1, q2, q3⟩ | q | q
    · exact .inl ⟨q1, fun z => q2 (hp.subset z), fun z => q3 (hh _ z)⟩
    · exact .inr (.inl q)
    · exact .inr (.inr q)
  | _, _, @Rp.loc _ _ _ n a h1, e => .loc (by
    have hl : n < b := by simpa [below] using e
    obtain ⟨t, ht⟩ := hp
    rw [← ht, List.getElem?_append_left (by rw [hb]; exact hl)] at h1
    exact h1)
theorem Rps.cut (hp : L <+: B'.locs) (hb : L.length = b) (hh : ∀ a ∈ h, a ∈ B'.hid) : ∀ {d : List Dv} {v : List V}, Rps K B' H d v → belows b d = true → Rps K ⟨L, h⟩ H d v
  | _, _, .nil, _ => .nil
  | _, _, @Rps.cons _ _ _ d _ ds _ h1 h2, e => by
    have e' : below b d = true ∧ belows b ds = true := by simpa [belows] using e
    exact .cons (Rp.cut hp hb hh h1 e'.1) (Rps.cut hp hb hh h2 e'.2)
end
theorem paired_cut {κ : Type} (hp : L <+: B'.locs) (hb : L.length = b) (hh : ∀ a ∈ h, a ∈ B'.hid) : ∀ {kvs : List (κ × Dv)} {ks : List (κ × V)}, Paired (fun (p : κ × Dv) (q : κ × V) => p.1 = q.1 ∧ Rp K B' H p.2 q.2) kvs ks → (kvs.all fun p => below b p.2) = true →
    Paired (fun (p : κ × Dv) (q : κ × V) => p.1 = q.1 ∧ Rp K ⟨L, h⟩ H p.2 q.2) kvs ks
  | _, _, .nil, _ => .nil
  | _, _, .cons r t, e => by
    rw [List.all_cons, Bool.and_eq_true] at e
    exact .cons ⟨r.1, r.2.cut hp hb hh e.1⟩ (paired_cut hp hb hh t e.2)
theorem RpO.cut (hp : L <+: B'.locs) (hb : L.length = b) (hh : ∀ a ∈ h, a ∈ B'.hid) {a : Addr} {o : Ob} (r : RpO K B' H a o) (e : belowO b o = true) : RpO K ⟨L, h⟩ H a o := by
  cases o with
  | lst ds => obtain ⟨xs, h1, h2⟩ := r; exact ⟨xs, h1, h2.cut hp hb hh e⟩
  | dk kvs => obtain ⟨xs, h1, h2⟩ := r; exact ⟨xs, h1, paired_cut hp hb hh h2 e⟩
  | dt kvs => obtain ⟨xs, h1, h2⟩ := r; exact ⟨xs, h1, paired_cut hp hb hh h2 e⟩
end
def keepsZ (b : Nat) (s : Sto) : Bool := (s.take b).all (belowO b)
def gcZ (b : Nat) (d : Dv) (s : Sto) : Rs Dv :=
  if (below b d && keepsZ b s) = true then .ok d (s.take b)
  else match d with
    | .loc n => match s[n]? with
      | some (.lst ds) => if (decide (b ≤ n) && belows b ds && keepsZ b s) = true then .ok (.ls ds) (s.take b) else .ok d s
      | _ => .ok d s
    | _ => .ok d s
/-- what the caller wants, ahead of the cleaning -/
theorem gc_ok {K : PySem.W.Frag} {B : Lo} {H : Hp} {s s1 s2 : Sto} {d e : Dv} {Q : VK} (S : Sim K B H s) (hg : gcZ s.length d s1 = .ok e s2) (hQ : PostZ K B H s2 e Q) : PostZ K B H s1 d Q := by
  intro B' H' v x eh S' r
  have hlen : B.locs.length = s.length := S.len
  have cut : keepsZ s.length s1 = true → ∀ {f : Dv} {u : V}, (∃ L : Lo, L = ⟨B.locs, B'.hid⟩ ∧ Rp K L H' f u) → PostZ K B H (s1.take s.length) f Q → Q u H' := fun hk {f u} ⟨L, eL, ru⟩ hq => by
    subst eL
    refine hq ⟨B.locs, B'.hid⟩ H' u ⟨⟨List.prefix_refl _, x.mo.keep, x.mo.tups, x.mo.frzs, fun b z => x.mo.new b (z.elim (fun z => .inl (x.mo.pre.subset z)) .inr)⟩, x.keepH, x.sub, fun b z => .inl z⟩ eh ?_ ru
    refine ⟨S.nd, ?_, fun n a o e1 e2 => ?_, fun b hb => ?_⟩
    · rw [List.length_take, ← S'.len]
      have := x.mo.pre.length_le
      show B.locs.length = _
      omega
    · have hn : n < s.length := by rw [← hlen]; exact (List.getElem?_eq_some_iff.mp e1).1
      rw [List.getElem?_take_of_lt hn] at e2
      have hb : belowO s.length o = true := by
        refine List.all_eq_true.mp hk o (List.mem_of_getElem? (i := n) ?_)
        rw [List.getElem?_take_of_lt hn]; exact e2
      exact (S'.obs n a o (pre_get x.mo.pre e1) e2).cut x.mo.pre hlen (fun _ z => z) hb
    · obtain ⟨h1, h2⟩ := S'.hid b hb
      exact ⟨fun z => h1 (x.mo.pre.subset z), h2⟩
  unfold gcZ at hg
  split at hg
  · rename_i hc
    rw [Bool.and_eq_true] at hc
    cases hg
    exact cut hc.2 ⟨_, rfl, r.cut x.mo.pre hlen (fun _ z => z) hc.1⟩ hQ
  · split at hg
    · rename_i n _
      split at hg
      · rename_i ds e1
        split at hg
        · rename_i hc
          rw [Bool.and_eq_true, Bool.and_eq_true] at hc
          have hbn : s.length ≤ n := of_decide_eq_true hc.1.1
          cases hg
          cases r with
          | @loc _ a hl =>
            obtain ⟨o, ho, ro⟩ := S'.at hl
            rw [e1] at ho; cases ho
            obtain ⟨xs, h1, h2⟩ := ro
            refine cut hc.2 ⟨_, rfl, .ls (.inl ⟨h1, fun z => ?_, fun z => (S'.hid _ z).1 (List.mem_of_getElem? hl)⟩) (h2.cut x.mo.pre hlen (fun _ z => z) hc.1.2)⟩ hQ
            obtain ⟨m, hm⟩ := List.getElem?_of_mem z
            have hm2 := pre_get x.mo.pre hm
            obtain ⟨q1, q2⟩ := List.getElem?_eq_some_iff.mp hl
            obtain ⟨q3, q4⟩ := List.getElem?_eq_some_iff.mp hm2
            have em : n = m := (List.getElem_inj S'.nd).mp (q2.trans q4.symm)
            have hlt : m < B.locs.length := (List.getElem?_eq_some_iff.mp hm).1
            omega
        · cases hg
          exact hQ B' H' v x eh S' r
      · cases hg
        exact hQ B' H' v x eh S' r
    · cases hg
      exact hQ B' H' v x eh S' r

/-! ### defs -/
def fDef (n m : Nat) (body : Fn Ct) (ds : List Dv) (s : Sto) : Rs Dv :=
  Rs.iff (ds.length == n) ((body (ds.map some ++ List.replicate (m - n) none) s).bind fun c s1 => match c with
    | .next _ => gcZ s.length .non s1
    | .ret d => gcZ s.length d s1
    | _ => .bad)
abbrev Phi := List Dv → Sto → Rs Dv
def spZ (K : PySem.W.Frag) (n : Nat) (φ : Phi) : Sp := fun vs H Q _ => vs.length = n ∧ ∃ B ds s d s', Rps K B H ds vs ∧ Sim K B H s ∧ φ ds s = .ok d s' ∧ PostZ K B H s' d Q
/-- a def at f keeps its promise, wherever no thing's text is being written -/
structure FnZ (G : Gz) (k : Nat) (f : Addr) (fd : FuncData) (ps : List Str) (sp : Sp) : Prop where
  run : ∀ (A : Around) (outer : List Env) (s : Shared) (H : Hp) (args : Args) (us : List Value) (vs : List V) (Q : VK), A.guards = some [] → Room k A → Env0 G.prog G.w G.K G.mg G.base A outer s H → BindsTo s fd args (ps.zip us) → Vals vs us → sp vs H Q E0 →
    codeAny (model G.prog G.w) A (.call (.ref f) args) (CR CX0 outer G.prog G.w H s Q E0) s
theorem FnZ.mono {G : Gz} {j k : Nat} {f : Addr} {fd : FuncData} {ps : List Str} {sp : Sp} (F : FnZ G j f fd ps sp) (h : j ≤ k) : FnZ G k f fd ps sp :=
  ⟨fun A outer s H args us vs Q hg hr => F.run A outer s H args us vs Q hg (hr.mono h)⟩
/-- the def x of the module, asked by its places -/
structure Fz (G : Gz) (k : Nat) (x : Str) (n : Nat) (φ : Phi) : Prop where
  len : ∀ ds s d s', φ ds s = .ok d s' → ds.length = n
  ex : ∃ (f : Addr) (fd : FuncData) (ps : List Str), G.mg x = some (.ref f) ∧ PySem.W.keepIn G.K (.ref f) = true ∧ Binds G.K fd ps [] ∧ ps.length = n ∧ FnZ G k f fd ps (spZ G.K n φ)
theorem Fz.mono {G : Gz} {j k : Nat} {x : Str} {n : Nat} {φ : Phi} (F : Fz G j x n φ) (h : j ≤ k) : Fz G k x n φ := by
  obtain ⟨f, fd, ps, h1, h2, h3, h4, h5⟩ := F.ex
  exact ⟨F.len, f, fd, ps, h1, h2, h3, h4, h5.mono h⟩
theorem start_rp {K : PySem.W.Frag} {B : Lo} {H : Hp} {ds : List Dv} {vs : List V} {N : List Str} (r : Rps K B H ds vs) : RpE K B H (ds.map some ++ List.replicate (N.length - ds.length) none) (start N vs) := by
  have hl := r.length
  refine ⟨by simp [L2.start, hl], fun i d e => ?_⟩
  unfold L2.start
  by_cases hi : i < ds.length
  · rw [List.getElem?_append_left (by simpa using hi), List.getElem?_map] at e
    cases e2 : ds[i]? with
    | none => rw [e2] at e; cases e
    | some d' =>
      rw [e2] at e
      have e3 : d' = d := by simpa using e
      subst e3
      obtain ⟨v, h1, h2⟩ := r.get e2
      refine ⟨v, ?_, h2⟩
      rw [List.getElem?_append_left (by simpa [← hl] using hi), List.getElem?_map, h1]
      rfl
  · rw [List.getElem?_append_right (by simpa using hi), List.getElem?_replicate] at e
    split at e <;> cases e
/-- a def of the text, by its body -/
theorem z_fn {G : Gz} {bs : List Str} {k : Nat} {x qual : Str} {st : Stmt} {f : Addr} {fd : FuncData} {N ps : List Str} {nm : List (Str × NameKind)} {body : Fn Ct} (F : Fun G.K x qual st f fd) (S : FnScope N ps (defScope st)) (hnm : (defScope st).names = nm)
    (hbl : ∀ y ∈ bs, G.mg y = none) (hbody : ∀ X : Cx, Cz G bs k X N nm (fun _ => true) → ZB X (defBody st) body) : FnZ G (k + 1) f fd ps (spZ G.K ps.length (fDef ps.length N.length body)) := by
  obtain ⟨oc, od, kV, doc, pm, an, cdv, ct, osl, rfl, lk, hcd⟩ := F.ex
  refine ⟨fun A outer s H args us vs Q hgd hr e0 hb r hsp => ?_⟩
  obtain ⟨hvl, B, ds, st0, d, st1, rd, S0, hf, hQ⟩ := hsp
  have KX : G.K.In s.heap := e0.mod.kin.keeps fun b o e => (e0.bs b o e).1
  have lim : s.heap.NoLimit := e0.mod.nolimit.keeps fun b o e => (e0.bs b o e).1
  have hkind : ∀ y ∈ ps.zip us, (defScope st).names.lookup y.1 = some .local ∨ ((defScope st).names.lookup y.1 = some .cell ∧ ((cellsFrom (s.heap.objs.size + 1) (defScope st).names []).lookup y.1).isSome = true) := fun ⟨n, v⟩ hy => by
    rcases S.par n (List.of_mem_zip hy).1 with q | q
    · exact .inl q
    · exact .inr ⟨q, PySem.W.cellsFrom_some _ _ _ (.inl q)⟩
  refine codeAny_call_function hr.depth (KX _ _ lk) rfl S.co S.gen rfl (PySem.W.codeRec_of KX hcd) (hb _ _ _ _ ?_)
  refine wpAny_newFunctionEnv_cells S.kind hkind fun env he s1 x1 => ?_
  subst he
  refine ⟨lim.keeps x1.toInCall.keep, codeAny_func ?_⟩
  obtain ⟨hdl, hf⟩ := Rs.iff_ok hf
  have hdl : ds.length = ps.length := beq_iff_eq.mp hdl
  obtain ⟨c, s2, hbd, hf⟩ := Rs.bind_ok hf
  have I0 := inv_start (CX := CX0) (E := E0) S hr.hd e0 hvl r x1
  have I : Inv (cxOf CX0 G.prog G.w G.K G.mg G.base N qual (defScope st) f cdv A outer s H E0).nox [] (start N vs) H s1 := I0.wish _
  have cz : Cz G bs k (cxOf CX0 G.prog G.w G.K G.mg G.base N qual (defScope st) f cdv A outer s H E0).nox N nm (fun _ => true) :=
    ⟨rfl, S.nd, S.kind, hnm, rfl, rfl, hr.deeper _, hgd, hbl, rfl, rfl, rfl, rfl, rfl, PassesOwn.never⟩
  have hz := (hbody _ cz).run [] s1 (start N vs) H { nx := fun _ H' => Q .non H', rt := Q } I ⟨B, _, st0, c, s2, start_rp (N := N) rd, S0, by rw [hdl]; exact hbd, ?_⟩
  · refine wpAny_mono hz (fun fl s' hs => ?_) fun _ _ z => False.elim z
    have fin : ∀ {σ' : L2.St} {H' : Hp} {v : V} {u : Value}, Inv (cxOf CX0 G.prog G.w G.K G.mg G.base N qual (defScope st) f cdv A outer s H E0).nox [] σ' H' s' → RelV v u → Q v H' → CE outer G.prog G.w H s Q u s' :=
      fun {σ' H' v u} J rv q => ⟨v, H', J.os, J.bare, J.base, J.hok, rv, q⟩
    cases fl with
    | ret u => obtain ⟨v, σ', H', J, rv, q⟩ := hs; exact fin J rv q
    | next => obtain ⟨σ', H', J, q⟩ := hs; exact fin (v := V.non) (u := Value.none) J rfl q
    | brk => obtain ⟨_, _, _, q⟩ := hs; exact False.elim q
    | cont => obtain ⟨_, _, _, q⟩ := hs; exact False.elim q
  · cases c with
    | next env => exact fun B' H' σ' x e S' _ => gc_ok S0 hf hQ B' H' .non x e S' .non
    | ret d' => exact fun B' H' v x e S' r => gc_ok S0 hf hQ B' H' v x e S' r
    | brk _ => cases hf
    | cont _ => cases hf
def fCall (φ : Phi) (f : Fn (List Dv)) : Fn Dv := fun env s => (f env s).bind φ
section
variable {G : Gz} {bs : List Str} {k : Nat} {X : Cx} {N : List Str} {nm : List (Str × NameKind)} {ow : Str → Bool} {x : Str} {e : Expr} {es : List Expr} {p pos : Pos} {fs : Fn (List Dv)} {n : Nat} {φ : Phi}
theorem run_fnZ (c : Cz G bs k X N nm ow) {f : Addr} {fd : FuncData} {ps : List Str} (hb : Binds G.K fd ps []) (hn : ps.length = n) (F : FnZ G k f fd ps (spZ G.K n φ)) {pins : List (Addr × Obj)} {σ : L2.St} {H : Hp} {s : Shared} {Q : VK} {us : List Value} {vs : List V}
    (I : Inv X pins σ H s) (r : Vals vs us) (h : spZ X.K n φ vs H Q E0) : wpAny (model X.prog X.w) X.A (call (.ref f) us) (EP X pins σ Q) X.xe s := by
  have hl : (us ++ []).length = ps.length := by rw [List.append_nil, ← r.length, h.1, hn]
  have hbind := hb s us (by rw [← c.gK]; exact I.kIn) hl
  rw [List.append_nil] at hbind
  have e0 := I.env0
  rw [c.gp, c.gw, c.gK, c.gm, c.gb] at e0
  rw [c.gK] at h
  have run := F.run X.A X.stack s H ⟨us, []⟩ us vs Q c.gd c.rm e0 hbind r h
  rw [← c.gp, ← c.gw] at run
  refine wpAny_call (codeAny_mono run fun r s' hq => ?_)
  cases r with
  | error e => exact False.elim hq
  | ok fl =>
    cases fl with
    | ret u => exact I.after hq
    | next => exact False.elim hq
    | brk => exact False.elim hq
    | cont => exact False.elim hq
/-- a def of the module is called -/
theorem z_call (c : Cz G bs k X N nm ow) (F : Fz G k x n φ) (ha : ZA X (e :: es) fs) (hg : gOk nm x = true := by decide +kernel) (hn : (e :: es).length = n := by rfl) (hdb : (x == ("__debug__" : Str)) = false := by decide +kernel)
    (he : starEach (e :: es) X.env = (false, eval e X.env) :: starEach es X.env := by rfl) (hpl : (backTo pos (starEach es X.env)).any (·.1) = false := by rfl) :
    ZE X (.Call (.Name x p) (e :: es) [] pos) (fCall φ fs) := by
  obtain ⟨f, fd, ps, h1, h2, h3, h4, h5⟩ := F.ex
  refine ⟨fun pins s σ H Q I h => ?_⟩
  refine wpAny_Call_Name_kw (ld_glob I (c.gl hg) (by rw [c.gm]; exact h1) ?_ hdb)
  obtain ⟨B, env, st, d, st', hE, hS, hf, hQ⟩ := h
  obtain ⟨ds, st1, hf1, hf⟩ := Rs.bind_ok hf
  refine PySem.W.callWith_K (h₀ := X.base) I.ok.mod.kin (by rw [c.gK]; exact h2) (thn (ha.run pos pins s σ H (fun vs H1 => spZ X.K n φ vs H1 Q E0) I ⟨B, env, st, ds, st1, hE, hS, hf1, fun B1 H1 vs x1 e1 S1 r1 => ?_⟩) fun us s1 ⟨vs, H1, I1, r, q⟩ => ⟨I1.kIn, ?_⟩) he hpl
  · exact ⟨by rw [← r1.length]; exact F.len _ _ _ _ hf, B1, ds, st1, d, st', r1, S1, hf, fun B2 H2 v x2 e2 S2 r2 => hQ B2 H2 v (x1.trans x2) (e2.trans e1) S2 r2⟩
  · exact run_fnZ c h3 h4 h5 I1 r q
end
end Z

namespace Z
open PySem PySem.Spec PyProof.Rows L2

/-! ### the law's end -/
theorem rps_ints {K : PySem.W.Frag} {B : Lo} {H : Hp} : ∀ ns : List Int, Rps K B H (ns.map Dv.int) (ns.map V.int)
  | [] => .nil
  | n :: r => .cons (.int n) (rps_ints r)
theorem endZ {P : Program} {w : World} {K : PySem.W.Frag} {mg mb : Str → Option Value} {k : Nat} {fa a : Addr} {fd : FuncData} {x : Str} {φ : Phi} {s₁ : Shared} {vs : List Value} {ns : List Int}
    (KX : K.In s₁.heap) (hns : s₁.heap.Ns mainGlobals mg) (hb : s₁.heap.Ns builtinsNs mb) (hbb : ∀ x : Str, x ≠ "__name__" → mb x = bootBuiltins x) (hlim : s₁.heap.NoLimit) (hg : s₁.gens = #[])
    (ha : s₁.heap.get? a = some { cls := .type "list", data := .seq vs.toArray }) (hi : IntsAre vs ns) (hl : ns.length ≤ sizeLine) (hr : Room k callerA)
    (F : ∀ base : Heap, K.In base → base.Ns mainGlobals mg → FnZ ⟨P, w, K, mg, base⟩ k fa fd [x] (spZ K 1 φ)) (hbind : ∀ (s : Shared) (u : Value), BindsTo s fd ⟨[u], []⟩ [(x, u)])
    (hφ : ∃ s', φ [.ls (ns.map .int)] [] = .ok (.bl true) s') :
    codeAny (model P w) callerA (.call (.ref fa) ⟨[.ref a], []⟩) (fun r s' => r = .ok (.ret (.bool true)) ∧ OldK s₁.heap s'.heap ∧ s'.os = s₁.os ∧ AllBare s'.gens) s₁ := by
  have rv : Vals (ns.map V.int) vs := vals_ints hi
  have lenV := hi.length
  let ob : Obj := { cls := .type "list", data := .seq vs.toArray }
  -- the abstract heap at the entry: nothing but the script
  have core : ∀ H : Hp, (∀ b u, H b = some u → b = a ∧ u = .frz ob (.lst (ns.map V.int)) ∧ K.lookup a = none) → Ls K ⟨[], []⟩ H a (ns.map V.int) →
      codeAny (model P w) callerA (.call (.ref fa) ⟨[.ref a], []⟩) (fun r s' => r = .ok (.ret (.bool true)) ∧ OldK s₁.heap s'.heap ∧ s'.os = s₁.os ∧ AllBare s'.gens) s₁ := by
    intro H hA hS
    have hok : HOk P w H s₁.heap := fun b u e => by
      obtain ⟨rfl, rfl, _⟩ := hA b u e
      exact ⟨ha, by rw [List.length_map]; exact hl, vs, _, rv, ha⟩
    have isList : ∀ {b : Addr} {o : Obj}, s₁.heap.get? b = some o → H b ≠ none → o = ob := fun {b o} e hn => by
      cases q : H b with
      | none => exact absurd q hn
      | some u =>
        obtain ⟨rfl, _, _⟩ := hA b u q
        rw [ha] at e; exact (Option.some.inj e).symm
    have free : ∀ {b : Addr} {o : Obj}, s₁.heap.get? b = some o → o ≠ ob → H b = none := fun {b o} e hn => by
      cases q : H b with
      | none => rfl
      | some u => exact absurd (isList e (by rw [q]; simp)) hn
    have notDict : ∀ {o : Obj} {es : Array DictEntry} {ep : Nat}, o.data = .dict es ep → o ≠ ob := fun d e => by
      rw [e] at d
      have d' : Data.seq vs.toArray _ = Data.dict _ _ := d
      cases d'
    have nsK : ∀ {b : Addr} {m : Str → Option Value}, s₁.heap.Ns b m → (hidT s₁.heap H).Ns b m := fun {b m} ⟨o, es, ep, e, d, r⟩ => ⟨o, es, ep, hidT_get e (free e (notDict d)), d, r⟩
    have hKb : K.In (hidT s₁.heap H) := fun b o e => hidT_get (KX b o e) (by
      cases q : H b with
      | none => rfl
      | some u =>
        obtain ⟨rfl, _, hk⟩ := hA b u q
        rw [hk] at e; cases e)
    have hM : Mod K mg (hidT s₁.heap H) := ⟨hKb, nsK hns, ⟨mb, nsK hb, hbb⟩, let ⟨mc, h1, h2⟩ := hlim; ⟨mc, nsK h1, h2⟩⟩
    have e0 : Env0 P w K mg (hidT s₁.heap H) callerA [] s₁ H := ⟨rfl, hM, fun b o e => of_hidT e, Nat.le_of_eq (hidT_size _ _), trivial, fun b hb => absurd (show b ∈ ([] : List Addr) from hb) (by simp), hok, .of_eq hg⟩
    obtain ⟨s', hφ⟩ := hφ
    have hsp : spZ K 1 φ [.ref a] H (fun v _ => v = .bl true) E0 := ⟨rfl, ⟨[], []⟩, _, [], _, s', .cons (.ls hS (rps_ints ns)) .nil, ⟨List.nodup_nil, rfl, fun n a o e => by simp at e, fun b hb => absurd hb (by simp)⟩, hφ, fun B' H' v _ _ _ r => by cases r; rfl⟩
    refine codeAny_mono ((F _ hKb (nsK hns)).run callerA [] s₁ H ⟨[.ref a], []⟩ [.ref a] [.ref a] _ rfl hr e0 (hbind s₁ (.ref a)) (.cons rfl .nil) hsp) fun r s2 h => ?_
    cases r with
    | error e => exact False.elim h
    | ok fl =>
      cases fl with
      | next => exact False.elim h
      | brk => exact False.elim h
      | cont => exact False.elim h
      | ret u =>
        obtain ⟨v, H', os, bare, un, hok', r', q⟩ := h
        have q' : v = .bl true := q
        subst q'
        obtain rfl : u = Value.bool true := r'
        refine ⟨rfl, OldK.of_keep fun b o e => ?_, os, bare⟩
        cases q : H b with
        | none => exact un.keep b o e q (fun z => absurd (show b ∈ ([] : List Addr) from z) (by simp)) (by simp)
        | some u =>
          obtain ⟨rfl, rfl, _⟩ := hA b u q
          obtain ⟨e2, _⟩ := hok' b _ (un.frzs b _ _ q)
          rw [ha] at e; cases e
          exact e2
  cases hk : K.lookup a with
  | some o =>
    have e := KX a o hk
    rw [ha] at e
    cases e
    exact core (fun _ => none) (fun b u e => by cases e) (.inr (.inr ⟨_, vs.toArray, _, hk, rfl, rfl, rfl, by rw [List.size_toArray, lenV]; exact hl, by simpa using rv⟩))
  | none =>
    refine core (fun b => if b = a then some (.frz ob (.lst (ns.map V.int))) else none) (fun b u e => ?_) (.inr (.inl ⟨ob, if_pos rfl⟩))
    by_cases hb : b = a
    · have e' := (if_pos hb).symm.trans e
      exact ⟨hb, (Option.some.inj e').symm, hk⟩
    · have e' := (if_neg hb).symm.trans e
      cases e'
/-- the goal behind the head -/
theorem walkZ {l : PySem.W.OpenLaw} {n k : Nat} {q : Program} {loose : List Str} {XP : (Str → Option Value) → Heap → Prop} {YP : World → Heap → Prop} {d : DefRec} {K : Params → PySem.W.Frag} {x : Str} {φ : Phi}
    (hn : l.most = some n) (hn2 : n ≤ sizeLine) (hdf : d.params.defaults = []) (hr : Room k callerA) (hY : ∀ (w : World) (h : Heap), YP w h → (K w.params).In h)
    (F : ∀ (w : World) (mg : Str → Option Value) (fa : Addr) (h : Heap), (K w.params).In h → h.Ns mainGlobals mg → mg d.name = some (.ref fa) →
      ∃ fd : FuncData, (∀ (s : Shared) (u : Value), BindsTo s fd ⟨[u], []⟩ [(x, u)]) ∧ ∀ base : Heap, (K w.params).In base → base.Ns mainGlobals mg → FnZ ⟨l.prog, w, K w.params, mg, base⟩ k fa fd [x] (spZ (K w.params) 1 φ))
    (hφ : ∀ ns : List Int, ns.length ≤ n → ∃ s', φ [.ls (ns.map .int)] [] = .ok (.bl true) s') : PySem.W.WalkO q loose XP YP l.row.toRowW d [] (fun f vs => PySem.call f vs) := by
  refine Att.attach_call hn hdf fun w s₀ s₁ mg mb fa o pm cd doc a vs ns G Y ho hd hcd hmg hobj hints hlen hg => ?_
  have KX := hY w _ Y
  obtain ⟨fd, hb, hF⟩ := F w mg fa _ KX G.T.g hmg
  exact endZ KX G.T.g G.T.b G.T.builtins G.T.nolimit hg hobj hints (Nat.le_trans hlen hn2) hr hF hb (hφ ns hlen)
/-- a def of the module, with all that is asked of it -/
theorem fz_mk {G : Gz} {bs : List Str} {k n : Nat} {x qual : Str} {st : Stmt} {f : Addr} {fd : FuncData} {N ps : List Str} {nm : List (Str × NameKind)} {body : Fn Ct} (F : Fun G.K x qual st f fd) (hm : G.mg x = some (.ref f)) (hb : Binds G.K fd ps []) (hn : ps.length = n) (S : FnScope N ps (defScope st)) (hnm : (defScope st).names = nm)
    (hbl : ∀ y ∈ bs, G.mg y = none) (hbody : ∀ X : Cx, Cz G bs k X N nm (fun _ => true) → ZB X (defBody st) body) : Fz G (k + 1) x n (fDef n N.length body) := by
  subst hn
  refine ⟨fun ds s d s' h => ?_, f, fd, ps, hm, F.kp, hb, rfl, z_fn F S hnm hbl hbody⟩
  exact beq_iff_eq.mp (Rs.iff_ok h).1
end Z

namespace Z
open PySem PySem.Spec PyProof.Rows L2

/-! ### a[lo:hi] -/
def tOfO (K : PySem.W.Frag) (f : Fn (Option Int)) : TO := fun σ H Q => ∃ B env s o s', RpE K B H env σ ∧ Sim K B H s ∧ f env s = .ok o s' ∧
  ∀ (B' : Lo) (H' : Hp), Ext B H B' H' → B'.hid = B.hid → Sim K B' H' s' → Q o H'
abbrev ZO (X : Cx) (o : Option Expr) (f : Fn (Option Int)) : Prop := PO X o (tOfO X.K f)
def fNoPart : Fn (Option Int) := fun _ s => .ok none s
def fPart (f : Fn Dv) : Fn (Option Int) := fun env s => (f env s).bind fun d s1 => match d with | .int i => .ok (some i) s1 | _ => .bad
theorem po_mono {X : Cx} {e : Option Expr} {t t' : TO} (h : PO X e t) (hh : ∀ σ H Q, t' σ H Q → t σ H Q) : PO X e t' := ⟨fun pins s σ H Q I q => h.run pins s σ H Q I (hh _ _ _ q)⟩
section
variable {G : Gz} {bs : List Str} {k : Nat} {X : Cx} {N : List Str} {nm : List (Str × NameKind)} {ow : Str → Bool} {a b e o i v : Expr} {es : List Expr} {fa fb fc fo fi fv : Fn Dv} {fs : Fn (List Dv)} {pos p : Pos} {x : Str}
theorem zo_none : ZO X none fNoPart := po_mono po_none fun σ H Q q => by
  obtain ⟨B, env, s, d, s', hE, hS, hf, hQ⟩ := q
  cases hf
  exact hQ B H (Ext.refl _ _) rfl hS
theorem zo_some (he : ZE X e fa) : ZO X (some e) (fPart fa) := po_mono (po_some he) fun σ H Q q => by
  obtain ⟨B, env, s, d, s', hE, hS, hf, hQ⟩ := q
  obtain ⟨y, s1, h1, hf⟩ := Rs.bind_ok hf
  cases y with
  | int j =>
    cases hf
    refine ⟨B, env, s, _, _, hE, hS, h1, fun B1 H1 v x1 e1 S1 r1 => ?_⟩
    cases r1
    exact ⟨j, rfl, hQ B1 H1 x1 e1 S1⟩
  | _ => cases hf
def cutD (xs : List Dv) (lo hi : Option Int) : List Dv := (xs.drop (HT.sIx xs.length 0 lo)).take (HT.sIx xs.length xs.length hi - HT.sIx xs.length 0 lo)
theorem cut_rp {K : PySem.W.Frag} {B : Lo} {H : Hp} {ds : List Dv} {xs : List V} (r : Rps K B H ds xs) (lo hi : Option Int) : Rps K B H (cutD ds lo hi) (cutV xs lo hi) := by
  unfold cutD cutV
  rw [r.length]
  exact (r.drop _).take _
theorem sIx_le2 (n d : Nat) (hd : d ≤ n) (o : Option Int) : HT.sIx n d o ≤ n := HT.sIx_le n d hd o
theorem cutD_whole (ds : List Dv) (lo hi : Option Int) (h : HT.sIx ds.length 0 lo = 0 ∧ HT.sIx ds.length ds.length hi = ds.length) : cutD ds lo hi = ds := by
  unfold cutD
  rw [h.1, h.2]; simp
/-- a slice of a tuple, a text, a list -/
def gSl (x : Dv) (lo hi : Option Int) (s : Sto) : Rs Dv := match x with
  | .tup ds => .ok (.tup (cutD ds lo hi)) s
  | .str z => Rs.iff (decide (z.length ≤ 16777216)) (.ok (.str (cutS z lo hi)) s)
  | .ls ds => .ok (.ls (cutD ds lo hi)) s
  | .loc n => match s[n]? with | some (.lst ds) => .ok (.ls (cutD ds lo hi)) s | _ => .bad
  | _ => .bad
def rSlZ (K : PySem.W.Frag) : V → Option Int → Option Int → Hp → VK → Prop := fun x lo hi H Q => ∃ a xs, x = .ref a ∧ SqT K H a xs ∧
  (HT.sIx xs.length 0 lo = 0 ∧ HT.sIx xs.length xs.length hi = xs.length → Q (.ref a) H) ∧ (¬ (HT.sIx xs.length 0 lo = 0 ∧ HT.sIx xs.length xs.length hi = xs.length) → ∀ p o, H p = none → o.dict = none → Q (.ref p) (upd H p (.frz o (.tup (cutV xs lo hi)))))
theorem sl_tupZ : SlR X (rSlZ X.K) := by
  intro pins s σ H x v vl vu lo hi sl Q I rx hs pl pu h
  obtain ⟨a, xs, rfl, hx, q1, q2⟩ := h
  cases rx
  obtain ⟨its, r, ht, hz⟩ := I.tuple hx
  have hlen : its.toArray.size = xs.length := by rw [List.size_toArray]; exact r.length.symm
  refine ⟨"tuple", _, PyProof.Rows.slot_tuple_getitem.lookup, ht.typeIs, ?_⟩
  by_cases hw : HT.sIx xs.length 0 lo = 0 ∧ HT.sIx xs.length xs.length hi = xs.length
  · exact getItem_tuple_whole ht hs pl pu (by rw [hlen]; exact hw) ⟨.ref a, H, I, rfl, q1 hw⟩
  · refine HT.getItem_tuple_cut ht hs pl pu (by rw [hlen]; exact hw) ?_ (by rw [hlen]; exact hz)
    rw [hlen]
    exact tupK_new (t' := s.toks) I (Nat.le_trans (cutV_length xs lo hi) hz) ((r.drop (HT.sIx xs.length 0 lo)).take (HT.sIx xs.length xs.length hi - HT.sIx xs.length 0 lo)) (q2 hw)
def fSl (f : Fn Dv) (l h : Fn (Option Int)) : Fn Dv := fun env s => (f env s).bind fun x s1 => (l env s1).bind fun lo s2 => (h env s2).bind fun hi s3 => gSl x lo hi s3
theorem ls_back {K : PySem.W.Frag} {B : Lo} {H : Hp} {s : Sto} {d : List Dv} {Q : VK} (hQ : PostZ K B H s (.ls d) Q) {B' : Lo} {H' : Hp} {p : Addr} {xs : List V} (x : Ext B H ⟨B'.locs, p :: B'.hid⟩ H') (e : B'.hid = B.hid) (S : Sim K ⟨B'.locs, p :: B'.hid⟩ H' s)
    (hh : p ∉ B'.hid) (hl : H' p = some (.lst xs)) (r : Rps K ⟨B'.locs, p :: B'.hid⟩ H' d xs) : Q (.ref p) H' :=
  hQ ⟨B'.locs, B'.hid⟩ H' _ (x.drop fun b hb => by rw [e]; exact hb) e S.back (.ls (.inl ⟨hl, (S.hid p List.mem_cons_self).1, hh⟩) (r.mono Mo.back))
theorem z_slice {lo hi : Option Expr} {p2 : Pos} {fl fh : Fn (Option Int)} (he : ZE X e fa) (hl : ZO X lo fl) (hh : ZO X hi fh) : ZE X (.Subscript e (.Slice lo hi none p2) pos) (fSl fa fl fh) := by
  refine pe_mono (pe_slice (SlR.or sl_tupZ (SlR.or sl_str sl_list)) he hl hh) fun σ H Q q => ?_
  obtain ⟨B, env, s, d, s', hE, hS, hf, hQ⟩ := q
  obtain ⟨x, s1, h1, hf⟩ := Rs.bind_ok hf
  obtain ⟨l, s2, h2, hf⟩ := Rs.bind_ok hf
  obtain ⟨h, s3, h3, hf⟩ := Rs.bind_ok hf
  refine ⟨B, env, s, _, _, hE, hS, h1, fun B1 H1 v x1 e1 S1 r1 => ?_⟩
  refine ⟨B1, env, s1, _, _, hE.mono x1.mo, S1, h2, fun B2 H2 x2 e2 S2 => ?_⟩
  refine ⟨B2, env, s2, _, _, hE.mono (x1.trans x2).mo, S2, h3, fun B3 H3 x3 e3 S3 => ?_⟩
  have xx := x1.trans (x2.trans x3)
  have ee := e3.trans (e2.trans e1)
  have hQ3 : PostZ X.K B3 H3 s' d Q := fun B4 H4 u x4 e4 S4 r4 => hQ B4 H4 u (xx.trans x4) (e4.trans ee) S4 r4
  have r3 := r1.mono (x2.trans x3).mo
  have asList : ∀ {a : Addr} {xs : List V} {ds : List Dv}, v = .ref a → SqL X.K H3 a xs → Rps X.K B3 H3 ds xs → s' = s3 → d = .ls (cutD ds l h) → rSlL X.K v l h H3 Q := fun {a xs ds} ev hq rr es ed => by
    subst ev es ed
    refine ⟨a, xs, rfl, hq, fun p hp => ?_⟩
    exact new_lst S3 (cut_rp rr l h) hp fun B' H' p xs x e S hh _ hl r => ls_back hQ3 x e S hh hl r
  cases x with
  | tup ds =>
    cases hf
    cases r3 with
    | tup h4 h5 =>
      refine .inl ⟨_, _, rfl, h4.sq, fun hw => ?_, fun hw p o hp hd => new_tup S3 (cut_rp h5 l h) hQ3 hp hd⟩
      rw [← h5.length] at hw
      rw [cutD_whole _ _ _ hw] at hQ3
      exact hQ3.same S3 (.tup h4 h5)
  | str z =>
    obtain ⟨hz, hf⟩ := Rs.iff_ok hf
    cases hf
    cases r3
    exact .inr (.inl ⟨z, rfl, len_line (of_decide_eq_true hz), hQ3.same S3 (.str _)⟩)
  | ls ds =>
    cases hf
    cases r3 with
    | ls h4 h5 => exact .inr (.inr (asList rfl h4.sq h5 rfl rfl))
  | loc n =>
    cases r3 with
    | loc h4 =>
      obtain ⟨o, ho, ro⟩ := S3.at h4
      have hf' : (match s3[n]? with | some (.lst ds) => Rs.ok (Dv.ls (cutD ds l h)) s3 | _ => Rs.bad) = Rs.ok d s' := hf
      rw [ho] at hf'
      cases o with
      | lst ds =>
        obtain ⟨xs, h5, h6⟩ := ro
        injection hf' with e1 e2
        exact .inr (.inr (asList rfl (.of h5) h6 e2.symm e1.symm))
      | _ => cases hf'
  | _ => cases hf

/-! ### builtins called -/
def CallZ (K : PySem.W.Frag) (r : List V → Hp → VK → Prop) (g : List Dv → Sto → Rs Dv) : Prop :=
  ∀ (B : Lo) (H : Hp) (s : Sto) (xs : List Dv) (vs : List V) (d : Dv) (s' : Sto) (Q : VK), Sim K B H s → Rps K B H xs vs → g xs s = .ok d s' → PostZ K B H s' d Q → r vs H Q
def CallLZ (K : PySem.W.Frag) (r : List V → Hp → VK → Prop) (g : List Dv → Sto → Rs (List Dv)) : Prop :=
  ∀ (B : Lo) (H : Hp) (s : Sto) (xs : List Dv) (vs : List V) (d : List Dv) (s' : Sto) (Q : VK), Sim K B H s → Rps K B H xs vs → g xs s = .ok d s' →
    (∀ (B' : Lo) (H' : Hp) (p : Addr) (xs : List V), Ext B H ⟨B'.locs, p :: B'.hid⟩ H' → B'.hid = B.hid → Sim K ⟨B'.locs, p :: B'.hid⟩ H' s' → p ∉ B'.hid → H p = none → H' p = some (.lst xs) → Rps K ⟨B'.locs, p :: B'.hid⟩ H' d xs → Q (.ref p) H') → r vs H Q
variable {r : List V → Hp → VK → Prop}
theorem call_to {g : List Dv → Sto → Rs Dv} (hg : CallZ X.K r g) : ∀ σ H Q, tOf X.K (fCall g fs) σ H Q → tCB r (tOfA X.K fs) σ H Q := fun σ H Q q => by
  obtain ⟨B, env, s, d, s', hE, hS, hf, hQ⟩ := q
  obtain ⟨x, s1, h1, hf⟩ := Rs.bind_ok hf
  refine ⟨B, env, s, _, _, hE, hS, h1, fun B1 H1 v x1 e1 S1 r1 => ?_⟩
  exact hg B1 H1 s1 x v d s' Q S1 r1 hf fun B2 H2 u x2 e2 S2 r2 => hQ B2 H2 u (x1.trans x2) (e2.trans e1) S2 r2
def fCallL (g : List Dv → Sto → Rs (List Dv)) (f : Fn (List Dv)) : Fn (List Dv) := fun env s => (f env s).bind g
theorem callL_to {g : List Dv → Sto → Rs (List Dv)} (hg : CallLZ X.K r g) : ∀ σ H Q, tOfL X.K (fCallL g fs) σ H Q → tCB r (tOfA X.K fs) σ H Q := fun σ H Q q => by
  obtain ⟨B, env, s, d, s', hE, hS, hf, hQ⟩ := q
  obtain ⟨x, s1, h1, hf⟩ := Rs.bind_ok hf
  refine ⟨B, env, s, _, _, hE, hS, h1, fun B1 H1 v x1 e1 S1 r1 => ?_⟩
  exact hg B1 H1 s1 x v d s' Q S1 r1 hf fun B2 H2 p xs x2 e2 S2 hh hn hl r2 => hQ B2 H2 p xs (x1.trans x2) (e2.trans e1) S2 hh (new_none x1 x2 S2 hn) hl r2
theorem z_callB {id : String} {g : List Dv → Sto → Rs Dv} (c : Cz G bs k X N nm ow) (hc : CallR X (.builtin id) r) (hg : CallZ X.K r g) (ha : ZA X (e :: es) fs) (hv : bootBuiltins x = some (.builtin id)) (hb : bOk bs nm x = true) (hn : x ≠ "__name__") (hdb : (x == ("__debug__" : Str)) = false)
    (he : starEach (e :: es) X.env = (false, eval e X.env) :: starEach es X.env) (hpl : (backTo pos (starEach es X.env)).any (·.1) = false) : ZE X (.Call (.Name x p) (e :: es) [] pos) (fCall g fs) :=
  pe_mono (pe_callB hc (c.blt hb).1 (c.blt hb).2 hv ha hn hdb he hpl) (call_to hg)
theorem z_callTy {T : String} {g : List Dv → Sto → Rs Dv} (c : Cz G bs k X N nm ow) (hc : CallR X (.type T) r) (hg : CallZ X.K r g) (ha : ZA X (e :: es) fs) (hv : bootBuiltins x = some (.type T)) (hb : bOk bs nm x = true) (hn : x ≠ "__name__") (hdb : (x == ("__debug__" : Str)) = false)
    (he : starEach (e :: es) X.env = (false, eval e X.env) :: starEach es X.env) (hpl : (backTo pos (starEach es X.env)).any (·.1) = false) : ZE X (.Call (.Name x p) (e :: es) [] pos) (fCall g fs) :=
  pe_mono (pe_callTy hc (c.blt hb).1 (c.blt hb).2 hv ha hn hdb he hpl) (call_to hg)
theorem z_callBL {id : String} {g : List Dv → Sto → Rs (List Dv)} (c : Cz G bs k X N nm ow) (hc : CallR X (.builtin id) r) (hg : CallLZ X.K r g) (ha : ZA X (e :: es) fs) (hv : bootBuiltins x = some (.builtin id)) (hb : bOk bs nm x = true) (hn : x ≠ "__name__") (hdb : (x == ("__debug__" : Str)) = false)
    (he : starEach (e :: es) X.env = (false, eval e X.env) :: starEach es X.env) (hpl : (backTo pos (starEach es X.env)).any (·.1) = false) : ZL X (.Call (.Name x p) (e :: es) [] pos) (fCallL g fs) :=
  pe_mono (pe_callB hc (c.blt hb).1 (c.blt hb).2 hv ha hn hdb he hpl) (callL_to hg)
theorem z_callTyL {T : String} {g : List Dv → Sto → Rs (List Dv)} (c : Cz G bs k X N nm ow) (hc : CallR X (.type T) r) (hg : CallLZ X.K r g) (ha : ZA X (e :: es) fs) (hv : bootBuiltins x = some (.type T)) (hb : bOk bs nm x = true) (hn : x ≠ "__name__") (hdb : (x == ("__debug__" : Str)) = false)
    (he : starEach (e :: es) X.env = (false, eval e X.env) :: starEach es X.env) (hpl : (backTo pos (starEach es X.env)).any (·.1) = false) : ZL X (.Call (.Name x p) (e :: es) [] pos) (fCallL g fs) :=
  pe_mono (pe_callTy hc (c.blt hb).1 (c.blt hb).2 hv ha hn hdb he hpl) (callL_to hg)
/-- len -/
def gLen (xs : List Dv) (s : Sto) : Rs Dv := match xs with
  | [.str z] => Rs.iff (decide (z.length ≤ 16777216)) (.ok (.int z.length) s)
  | [x] => match seqOf s x with | some ds => .ok (.int ds.length) s | none => .bad
  | _ => .bad
theorem cz_len {K : PySem.W.Frag} : CallZ K (fun xs H Q => ∃ x n, xs = [x] ∧ LenV K x H n ∧ Q (.int n) H) gLen := by
  intro B H s xs vs d s' Q S r h q
  unfold gLen at h
  split at h
  · obtain ⟨hz, h⟩ := Rs.iff_ok h
    cases h
    cases r with
    | cons r1 rr =>
      cases r1; cases rr
      exact ⟨_, _, rfl, ⟨len_line (of_decide_eq_true hz), rfl⟩, q.same S (.int _)⟩
  · split at h
    · rename_i e1
      cases h
      cases r with
      | cons r1 rr =>
        cases rr
        obtain ⟨a, us, rfl, hq, r2⟩ := seq_of S r1 e1
        refine ⟨_, us.length, rfl, ?_, by rw [← r2.length]; exact q.same S (.int _)⟩
        rcases hq with hq | hq
        · exact .inl ⟨us, hq, rfl⟩
        · exact .inr ⟨us, hq, rfl⟩
    · cases h
  · cases h
theorem z_len (c : Cz G bs k X N nm ow) (ha : ZA X [e] fs) (hb : bOk bs nm "len" = true := by decide +kernel) (he : starEach [e] X.env = (false, eval e X.env) :: starEach [] X.env := by rfl) : ZE X (.Call (.Name "len" p) [e] [] pos) (fCall gLen fs) :=
  z_callB c call_len cz_len ha PySem.boot_len hb (by decide +kernel) (by decide +kernel) he rfl
/-- tuple(..) -/
def gTuple (xs : List Dv) (s : Sto) : Rs Dv := match xs with
  | [.tup ds] => .ok (.tup ds) s
  | [x] => match seqOf s x with | some ds => .ok (.tup ds) s | none => .bad
  | _ => .bad
theorem call_tupleZ : CallR X (.type "tuple") (fun xs H Q => ∃ p ys, xs = [.ref p] ∧ ((SqL X.K H p ys ∧ ∀ l o, H l = none → o.dict = none → Q (.ref l) (upd H l (.frz o (.tup ys)))) ∨ (SqT X.K H p ys ∧ Q (.ref p) H))) := by
  intro pins s σ H xs us Q I r h
  obtain ⟨p, ys, rfl, h⟩ := h
  rw [Vals.ref1 r]
  rcases h with ⟨hq, q⟩ | ⟨hq, q⟩
  · obtain ⟨its, r', pl, hz⟩ := I.list hq
    have hlen := r'.length
    refine call_tuple_list pl.isList (fun h' kp => ?_) (by simp only [List.size_toArray] <;> omega)
    have I1 : Inv X pins σ H { s with heap := h' } := I.kept (t' := s.toks) kp
    exact tupK_new (t' := s.toks) I1 hz r' q
  · obtain ⟨its, r', pl, hz⟩ := I.tuple hq
    exact call_tuple_same pl ⟨.ref p, H, I, rfl, q⟩
theorem cz_tuple {K : PySem.W.Frag} : CallZ K (fun xs H Q => ∃ p ys, xs = [.ref p] ∧ ((SqL K H p ys ∧ ∀ l o, H l = none → o.dict = none → Q (.ref l) (upd H l (.frz o (.tup ys)))) ∨ (SqT K H p ys ∧ Q (.ref p) H))) gTuple := by
  intro B H s xs vs d s' Q S r h q
  unfold gTuple at h
  split at h
  · cases h
    cases r with
    | cons r1 rr =>
      cases rr
      cases r1 with
      | tup h1 h2 => exact ⟨_, _, rfl, .inr ⟨h1.sq, q.same S (.tup h1 h2)⟩⟩
  · rename_i x hx
    split at h
    · rename_i ds e1
      cases h
      cases r with
      | @cons d0 v0 ds0 vs0 r1 rr =>
        cases rr
        have lst : ∃ a us, v0 = V.ref a ∧ SqL K H a us ∧ Rps K B H ds us := by
          cases r1 with
          | tup h1 h2 => exact absurd rfl (hx _)
          | ls h1 h2 => cases e1; exact ⟨_, _, rfl, h1.sq, h2⟩
          | loc h1 =>
            obtain ⟨o, ho, ro⟩ := S.at h1
            simp only [seqOf, ho] at e1
            cases o with
            | lst es =>
              cases e1
              obtain ⟨us, h3, h4⟩ := ro
              exact ⟨_, us, rfl, .of h3, h4⟩
            | _ => cases e1
          | _ => cases e1
        obtain ⟨a, us, ea, hq, r2⟩ := lst
        exact ⟨a, us, by rw [ea], .inl ⟨hq, fun l o hl hd => new_tup S r2 q hl hd⟩⟩
    · cases h
  · cases h
theorem z_tuple (c : Cz G bs k X N nm ow) (ha : ZA X [e] fs) (hb : bOk bs nm "tuple" = true := by decide +kernel) (he : starEach [e] X.env = (false, eval e X.env) :: starEach [] X.env := by rfl) : ZE X (.Call (.Name "tuple" p) [e] [] pos) (fCall gTuple fs) :=
  z_callTy c call_tupleZ cz_tuple ha (by decide +kernel) hb (by decide +kernel) (by decide +kernel) he rfl
/-- list(..) -/
def gList (xs : List Dv) (s : Sto) : Rs (List Dv) := match xs with
  | [x] => match seqOf s x with | some ds => .ok ds s | none => .bad
  | _ => .bad
theorem cz_list {K : PySem.W.Frag} : CallLZ K (fun xs H Q => ∃ p ys, xs = [.ref p] ∧ (SqL K H p ys ∨ SqT K H p ys) ∧ ∀ l, H l = none → Q (.ref l) (upd H l (.lst ys))) gList := by
  intro B H s xs vs d s' Q S r h q
  unfold gList at h
  split at h
  · split at h
    · rename_i e1
      cases h
      cases r with
      | cons r1 rr =>
        cases rr
        obtain ⟨a, us, rfl, hq, r2⟩ := seq_of S r1 e1
        exact ⟨a, us, rfl, hq, fun l hl => new_lst S r2 hl q⟩
    · cases h
  · cases h
theorem z_list (c : Cz G bs k X N nm ow) (ha : ZA X [e] fs) (hb : bOk bs nm "list" = true := by decide +kernel) (he : starEach [e] X.env = (false, eval e X.env) :: starEach [] X.env := by rfl) : ZL X (.Call (.Name "list" p) [e] [] pos) (fCallL gList fs) :=
  z_callTyL c call_list_of cz_list ha (by decide +kernel) hb (by decide +kernel) (by decide +kernel) he rfl
end
end Z

namespace Z
open PySem PySem.Spec PyProof.Rows L2

/-! ### methods of lists and tuples -/
def MtZ (K : PySem.W.Frag) (r : V → List V → Hp → VK → Prop) (g : Dv → List Dv → Sto → Rs Dv) : Prop :=
  ∀ (B : Lo) (H : Hp) (s : Sto) (x : Dv) (xs : List Dv) (v : V) (vs : List V) (d : Dv) (s' : Sto) (Q : VK), Sim K B H s → Rp K B H x v → Rps K B H xs vs → g x xs s = .ok d s' → PostZ K B H s' d Q → r v vs H Q
/-- x is of that kind -/
def isL (x : Dv) (s : Sto) : Bool := match x with
  | .ls _ => true
  | .loc n => match s[n]? with | some (.lst _) => true | _ => false
  | _ => false
def isT (x : Dv) (_ : Sto) : Bool := match x with | .tup _ => true | _ => false
def isD (x : Dv) (s : Sto) : Bool := match x with
  | .loc n => match s[n]? with | some (.dk _) => true | some (.dt _) => true | _ => false
  | _ => false
def isS (x : Dv) (_ : Sto) : Bool := match x with | .str _ => true | _ => false
def fMt (ty : Dv → Sto → Bool) (g : Dv → List Dv → Sto → Rs Dv) (fo : Fn Dv) (fs : Fn (List Dv)) : Fn Dv := fun env s => (fo env s).bind fun x s1 => Rs.iff (ty x s1) ((fs env s1).bind fun xs s2 => g x xs s2)
def TyZ (K : PySem.W.Frag) (ty : Dv → Sto → Bool) (R : V → Hp → Prop) : Prop := ∀ (B : Lo) (H : Hp) (s : Sto) (x : Dv) (v : V), Sim K B H s → Rp K B H x v → ty x s = true → R v H
theorem ty_l {K : PySem.W.Frag} : TyZ K isL (tyV K "list") := by
  intro B H s x v S r h
  cases r with
  | ls h1 h2 => exact .inl ⟨rfl, _, h1.sq⟩
  | loc h1 =>
    obtain ⟨o, ho, ro⟩ := S.at h1
    simp only [isL, ho] at h
    cases o with
    | lst ds => obtain ⟨xs, h3, _⟩ := ro; exact .inl ⟨rfl, xs, .of h3⟩
    | _ => cases h
  | _ => cases h
theorem ty_s {K : PySem.W.Frag} : TyZ K isS (tyV K "str") := by
  intro B H s x v S r h
  cases r with
  | str => exact (rfl : "str" = "str")
  | _ => cases h
/-- a tuple with a plain head -/
def tyT (K : PySem.W.Frag) (v : V) (H : Hp) : Prop := ∃ a xs, v = .ref a ∧ Tk K H a xs
theorem ty_t {K : PySem.W.Frag} : TyZ K isT (tyT K) := by
  intro B H s x v S r h
  cases r with
  | tup h1 h2 => exact ⟨_, _, rfl, h1⟩
  | _ => cases h
def tMt (K : PySem.W.Frag) (R : V → Hp → Prop) (r : V → List V → Hp → VK → Prop) (to : TE) (t : TA) : TE := fun σ H Q => to σ H fun x H1 => R x H1 ∧ t σ H1 fun xs H2 => r x xs H2 Q
section
variable {G : Gz} {bs : List Str} {k : Nat} {X : Cx} {N : List Str} {nm : List (Str × NameKind)} {ow : Str → Bool} {a b e o i v : Expr} {es : List Expr} {fa fb fc fo fi fv : Fn Dv} {fs : Fn (List Dv)} {pos p apos cpos : Pos} {x name : Str} {id : String} {r : V → List V → Hp → VK → Prop} {g : Dv → List Dv → Sto → Rs Dv}
theorem mt_to {ty : Dv → Sto → Bool} {R : V → Hp → Prop} (ht : TyZ X.K ty R) (hg : MtZ X.K r g) : ∀ σ H Q, tOf X.K (fMt ty g fo fs) σ H Q → tMt X.K R r (tOf X.K fo) (tOfA X.K fs) σ H Q := fun σ H Q q => by
  obtain ⟨B, env, s, d, s', hE, hS, hf, hQ⟩ := q
  obtain ⟨x, s1, h1, hf⟩ := Rs.bind_ok hf
  obtain ⟨hc, hf⟩ := Rs.iff_ok hf
  obtain ⟨xs, s2, h2, hf⟩ := Rs.bind_ok hf
  refine ⟨B, env, s, _, _, hE, hS, h1, fun B1 H1 v x1 e1 S1 r1 => ⟨ht B1 H1 s1 x v S1 r1 hc, ?_⟩⟩
  refine ⟨B1, env, s1, _, _, hE.mono x1.mo, S1, h2, fun B2 H2 vs x2 e2 S2 r2 => ?_⟩
  exact hg B2 H2 s2 x xs v vs d s' Q S2 (r1.mono x2.mo) r2 hf fun B3 H3 u x3 e3 S3 r3 => hQ B3 H3 u (x1.trans (x2.trans x3)) (e3.trans (e2.trans e1)) S3 r3
/-- a method of a tuple, asked by places -/
theorem pe_mtT {to : TE} {t : TA} (slot : Slot "tuple" name id) (pa : PlainAttrs "tuple") (hty : typeOf (.builtin id) = pure (.type "method_descriptor")) (hm : MtR X id r) (ho : PE X o to) (ha : PA X (e :: es) t)
    (hbase : attributeBase o name X.env (eval o X.env) = eval o X.env)
    (hfew : ((backTo cpos (starEach (e :: es) X.env)).all (fun x => !x.1) && (backToKw cpos (keywordEach [] X.env)).all (fun x => x.1.isSome)
      && decide ((e :: es).length + ([] : List Keyword).length + (if ([] : List Keyword).isEmpty then 0 else 1) < 30)) = true)
    (hline : (apos.endLine == cpos.line) = true) (hs : starEach (e :: es) X.env = (false, eval e X.env) :: starEach es X.env) (hplain : (backTo cpos (starEach es X.env)).any (·.1) = false) :
    PE X (.Call (.Attribute o name apos) (e :: es) [] cpos) (tMt X.K (tyT X.K) r to t) := by
  refine ⟨fun pins s σ H Q I h => ?_⟩
  refine wpAny_Call_method_late hbase hfew hline rfl (thn (ho.run pins s σ H _ I h) fun v s1 ⟨x, H1, I1, r1, ⟨at1, xs1, ev, tk⟩, q1⟩ => ?_)
  subst ev
  cases r1
  have hob : ∃ ob, s1.heap.get? at1 = some ob ∧ ob.cls = .type "tuple" ∧ ob.dict = none := by
    rcases tk with ⟨ob, h1, h2⟩ | ⟨ob, its, n, h1, h2, h3, _⟩
    · obtain ⟨h4, h5⟩ := I1.hok _ _ h1
      obtain ⟨_, _, _, ob', e1, e2, _⟩ := h5
      rw [h4] at e1; cases e1
      exact ⟨ob, h4, e2, h2⟩
    · exact ⟨ob, I1.kIn _ _ h1, h2, h3⟩
  obtain ⟨ob, g1, g2, g3⟩ := hob
  refine ⟨"tuple", id, pa, slot, hty, ⟨ob, g1, g2⟩, fun a e => ?_, ?_⟩
  · cases e
    exact ⟨ob, g1, g3⟩
  have hA := ha.run cpos pins s1 σ H1 _ I1 q1
  rw [hs] at hA ⊢
  refine Calls.callWith_builtin (by show (false || (backTo cpos (starEach es X.env)).any (·.1)) = false; rw [hplain] <;> rfl) (Calls.evalArgs_plain ?_)
  exact thn hA fun us s2 ⟨vs, H2, I2, r2, q2⟩ => hm pins s2 σ H2 (.ref at1) vs (.ref at1) us Q I2 rfl r2 q2

/-! append, extend, pop -/
def gAppend (x : Dv) (xs : List Dv) (s : Sto) : Rs Dv := match x, xs with
  | .loc n, [d] => match s[n]? with
    | some (.lst ds) => Rs.iff (decide (ds.length < 16777216)) (.ok .non (s.set n (.lst (ds ++ [d]))))
    | _ => .bad
  | _, _ => .bad
theorem loc_lst {K : PySem.W.Frag} {B : Lo} {H : Hp} {s : Sto} (S : Sim K B H s) {n : Nat} {v : V} {ds : List Dv} (r : Rp K B H (.loc n) v) (e : s[n]? = some (.lst ds)) : ∃ a xs, v = .ref a ∧ B.locs[n]? = some a ∧ H a = some (.lst xs) ∧ Rps K B H ds xs := by
  cases r with
  | loc h1 =>
    obtain ⟨o, ho, ro⟩ := S.at h1
    rw [e] at ho; cases ho
    obtain ⟨xs, h3, h4⟩ := ro
    exact ⟨_, xs, rfl, h1, h3, h4⟩
/-- the list at n is changed -/
theorem put_lst {K : PySem.W.Frag} {B : Lo} {H : Hp} {s : Sto} {d : Dv} {v : V} {Q : VK} {n : Nat} {a : Addr} {ds : List Dv} {xs : List V} (S : Sim K B H s) (h : B.locs[n]? = some a) (r : Rps K B H ds xs) (q : PostZ K B H (s.set n (.lst ds)) d Q) (hd : Rp K B H d v) : Q v (upd H a (.lst xs)) := by
  have x := Ext.write (o := .lst xs) S h
  exact q B _ v x rfl (S.write h ⟨xs, upd_same, r.mono x.mo⟩) (hd.mono x.mo)
theorem mz_append {K : PySem.W.Frag} : MtZ K rAppend gAppend := by
  intro B H s x xs v vs d s' Q S r rs h q
  unfold gAppend at h
  split at h
  · split at h
    · rename_i ds e1
      obtain ⟨hz, h⟩ := Rs.iff_ok h
      cases h
      obtain ⟨a, us, rfl, h1, h2, h3⟩ := loc_lst S r e1
      cases rs with
      | cons r1 rr =>
        cases rr
        refine ⟨a, us, _, rfl, rfl, h2, ?_, put_lst S h1 (h3.append (.cons r1 .nil)) q .non⟩
        rw [← h3.length, sizeLine_eq]; exact of_decide_eq_true hz
    · cases h
  · cases h
theorem z_append (ho : ZE X o fo) (ha : ZA X [e] fs) (hbase : attributeBase o "append" X.env (eval o X.env) = eval o X.env := by rfl) (hline : (apos.endLine == cpos.line) = true := by rfl) (hs : starEach [e] X.env = (false, eval e X.env) :: starEach [] X.env := by rfl) :
    ZE X (.Call (.Attribute o "append" apos) [e] [] cpos) (fMt isL gAppend fo fs) :=
  pe_mono (pe_bm PySem.F.plainAttrs_list PySem.F.slot_list_append PySem.F.type_list_append mt_append ho ha hbase (by rw [hs]; rfl) hline hs rfl) (mt_to ty_l mz_append)
def gExtend (x : Dv) (xs : List Dv) (s : Sto) : Rs Dv := match x, xs with
  | .loc n, [.ls es] => match s[n]? with
    | some (.lst ds) => Rs.iff (decide (ds.length + es.length ≤ 16777216)) (.ok .non (s.set n (.lst (ds ++ es))))
    | _ => .bad
  | _, _ => .bad
theorem gExtend_ok {x d : Dv} {es : List Dv} {s s' : Sto} (h : gExtend x [.ls es] s = .ok d s') : ∃ n ds, x = .loc n ∧ s[n]? = some (.lst ds) ∧ ds.length + es.length ≤ 16777216 ∧ d = .non ∧ s' = s.set n (.lst (ds ++ es)) := by
  cases x with
  | loc n =>
    have h' : (match s[n]? with | some (.lst ds) => Rs.iff (decide (ds.length + es.length ≤ 16777216)) (Rs.ok Dv.non (s.set n (.lst (ds ++ es)))) | _ => Rs.bad) = Rs.ok d s' := h
    split at h'
    · rename_i ds e
      obtain ⟨h1, h2⟩ := Rs.iff_ok h'
      cases h2
      exact ⟨n, ds, rfl, e, of_decide_eq_true h1, rfl, rfl⟩
    · cases h'
  | _ => cases h
/-- extend by a list just made -/
def rExtendZ (K : PySem.W.Frag) : V → List V → Hp → VK → Prop := fun x vs H Q => ∃ l b xs zs, x = .ref l ∧ vs = [.ref b] ∧ H l = some (.lst xs) ∧ H b = some (.lst zs) ∧ xs.length + zs.length ≤ sizeLine ∧ Q .non (upd H l (.lst (xs ++ zs)))
def fExtend (fo : Fn Dv) (fl : Fn (List Dv)) : Fn Dv := fun env s => (fo env s).bind fun x s1 => Rs.iff (isL x s1) ((fl env s1).bind fun es s2 => gExtend x [.ls es] s2)
theorem z_extend {fl : Fn (List Dv)} (ho : ZE X o fo) (ha : ZL X e fl) (hbase : attributeBase o "extend" X.env (eval o X.env) = eval o X.env := by rfl) (hline : (apos.endLine == cpos.line) = true := by rfl) (hs : starEach [e] X.env = (false, eval e X.env) :: starEach [] X.env := by rfl) :
    ZE X (.Call (.Attribute o "extend" apos) [e] [] cpos) (fExtend fo fl) := by
  refine pe_mono (pe_bm PySem.F.plainAttrs_list PySem.F.slot_list_extend PySem.F.type_list_extend mt_extend ho (pa_cons ha pa_nil hs) hbase (by rw [hs]; rfl) hline hs rfl) fun σ H Q q => ?_
  obtain ⟨B, env, s, d, s', hE, hS, hf, hQ⟩ := q
  obtain ⟨x, s1, h1, hf⟩ := Rs.bind_ok hf
  obtain ⟨hc, hf⟩ := Rs.iff_ok hf
  obtain ⟨es, s2, h2, hf⟩ := Rs.bind_ok hf
  refine ⟨B, env, s, _, _, hE, hS, h1, fun B1 H1 v x1 e1 S1 r1 => ⟨ty_l B1 H1 s1 x v S1 r1 hc, ?_⟩⟩
  refine ⟨B1, env, s1, _, _, hE.mono x1.mo, S1, h2, fun B2 H2 p zs x2 e2 S2 hh hn hl r2 => ?_⟩
  obtain ⟨n, ds, rfl, e3, hz, rfl, rfl⟩ := gExtend_ok hf
  have S3 := S2.back
  have x3 : Ext B1 H1 ⟨B2.locs, B2.hid⟩ H2 := x2.drop fun b hb => by rw [e2]; exact hb
  obtain ⟨a, us, rfl, h4, h5, h6⟩ := loc_lst S3 (r1.mono x3.mo) e3
  have r3 := r2.mono Mo.back
  refine ⟨a, p, us, zs, rfl, rfl, h5, hl, ?_, ?_⟩
  · rw [← h6.length, ← r3.length]; exact len_line hz
  · exact put_lst S3 h4 (h6.append r3) (fun B4 H4 u x4 e4 S4 r4 => hQ B4 H4 u (x1.trans (x3.trans x4)) (e4.trans (e2.trans e1)) S4 r4) .non
/-- pop(i) -/
def gPopAt (x : Dv) (xs : List Dv) (s : Sto) : Rs Dv := match x, xs with
  | .loc n, [.int i] => match s[n]? with
    | some (.lst ds) => match ixN ds.length i with
      | some j => match ds[j]? with | some d => Rs.iff (inRng i) (.ok d (s.set n (.lst (ds.eraseIdx j)))) | none => .bad
      | none => .bad
    | _ => .bad
  | _, _ => .bad
theorem mz_popAt {K : PySem.W.Frag} : MtZ K rPopAt gPopAt := by
  intro B H s x xs v vs d s' Q S r rs h q
  unfold gPopAt at h
  split at h
  · split at h
    · rename_i ds e1
      split at h
      · rename_i j e2
        split at h
        · rename_i d' e3
          obtain ⟨hz, h⟩ := Rs.iff_ok h
          cases h
          obtain ⟨a, us, rfl, h1, h2, h3⟩ := loc_lst S r e1
          obtain ⟨z1, z2⟩ := inRng_ok hz
          cases rs with
          | cons r1 rr =>
            cases r1; cases rr
            obtain ⟨u, h4, h5⟩ := h3.get e3
            rw [h3.length] at e2
            exact ⟨a, us, _, j, u, rfl, rfl, h2, by omega, by omega, (ixN_seq e2).1, h4, put_lst S h1 (h3.eraseIdx j) q h5⟩
        · cases h
      · cases h
    · cases h
  · cases h
theorem z_popAt (ho : ZE X o fo) (ha : ZA X [e] fs) (hbase : attributeBase o "pop" X.env (eval o X.env) = eval o X.env := by rfl) (hline : (apos.endLine == cpos.line) = true := by rfl) (hs : starEach [e] X.env = (false, eval e X.env) :: starEach [] X.env := by rfl) :
    ZE X (.Call (.Attribute o "pop" apos) [e] [] cpos) (fMt isL gPopAt fo fs) :=
  pe_mono (pe_bm PySem.F.plainAttrs_list PySem.F.slot_list_pop PySem.F.type_list_pop mt_popAt ho ha hbase (by rw [hs]; rfl) hline hs rfl) (mt_to ty_l mz_popAt)
/-- index -/
def idxV (v : V) (vs : List V) : Option Nat := vs.findIdx? fun u => eqV u v
theorem seqL_of {K : PySem.W.Frag} {B : Lo} {H : Hp} {s : Sto} (S : Sim K B H s) {d : Dv} {v : V} {ds : List Dv} (r : Rp K B H d v) (hl : isL d s = true) (h : seqOf s d = some ds) : ∃ a xs, v = .ref a ∧ SqL K H a xs ∧ Rps K B H ds xs := by
  cases r with
  | ls h1 h2 => cases h; exact ⟨_, _, rfl, h1.sq, h2⟩
  | loc h1 =>
    obtain ⟨o, ho, ro⟩ := S.at h1
    simp only [seqOf, ho] at h
    cases o with
    | lst es =>
      cases h
      obtain ⟨xs, e1, e2⟩ := ro
      exact ⟨_, xs, rfl, .of e1, e2⟩
    | _ => cases h
  | _ => cases hl
def gIndexL (x : Dv) (xs : List Dv) (s : Sto) : Rs Dv := match xs with
  | [y] => match fV y, (seqOf s x).bind (·.mapM fV) with
    | some v, some vs => match idxV v vs with | some j => Rs.iff (isL x s) (.ok (.int (j : Nat)) s) | none => .bad
    | _, _ => .bad
  | _ => .bad
def strsOf : List Dv → Option (List Str)
  | [] => some []
  | .str z :: r => (strsOf r).map (z :: ·)
  | _ => none
theorem strs_rp {K : PySem.W.Frag} {B : Lo} {H : Hp} : ∀ {ds : List Dv} {vs : List V} {zs : List Str}, Rps K B H ds vs → strsOf ds = some zs → vs = zs.map V.str
  | _, _, _, .nil, h => by cases h; rfl
  | _, _, _, .cons r rr, h => by
    cases r with
    | str x =>
      obtain ⟨t, h1, rfl⟩ := Option.map_eq_some_iff.mp h
      rw [strs_rp rr h1]; rfl
    | _ => cases h
def gIndexT (x : Dv) (xs : List Dv) (s : Sto) : Rs Dv := match x, xs with
  | .tup ds, [.str z] => match strsOf ds with
    | some zs => match zs.findIdx? (· == z) with | some j => .ok (.int (j : Nat)) s | none => .bad
    | none => .bad
  | _, _ => .bad
theorem mz_indexL {K : PySem.W.Frag} : MtZ K (rIndex K) gIndexL := by
  intro B H s x xs v vs d s' Q S r rs h q
  unfold gIndexL at h
  split at h
  · split at h
    · rename_i u us e1 e2
      split at h
      · rename_i j e3
        obtain ⟨hl, h⟩ := Rs.iff_ok h
        cases h
        obtain ⟨ds, e4, e5⟩ := Option.bind_eq_some_iff.mp e2
        cases rs with
        | cons r1 rr =>
          cases rr
          obtain ⟨rfl, f1⟩ := fV_of r1 e1
          obtain ⟨a, ws, rfl, hq, rr⟩ := seqL_of S r hl e4
          obtain ⟨rfl, f2⟩ := fVs_of rr e5
          obtain ⟨h1, h2, h3⟩ := List.findIdx?_eq_some_iff_getElem.mp e3
          exact ⟨a, ws, _, j, ws[j], rfl, rfl, hq, f1, f2, List.getElem?_eq_getElem h1, h2, fun m z hm hz => by
            obtain ⟨q1, q2⟩ := List.getElem?_eq_some_iff.mp hz
            have := h3 m hm
            rw [← q2]; simpa using this, q.same S (.int _)⟩
      · cases h
    · cases h
  · cases h
theorem mz_indexT {K : PySem.W.Frag} : MtZ K (fun x xs H Q => ∃ p, ∃ ys : List Str, ∃ z j, x = .ref p ∧ xs = [.str z] ∧ SqT K H p (ys.map V.str) ∧ ys[j]? = some z ∧ (∀ m, m < j → ys[m]? ≠ some z) ∧ Q (.int (j : Nat)) H) gIndexT := by
  intro B H s x xs v vs d s' Q S r rs h q
  unfold gIndexT at h
  split at h
  · split at h
    · rename_i zs e1
      split at h
      · rename_i j e2
        cases h
        cases r with
        | tup h1 h2 =>
          cases rs with
          | cons r1 rr =>
            cases r1; cases rr
            have := strs_rp h2 e1
            subst this
            obtain ⟨g1, g2, g3⟩ := List.findIdx?_eq_some_iff_getElem.mp e2
            have g2 := beq_iff_eq.mp g2
            exact ⟨_, zs, _, j, rfl, rfl, h1.sq, by rw [← g2]; exact List.getElem?_eq_getElem g1, fun m hm hz => by
              obtain ⟨q1, q2⟩ := List.getElem?_eq_some_iff.mp hz
              have := g3 m hm
              rw [q2] at this
              simp at this, q.same S (.int _)⟩
      · cases h
    · cases h
  · cases h
/-- index of a list or of a tuple of texts -/
def fIndex (fo : Fn Dv) (fs : Fn (List Dv)) : Fn Dv := fun env s => (fo env s).bind fun x s1 => if isT x s1 = true then (fs env s1).bind fun xs s2 => gIndexT x xs s2 else Rs.iff (isL x s1) ((fs env s1).bind fun xs s2 => gIndexL x xs s2)
theorem z_index (ho : ZE X o fo) (ha : ZA X [e] fs) (hbase : attributeBase o "index" X.env (eval o X.env) = eval o X.env := by rfl) (hline : (apos.endLine == cpos.line) = true := by rfl) (hs : starEach [e] X.env = (false, eval e X.env) :: starEach [] X.env := by rfl) :
    ZE X (.Call (.Attribute o "index" apos) [e] [] cpos) (fIndex fo fs) := by
  have h1 : ZE X (.Call (.Attribute o "index" apos) [e] [] cpos) (fMt isT gIndexT fo fs) := pe_mono (pe_mtT PySem.F.slot_tuple_index PySem.F.plainAttrs_tuple PySem.F.type_tuple_index mt_tup_index ho ha hbase (by rw [hs]; rfl) hline hs rfl) (mt_to ty_t mz_indexT)
  have h2 : ZE X (.Call (.Attribute o "index" apos) [e] [] cpos) (fMt isL gIndexL fo fs) := pe_mono (pe_bm PySem.F.plainAttrs_list PySem.F.slot_list_index PySem.F.type_list_index mt_index ho ha hbase (by rw [hs]; rfl) hline hs rfl) (mt_to ty_l mz_indexL)
  refine pe_mono (pe_alt h1 h2) fun σ H Q q => ?_
  obtain ⟨B, env, s, d, s', hE, hS, hf, hQ⟩ := q
  obtain ⟨x, s1, g1, hf⟩ := Rs.bind_ok hf
  split at hf
  · rename_i hc
    exact .inl ⟨B, env, s, d, s', hE, hS, by unfold fMt; rw [g1]; show Rs.iff (isT x s1) _ = _; rw [hc]; exact hf, hQ⟩
  · exact .inr ⟨B, env, s, d, s', hE, hS, by unfold fMt; rw [g1]; exact hf, hQ⟩
end
end Z

namespace Z
open PySem PySem.Spec PyProof.Rows L2

/-! ### o[i] = v -/
def putD {κ : Type} [DecidableEq κ] (kvs : List (κ × Dv)) (k : κ) (v : Dv) : List (κ × Dv) :=
  if (kvs.any fun kv => decide (kv.1 = k)) = true then kvs.map (fun kv => if kv.1 = k then (kv.1, v) else kv) else kvs ++ [(k, v)]
def keyD : Dv → Option Key
  | .int i => some (.inl i)
  | .str z => some (.inr z)
  | _ => none
def gPut (x y d : Dv) (s : Sto) : Rs Unit := match x with
  | .loc n => match s[n]? with
    | some (.lst ds) => match y with
      | .int i => match ixN ds.length i with | some j => .ok () (s.set n (.lst (ds.set j d))) | none => .bad
      | _ => .bad
    | some (.dk kvs) => match keyD y with | some k => Rs.iff (decide (kvs.length < 16777216)) (.ok () (s.set n (.dk (putD kvs k d)))) | none => .bad
    | _ => .bad
  | _ => .bad
theorem gPut_cases {x y d : Dv} {s s' : Sto} {u : Unit} (h : gPut x y d s = .ok u s') : ∃ n, x = .loc n ∧ ((∃ ds i j, s[n]? = some (.lst ds) ∧ y = .int i ∧ ixN ds.length i = some j ∧ s' = s.set n (.lst (ds.set j d))) ∨
    ∃ kvs k, s[n]? = some (.dk kvs) ∧ keyD y = some k ∧ kvs.length < 16777216 ∧ s' = s.set n (.dk (putD kvs k d))) := by
  cases x with
  | loc n =>
    refine ⟨n, rfl, ?_⟩
    unfold gPut at h
    simp only at h
    split at h
    · rename_i ds e
      split at h
      · split at h
        · rename_i j e2
          cases h
          exact .inl ⟨ds, _, j, e, rfl, e2, rfl⟩
        · cases h
      · cases h
    · rename_i kvs e
      split at h
      · rename_i k e2
        obtain ⟨hz, h⟩ := Rs.iff_ok h
        cases h
        exact .inr ⟨kvs, k, e, e2, of_decide_eq_true hz, rfl⟩
      · cases h
    · cases h
  | _ => cases h
theorem key_rp {K : PySem.W.Frag} {B : Lo} {H : Hp} {y : Dv} {w : V} {k : Key} (r : Rp K B H y w) (h : keyD y = some k) : w = kV k := by
  cases r with
  | int i => cases h; rfl
  | str i => cases h; rfl
  | _ => cases h
theorem any_rp {K : PySem.W.Frag} {B : Lo} {H : Hp} {κ : Type} [DecidableEq κ] {k : κ} : ∀ {kvs : List (κ × Dv)} {ks : List (κ × V)}, Paired (fun (p : κ × Dv) (q : κ × V) => p.1 = q.1 ∧ Rp K B H p.2 q.2) kvs ks →
    (kvs.any fun kv => decide (kv.1 = k)) = ks.any fun kv => decide (kv.1 = k)
  | _, _, .nil => rfl
  | _, _, .cons ⟨e, _⟩ t => by simp only [List.any_cons, e, any_rp t]
theorem map_rp {K : PySem.W.Frag} {B : Lo} {H : Hp} {κ : Type} [DecidableEq κ] {k : κ} {d : Dv} {v : V} (r : Rp K B H d v) : ∀ {kvs : List (κ × Dv)} {ks : List (κ × V)}, Paired (fun (p : κ × Dv) (q : κ × V) => p.1 = q.1 ∧ Rp K B H p.2 q.2) kvs ks →
    Paired (fun (p : κ × Dv) (q : κ × V) => p.1 = q.1 ∧ Rp K B H p.2 q.2) (kvs.map fun kv => if kv.1 = k then (kv.1, d) else kv) (ks.map fun kv => if kv.1 = k then (kv.1, v) else kv)
  | _, _, .nil => .nil
  | (k1, d1) :: _, (k2, v2) :: _, .cons ⟨e, q⟩ t => by
    have e : k1 = k2 := e
    subst e
    refine .cons ?_ (map_rp r t)
    by_cases h : k1 = k
    · dsimp only; rw [if_pos h, if_pos h]; exact ⟨rfl, r⟩
    · dsimp only; rw [if_neg h, if_neg h]; exact ⟨rfl, q⟩
theorem paired_snoc {α β : Type} {F : α → β → Prop} {a : α} {b : β} (r : F a b) : ∀ {l : List α} {m : List β}, Paired F l m → Paired F (l ++ [a]) (m ++ [b])
  | _, _, .nil => .cons r .nil
  | _, _, .cons h t => .cons h (paired_snoc r t)
theorem put_rp {K : PySem.W.Frag} {B : Lo} {H : Hp} {κ : Type} [DecidableEq κ] {k : κ} {d : Dv} {v : V} (r : Rp K B H d v) {kvs : List (κ × Dv)} {ks : List (κ × V)} (p : Paired (fun (p : κ × Dv) (q : κ × V) => p.1 = q.1 ∧ Rp K B H p.2 q.2) kvs ks) :
    Paired (fun (p : κ × Dv) (q : κ × V) => p.1 = q.1 ∧ Rp K B H p.2 q.2) (putD kvs k d) (putK ks k v) := by
  unfold putD putK
  rw [any_rp p]
  split
  · exact map_rp r p
  · exact paired_snoc ⟨rfl, r⟩ p
theorem paired_len {α β : Type} {F : α → β → Prop} : ∀ {l : List α} {m : List β}, Paired F l m → l.length = m.length
  | _, _, .nil => rfl
  | _, _, .cons _ t => congrArg (· + 1) (paired_len t)
section
variable {G : Gz} {bs : List Str} {k : Nat} {X : Cx} {N : List Str} {nm : List (Str × NameKind)} {ow : Str → Bool} {a b e o i v : Expr} {es : List Expr} {fa fb fc fo fi fv : Fn Dv} {fs : Fn (List Dv)} {pos p apos cpos tpos : Pos} {x y z name : Str}
def fPut (fo fi fv : Fn Dv) : Fn Ct := fun env s => (fv env s).bind fun d s1 => (fo env s1).bind fun x s2 => (fi env s2).bind fun y s3 => (gPut x y d s3).bind fun _ s4 => .ok (.next env) s4
/-- a thing of the store at n is changed -/
theorem put_any {K : PySem.W.Frag} {B : Lo} {H : Hp} {s : Sto} {n : Nat} {a : Addr} {u : Ob} {h : HO} {R : Hp → Prop} (S : Sim K B H s) (hl : B.locs[n]? = some a) (r : Ext B H B (upd H a h) → RpO K B (upd H a h) a u)
    (q : ∀ (B' : Lo) (H' : Hp), Ext B H B' H' → B'.hid = B.hid → Sim K B' H' (s.set n u) → R H') : R (upd H a h) := by
  have x := Ext.write (o := h) S hl
  exact q B _ x rfl (S.write hl (r x))
theorem z_put (c : Cz G bs k X N nm ow) (ho : ZE X o fo) (hi : ZE X i fi) (hv : ZE X v fv) (hs : swapsWith v (some (.Subscript o i tpos)) pos.line X.env = pure false := by rfl) (hsole : swapsWithSole [.Subscript o i tpos] v pos.line X.env = pure false := by rfl)
    (hsw : swappedStores [.Subscript o i tpos] v X.env = pure none := by rfl) (ha : ∀ u, assign (.Subscript o i tpos) X.env u = (do
      let ov ← holding [u] (eval o X.env)
      let iv ← holding [u, ov] (eval i X.env)
      standAt tpos
      holding [u, ov, iv] (setItem ov iv u)
      release [u, ov, iv] []) := by intro _; rfl) (h1 : (assignEach [.Subscript o i tpos] X.env).map (·.2) = [assign (.Subscript o i tpos) X.env] := by rfl) :
    ZS X (.Assign [.Subscript o i tpos] v pos) (fPut fo fi fv) := by
  refine ps_mono (ps_alt (ps_asg hv (pg_sub ho hi set_list ha) hsole hsw h1) (ps_dput (hu_of c.rm) ho hi hv hs)) fun D σ H q => ?_
  obtain ⟨B, env, s, ct, s', hE, hS, hf, hQ⟩ := q
  obtain ⟨d, s1, h1, hf⟩ := Rs.bind_ok hf
  obtain ⟨xo, s2, h2, hf⟩ := Rs.bind_ok hf
  obtain ⟨yi, s3, h3, hf⟩ := Rs.bind_ok hf
  obtain ⟨_, s4, h4, hf⟩ := Rs.bind_ok hf
  cases hf
  obtain ⟨n, rfl, hg⟩ := gPut_cases h4
  rcases hg with ⟨ds, ii, j, g1, rfl, g2, rfl⟩ | ⟨kvs, ky, g1, g2, g3, rfl⟩
  · left
    refine ⟨B, env, s, _, _, hE, hS, h1, fun B1 H1 v1 x1 e1 S1 r1 => ?_⟩
    refine ⟨B1, env, s1, _, _, hE.mono x1.mo, S1, h2, fun B2 H2 v2 x2 e2 S2 r2 => ?_⟩
    refine ⟨B2, env, s2, _, _, hE.mono (x1.trans x2).mo, S2, h3, fun B3 H3 v3 x3 e3 S3 r3 => ?_⟩
    obtain ⟨a, us, rfl, h5, h6, h7⟩ := loc_lst S3 (r2.mono x3.mo) g1
    cases r3
    refine ⟨a, us, _, j, rfl, rfl, h6, by rw [← h7.length]; exact g2, ?_⟩
    have xx := x1.trans (x2.trans x3)
    refine put_any (u := .lst (ds.set j d)) (R := fun H' => D.nx σ H') S3 h5 (fun x => ⟨_, upd_same, (h7.set j (r1.mono (x2.trans x3).mo)).mono x.mo⟩) fun B4 H4 x4 e4 S4 => ?_
    exact hQ B4 H4 σ (xx.trans x4) (e4.trans (e3.trans (e2.trans e1))) S4 (hE.mono (xx.trans x4).mo)
  · right
    refine ⟨B, env, s, _, _, hE, hS, h1, fun B1 H1 v1 x1 e1 S1 r1 => ?_⟩
    refine ⟨B1, env, s1, _, _, hE.mono x1.mo, S1, h2, fun B2 H2 v2 x2 e2 S2 r2 => ?_⟩
    refine ⟨B2, env, s2, _, _, hE.mono (x1.trans x2).mo, S2, h3, fun B3 H3 v3 x3 e3 S3 r3 => ?_⟩
    cases r2.mono x3.mo with
    | loc hl =>
      obtain ⟨o, ho, ro⟩ := S3.at hl
      rw [g1] at ho; cases ho
      obtain ⟨ks, h5, h6⟩ := ro
      rw [key_rp r3 g2]
      refine ⟨_, _, rfl, DPut.k h5 (by rw [← paired_len h6, sizeLine_eq]; exact g3), ?_⟩
      have xx := x1.trans (x2.trans x3)
      refine put_any (u := .dk (putD kvs ky d)) (R := fun H' => D.nx σ H') S3 hl (fun x => ⟨_, upd_same, Paired.mapP (put_rp (k := ky) (r1.mono (x2.trans x3).mo) h6) fun p q z => ⟨z.1, z.2.mono x.mo⟩⟩) fun B4 H4 x4 e4 S4 => ?_
      exact hQ B4 H4 σ (xx.trans x4) (e4.trans (e3.trans (e2.trans e1))) S4 (hE.mono (xx.trans x4).mo)

/-! ### o[i] += v -/
theorem pget_list : PGet X (rIxL X.K) := by
  intro pins s σ H o i ov iv Q I rx ry h
  obtain ⟨p, xs, i, z, rfl, rfl, hq, he, q⟩ := h
  cases rx
  obtain ⟨t, rfl⟩ := ry
  obtain ⟨its, r, pl, hz⟩ := I.list hq
  obtain ⟨j, h1, h2, h3, h4, h5⟩ := atI_get he
  obtain ⟨w, ew, rw'⟩ := r.get h2
  have hl := r.length
  have hn := line63
  have fin : EP X pins σ Q w s := ⟨z, H, I, rw', q⟩
  by_cases h0 : 0 ≤ i
  · have hj : i.toNat = j := by
      rw [seqIndex_of h0 h5] at h1
      exact Option.some.inj h1
    exact wpAny_getItem_list pl.isList h0 (by omega) (by rw [hj]; simpa using ew) fin
  · have hj : (i + (its.toArray.size : Int)).toNat = j := by
      rw [seqIndex_neg (by omega) h4] at h1
      rw [List.size_toArray, ← hl]
      exact Option.some.inj h1
    exact wpAny_getItem_list_neg pl.isList (by omega) (by rw [List.size_toArray] <;> omega) (by omega) (by rw [hj]; simpa using ew) fin
def gIxL (x y : Dv) (s : Sto) : Rs Dv := match x, y with
  | .loc n, .int i => match s[n]? with
    | some (.lst ds) => match atI ds i with | some d => .ok d s | none => .bad
    | _ => .bad
  | _, _ => .bad
def gPutL (x y d : Dv) (s : Sto) : Rs Unit := match x, y with
  | .loc n, .int i => match s[n]? with
    | some (.lst ds) => match ixN ds.length i with | some j => .ok () (s.set n (.lst (ds.set j d))) | none => .bad
    | _ => .bad
  | _, _ => .bad
def gIxD (x y : Dv) (s : Sto) : Rs Dv := match x, keyD y with
  | .loc n, some k => match s[n]? with
    | some (.dk kvs) => match lookK kvs k with | some d => .ok d s | none => .bad
    | _ => .bad
  | _, _ => .bad
def gPutK (x y d : Dv) (s : Sto) : Rs Unit := match x, keyD y with
  | .loc n, some k => match s[n]? with
    | some (.dk kvs) => Rs.iff (decide (kvs.length < 16777216)) (.ok () (s.set n (.dk (putD kvs k d))))
    | _ => .bad
  | _, _ => .bad
theorem gIxL_ok {x y d : Dv} {s s' : Sto} (h : gIxL x y s = .ok d s') : ∃ n i ds, x = .loc n ∧ y = .int i ∧ s[n]? = some (.lst ds) ∧ atI ds i = some d ∧ s' = s := by
  unfold gIxL at h
  split at h
  · split at h
    · rename_i e1
      split at h
      · rename_i e2
        cases h
        exact ⟨_, _, _, rfl, rfl, e1, e2, rfl⟩
      · cases h
    · cases h
  · cases h
theorem gPutL_ok {x y d : Dv} {s s' : Sto} {u : Unit} (h : gPutL x y d s = .ok u s') : ∃ n i ds j, x = .loc n ∧ y = .int i ∧ s[n]? = some (.lst ds) ∧ ixN ds.length i = some j ∧ s' = s.set n (.lst (ds.set j d)) := by
  unfold gPutL at h
  split at h
  · split at h
    · rename_i e1
      split at h
      · rename_i e2
        cases h
        exact ⟨_, _, _, _, rfl, rfl, e1, e2, rfl⟩
      · cases h
    · cases h
  · cases h
theorem gIxD_ok {x y d : Dv} {s s' : Sto} (h : gIxD x y s = .ok d s') : ∃ n k kvs, x = .loc n ∧ keyD y = some k ∧ s[n]? = some (.dk kvs) ∧ lookK kvs k = some d ∧ s' = s := by
  unfold gIxD at h
  split at h
  · rename_i e0
    split at h
    · rename_i e1
      split at h
      · rename_i e2
        cases h
        exact ⟨_, _, _, rfl, e0, e1, e2, rfl⟩
      · cases h
    · cases h
  · cases h
theorem gPutK_ok {x y d : Dv} {s s' : Sto} {u : Unit} (h : gPutK x y d s = .ok u s') : ∃ n k kvs, x = .loc n ∧ keyD y = some k ∧ s[n]? = some (.dk kvs) ∧ kvs.length < 16777216 ∧ s' = s.set n (.dk (putD kvs k d)) := by
  unfold gPutK at h
  split at h
  · rename_i e0
    split at h
    · rename_i e1
      obtain ⟨hz, h⟩ := Rs.iff_ok h
      cases h
      exact ⟨_, _, _, rfl, e0, e1, of_decide_eq_true hz, rfl⟩
    · cases h
  · cases h
def augWay (gi : Dv → Dv → Sto → Rs Dv) (gp : Dv → Dv → Dv → Sto → Rs Unit) (g : Int → Int → Int) (fi fv : Fn Dv) (x : Dv) : Fn Ct := fun env s1 => (fi env s1).bind fun y s2 => (gi x y s2).bind fun old s3 => (fv env s3).bind fun d s4 => (gI (fun i j => .int (g i j)) old d s4).bind fun new s5 =>
  (gp x y new s5).bind fun _ s6 => .ok (.next env) s6
/-- xs[i] += n, of a list or a dict of the store -/
def fAug (g : Int → Int → Int) (fo fi fv : Fn Dv) : Fn Ct := fun env s => (fo env s).bind fun x s1 => if isL x s1 = true then augWay gIxL gPutL g fi fv x env s1 else augWay gIxD gPutK g fi fv x env s1
theorem z_aug (c : Cz G bs k X N nm ow) (ho : ZE X o fo) (hi : ZE X i fi) (hv : ZE X v fv)
    (ha : ∀ ov iv new, augStore i ov iv new = (do holding [new, ov, iv] (setItem ov iv new); release [new, ov, iv] []; pure .next) := by intros; rfl) : ZS X (.AugAssign (.Subscript o i tpos) .Add v pos) (fAug (fun i j => i + j) fo fi fv) := by
  refine ps_mono (ps_alt (ps_augS ho hi pget_list hv ip_add set_list ha) (ps_daug (hu_of c.rm) ho hi hv in_add ha)) fun D σ H q => ?_
  obtain ⟨B, env, s, ct, s', hE, hS, hf, hQ⟩ := q
  obtain ⟨xo, s1, h1, hf⟩ := Rs.bind_ok hf
  split at hf
  · left
    obtain ⟨yi, s2, h2, hf⟩ := Rs.bind_ok hf
    obtain ⟨old, s3, h3, hf⟩ := Rs.bind_ok hf
    obtain ⟨d, s4, h4, hf⟩ := Rs.bind_ok hf
    obtain ⟨new, s5, h5, hf⟩ := Rs.bind_ok hf
    obtain ⟨_, s6, h6, hf⟩ := Rs.bind_ok hf
    cases hf
    obtain ⟨n, ii, ds, rfl, rfl, g1, g2, rfl⟩ := gIxL_ok h3
    obtain ⟨i1, i2, rfl, rfl, rfl, rfl⟩ := gI_ok h5
    obtain ⟨n', ii', ds', j, en, ei, g3, g4, rfl⟩ := gPutL_ok h6
    cases en; cases ei
    refine ⟨B, env, s, _, _, hE, hS, h1, fun B1 H1 v1 x1 e1 S1 r1 => ?_⟩
    refine ⟨B1, env, s1, _, _, hE.mono x1.mo, S1, h2, fun B2 H2 v2 x2 e2 S2 r2 => ?_⟩
    obtain ⟨a, us, rfl, h7, h8, h9⟩ := loc_lst S2 (r1.mono x2.mo) g1
    cases r2
    obtain ⟨w, hw, rw⟩ := rps_atI h9 g2
    refine ⟨a, us, _, w, rfl, rfl, .of h8, hw, ?_⟩
    refine ⟨B2, env, _, _, _, hE.mono (x1.trans x2).mo, S2, h4, fun B3 H3 v3 x3 e3 S3 r3 => ?_⟩
    cases rw
    cases r3
    refine ⟨_, _, rfl, rfl, ?_⟩
    obtain ⟨a', us', ea, h10, h11, h12⟩ := loc_lst S3 (.loc (pre_get x3.mo.pre h7)) g3
    cases ea
    refine ⟨a, us', _, j, rfl, rfl, h11, by rw [← h12.length]; exact g4, ?_⟩
    have xx := x1.trans (x2.trans x3)
    refine put_any (u := .lst (ds'.set j (.int (i1 + i2)))) (R := fun H' => D.nx σ H') S3 h10 (fun x => ⟨_, upd_same, (h12.set j (.int _)).mono x.mo⟩) fun B4 H4 x4 e4 S4 => ?_
    exact hQ B4 H4 σ (xx.trans x4) (e4.trans (e3.trans (e2.trans e1))) S4 (hE.mono (xx.trans x4).mo)
  · right
    obtain ⟨yi, s2, h2, hf⟩ := Rs.bind_ok hf
    obtain ⟨old, s3, h3, hf⟩ := Rs.bind_ok hf
    obtain ⟨d, s4, h4, hf⟩ := Rs.bind_ok hf
    obtain ⟨new, s5, h5, hf⟩ := Rs.bind_ok hf
    obtain ⟨_, s6, h6, hf⟩ := Rs.bind_ok hf
    cases hf
    obtain ⟨n, ky, kvs, rfl, ek, g1, g2, rfl⟩ := gIxD_ok h3
    obtain ⟨i1, i2, rfl, rfl, rfl, rfl⟩ := gI_ok h5
    obtain ⟨n', ky', kvs', en, ek', g3, g4, rfl⟩ := gPutK_ok h6
    cases en
    rw [ek] at ek'; cases ek'
    refine ⟨B, env, s, _, _, hE, hS, h1, fun B1 H1 v1 x1 e1 S1 r1 => ?_⟩
    refine ⟨B1, env, s1, _, _, hE.mono x1.mo, S1, h2, fun B2 H2 v2 x2 e2 S2 r2 => ?_⟩
    cases r1.mono x2.mo with
    | loc hl =>
      obtain ⟨o, ho, ro⟩ := S2.at hl
      rw [g1] at ho; cases ho
      obtain ⟨ks, h7, h8⟩ := ro
      rw [key_rp r2 ek]
      obtain ⟨w, hw, rw⟩ := look_rel h8 g2
      refine ⟨_, w, rfl, ?_, B2, env, _, _, _, hE.mono (x1.trans x2).mo, S2, h4, fun B3 H3 v3 x3 e3 S3 r3 => ?_⟩
      · rw [← hw]; exact DGet.k h7
      cases rw
      cases r3
      refine ⟨_, _, rfl, rfl, ?_⟩
      have hl3 := pre_get x3.mo.pre hl
      obtain ⟨o, ho, ro⟩ := S3.at hl3
      rw [g3] at ho; cases ho
      obtain ⟨ks', h9, h10⟩ := ro
      refine ⟨_, DPut.k h9 (by rw [← paired_len h10, sizeLine_eq]; exact g4), ?_⟩
      have xx := x1.trans (x2.trans x3)
      refine put_any (u := .dk (putD kvs' ky (.int (i1 + i2)))) (R := fun H' => D.nx σ H') S3 hl3 (fun x => ⟨_, upd_same, Paired.mapP (put_rp (k := ky) (.int _) h10) fun p q z => ⟨z.1, z.2.mono x.mo⟩⟩) fun B4 H4 x4 e4 S4 => ?_
      exact hQ B4 H4 σ (xx.trans x4) (e4.trans (e3.trans (e2.trans e1))) S4 (hE.mono (xx.trans x4).mo)
end
end Z

namespace Z
open PySem PySem.Spec PyProof.Rows L2

/-! ### how stores go, by the scope's names alone -/
def dE (nm : List (Str × NameKind)) : Env := { scope := scD nm, locals := 0, globals := 0, cells := [], qual := Str.empty, func := none, code := .none, frame := none, builtins := 0 }
section
variable {G : Gz} {bs : List Str} {k : Nat} {X : Cx} {N : List Str} {nm : List (Str × NameKind)} {ow : Str → Bool} {a b e o i v : Expr} {es : List Expr} {fa fb fc fo fi fv : Fn Dv} {fs : Fn (List Dv)} {pos p apos cpos tpos : Pos} {x y z name : Str}
theorem Cz.kO (c : Cz G bs k X N nm ow) : ∀ id, X.env.kindOf id = (dE nm).kindOf id := fun id => by show X.env.scope.names.lookup _ = nm.lookup _; rw [c.nm]
theorem Cz.bK (c : Cz G bs k X N nm ow) : X.env.blockKind = (dE nm).blockKind := by unfold Env.blockKind; rw [c.kd]; rfl
theorem Cz.sw (c : Cz G bs k X N nm ow) {targets : List Expr} {value : Expr} : swappedStores targets value X.env = swappedStores targets value (dE nm) := by
  unfold swappedStores
  simp only [c.kO, c.bK]
theorem Cz.sW (c : Cz G bs k X N nm ow) {t : Option Expr} {value : Expr} {l : Nat} : swapsWith value t l X.env = swapsWith value t l (dE nm) := by
  have h : (X.env.scope.kind == ScopeKind.class) = ((dE nm).scope.kind == ScopeKind.class) := by rw [c.kd]; rfl
  unfold swapsWith
  simp only [c.kO, c.bK, h]
/-- a, b = x, y, stored from the right -/
def fPar2 (i j : Nat) (f : Fn (List Dv)) : Fn Ct := fun env s => (f env s).bind fun ds s1 => match ds with | [d, e] => .ok (.next ((env.set i (some d)).set j (some e))) s1 | _ => .bad
theorem lcl (c : Cz G bs k X N nm ow) (h : (nm.lookup x == some .local) = true) : X.env.scope.names.lookup x = some .local := by rw [c.nm]; exact beq_iff_eq.mp h
theorem z_par2 {i j : Nat} {px py pt pt2 : Pos} {kt k2 : Nat} (c : Cz G bs k X N nm ow) (ha : ZA X [a, b] fs) (hi : decide (N[i]? = some x) = true) (hj : decide (N[j]? = some y) = true) (hij : i ≠ j) (hx : (nm.lookup x == some .local) = true) (hy : (nm.lookup y == some .local) = true)
    (hw : swappedStores [.Tuple [.Name x px, .Name y py] kt pt] (.Tuple [a, b] k2 pt2) (dE nm) = pure (some [x, y])) : ZS X (.Assign [.Tuple [.Name x px, .Name y py] kt pt] (.Tuple [a, b] k2 pt2) pos) (fPar2 i j fs) := by
  have nd : X.N.Nodup := by rw [c.hN]; exact c.nd
  refine ps_mono (ps_par c.calm nd (by rw [c.hN]; exact of_decide_eq_true hi) (by rw [c.hN]; exact of_decide_eq_true hj) hij (lcl c hx) (lcl c hy) ha (c.sw.trans hw)) fun D σ H q => ?_
  obtain ⟨B, env, s, ct, s', hE, hS, hf, hQ⟩ := q
  obtain ⟨ds, s1, h1, hf⟩ := Rs.bind_ok hf
  split at hf
  · cases hf
    refine ⟨B, env, s, _, _, hE, hS, h1, fun B1 H1 vs x1 e1 S1 r1 => ?_⟩
    cases r1 with
    | cons r rr =>
      cases rr with
      | cons r' rr =>
        cases rr
        exact ⟨_, _, rfl, hQ B1 H1 _ x1 e1 S1 (((hE.mono x1.mo).set i r).set j r')⟩
  · cases hf
def fPar3 (i j l : Nat) (f : Fn (List Dv)) : Fn Ct := fun env s => (f env s).bind fun ds s1 => match ds with | [d, e, h] => .ok (.next (((env.set i (some d)).set j (some e)).set l (some h))) s1 | _ => .bad
theorem z_par3 {e3 : Expr} {i j l : Nat} {px py pz pt pt2 : Pos} {kt k2 : Nat} (c : Cz G bs k X N nm ow) (ha : ZA X [a, b, e3] fs) (hi : decide (N[i]? = some x) = true) (hj : decide (N[j]? = some y) = true) (hl : decide (N[l]? = some z) = true) (hij : i ≠ j) (hil : i ≠ l) (hjl : j ≠ l)
    (hx : (nm.lookup x == some .local) = true) (hy : (nm.lookup y == some .local) = true) (hz : (nm.lookup z == some .local) = true)
    (hw : swappedStores [.Tuple [.Name x px, .Name y py, .Name z pz] kt pt] (.Tuple [a, b, e3] k2 pt2) (dE nm) = pure (some [x, y, z])) : ZS X (.Assign [.Tuple [.Name x px, .Name y py, .Name z pz] kt pt] (.Tuple [a, b, e3] k2 pt2) pos) (fPar3 i j l fs) := by
  have nd : X.N.Nodup := by rw [c.hN]; exact c.nd
  refine ps_mono (ps_par3 c.calm nd (by rw [c.hN]; exact of_decide_eq_true hi) (by rw [c.hN]; exact of_decide_eq_true hj) (by rw [c.hN]; exact of_decide_eq_true hl) hij hil hjl (lcl c hx) (lcl c hy) (lcl c hz) ha (c.sw.trans hw)) fun D σ H q => ?_
  obtain ⟨B, env, s, ct, s', hE, hS, hf, hQ⟩ := q
  obtain ⟨ds, s1, h1, hf⟩ := Rs.bind_ok hf
  split at hf
  · cases hf
    refine ⟨B, env, s, _, _, hE, hS, h1, fun B1 H1 vs x1 e1 S1 r1 => ?_⟩
    cases r1 with
    | cons r rr =>
      cases rr with
      | cons r' rr =>
        cases rr with
        | cons r3 rr =>
          cases rr
          exact ⟨_, _, _, rfl, hQ B1 H1 _ x1 e1 S1 ((((hE.mono x1.mo).set i r).set j r').set l r3)⟩
  · cases hf
/-! x = [..], x a local name on the comprehension's line -/
theorem new_to {K : PySem.W.Frag} {f : Fn (List Dv)} {te : TE} (h : ∀ σ H Q, tOfL K f σ H Q → te σ H Q) : ∀ σ H Q, tOf K (fNew f) σ H Q → te σ H Q := fun σ H Q q => by
  obtain ⟨B, env, s, d', s', hE, hS, hf, hQ⟩ := q
  obtain ⟨ds, s1, h1, hf⟩ := Rs.bind_ok hf
  cases hf
  refine h _ _ _ ⟨B, env, s, _, _, hE, hS, h1, fun B1 H1 p xs x1 e1 S1 hh hn hl r1 => ?_⟩
  refine hQ ⟨B1.locs ++ [p], B1.hid⟩ H1 _ (x1.adopt hn fun b hb => by rw [e1]; exact hb) e1 (S1.adopt hh ⟨xs, hl, r1⟩) (.loc ?_)
  rw [← S1.len]
  show (B1.locs ++ [p])[B1.locs.length]? = some p
  rw [List.getElem?_append_right (Nat.le_refl _)]
  simp
theorem val_to {K : PySem.W.Frag} {f : Fn (List Dv)} {te : TE} (h : ∀ σ H Q, tOfL K f σ H Q → te σ H Q) : ∀ σ H Q, tOf K (fVal f) σ H Q → te σ H Q := fun σ H Q q => by
  obtain ⟨B, env, s, d', s', hE, hS, hf, hQ⟩ := q
  obtain ⟨ds, s1, h1, hf⟩ := Rs.bind_ok hf
  cases hf
  refine h _ _ _ ⟨B, env, s, _, _, hE, hS, h1, fun B1 H1 p xs x1 e1 S1 hh hn hl r1 => ?_⟩
  exact hQ ⟨B1.locs, B1.hid⟩ H1 _ (x1.drop fun b hb => by rw [e1]; exact hb) e1 S1.back (.ls (.inl ⟨hl, (S1.hid p List.mem_cons_self).1, hh⟩) (r1.mono Mo.back))
variable {elt tg iter : Expr} {ifs : List Expr} {scope : Scope} {q : Bool} {fsr : Fn Src} {is : List Nat} {g : Dv → Fn En} {tt : Fn Bool} {te : Fn Dv}
theorem z_setLcW {spos py : Pos} {i : Nat} (c : Cz G bs k X N nm ow) (own : List (Str × Nat)) (hi : ZI X q tg iter fsr)
    (hin : ∀ X' : Cx, Cz G bs k X' N (relN nm scope.names) (ownN scope.names) → ZG X' q is tg g ∧ ZTs X' ifs tt ∧ ZE X' elt te) (wrap : Fn (List Dv) → Fn Dv) (hwr : ∀ {te' : TE}, (∀ σ H Q, tOfL X.K (fLc fsr (own.map (·.2)) g tt te) σ H Q → te' σ H Q) → ∀ σ H Q, tOf X.K (wrap (fLc fsr (own.map (·.2)) g tt te)) σ H Q → te' σ H Q)
    (hy : decide (N[i]? = some y) = true) (hyl : (nm.lookup y == some .local) = true) (hsw : swapsWith (.ListComp elt [⟨tg, iter, ifs, 0⟩] scope pos) (some (.Name y py)) spos.line (dE nm) = pure true)
    (ok : blkZ N nm scope own = true) (hk : scope.kind = .function) (his : is.all (fun i => (own.map (·.2)).contains i) = true) (hs : ∀ x, foldedSetIterable iter X.env x = pure x) :
    ZS X (.Assign [.Name y py] (.ListComp elt [⟨tg, iter, ifs, 0⟩] scope pos) spos) (fSet i (wrap (fLc fsr (own.map (·.2)) g tt te))) := by
  have nd : X.N.Nodup := by rw [c.hN]; exact c.nd
  have hcs := fun s H C cl fp => hin _ (c.blk hk s H C cl fp)
  refine ps_mono (ps_setLc (own := own) c.calm nd (by rw [c.hN]; exact of_decide_eq_true hy) (lcl c hyl) (c.sW.trans hsw) hi (c.blkOk ok) (fun s H C cl fp => (hcs s H C cl fp).1) (fun s H C cl fp => (hcs s H C cl fp).2.1) (fun s H C cl fp => (hcs s H C cl fp).2.2) hs) (set_to (hwr (lc_to fun i hi => ?_)))
  exact List.contains_iff_mem.mp (List.all_eq_true.mp his i hi)
theorem z_setLc {spos py : Pos} {i : Nat} (c : Cz G bs k X N nm ow) (own : List (Str × Nat)) (hi : ZI X q tg iter fsr)
    (hin : ∀ X' : Cx, Cz G bs k X' N (relN nm scope.names) (ownN scope.names) → ZG X' q is tg g ∧ ZTs X' ifs tt ∧ ZE X' elt te)
    (hy : decide (N[i]? = some y) = true := by decide +kernel) (hyl : (nm.lookup y == some .local) = true := by decide +kernel) (hsw : swapsWith (.ListComp elt [⟨tg, iter, ifs, 0⟩] scope pos) (some (.Name y py)) spos.line (dE nm) = pure true := by rfl)
    (ok : blkZ N nm scope own = true := by decide +kernel) (hk : scope.kind = .function := by rfl) (his : is.all (fun i => (own.map (·.2)).contains i) = true := by decide +kernel) (hs : ∀ x, foldedSetIterable iter X.env x = pure x := by intro _; rfl) :
    ZS X (.Assign [.Name y py] (.ListComp elt [⟨tg, iter, ifs, 0⟩] scope pos) spos) (fSet i (fVal (fLc fsr (own.map (·.2)) g tt te))) := z_setLcW c own hi hin fVal (fun h => val_to h) hy hyl hsw ok hk his hs
theorem z_setLcN {spos py : Pos} {i : Nat} (c : Cz G bs k X N nm ow) (own : List (Str × Nat)) (hi : ZI X q tg iter fsr)
    (hin : ∀ X' : Cx, Cz G bs k X' N (relN nm scope.names) (ownN scope.names) → ZG X' q is tg g ∧ ZTs X' ifs tt ∧ ZE X' elt te)
    (hy : decide (N[i]? = some y) = true := by decide +kernel) (hyl : (nm.lookup y == some .local) = true := by decide +kernel) (hsw : swapsWith (.ListComp elt [⟨tg, iter, ifs, 0⟩] scope pos) (some (.Name y py)) spos.line (dE nm) = pure true := by rfl)
    (ok : blkZ N nm scope own = true := by decide +kernel) (hk : scope.kind = .function := by rfl) (his : is.all (fun i => (own.map (·.2)).contains i) = true := by decide +kernel) (hs : ∀ x, foldedSetIterable iter X.env x = pure x := by intro _; rfl) :
    ZS X (.Assign [.Name y py] (.ListComp elt [⟨tg, iter, ifs, 0⟩] scope pos) spos) (fSet i (fNew (fLc fsr (own.map (·.2)) g tt te))) := z_setLcW c own hi hin fNew (fun h => new_to h) hy hyl hsw ok hk his hs
end
end Z

namespace Z
open PySem PySem.Spec PyProof.Rows L2

/-! ### {k: v, ..} -/
def fPairs : List (Fn Dv × Fn Dv) → Fn (List (Dv × Dv))
  | [], _, s => .ok [] s
  | (fk, fv) :: r, env, s => (fk env s).bind fun k s1 => (fv env s1).bind fun v s2 => (fPairs r env s2).bind fun ps s3 => .ok ((k, v) :: ps) s3
def keysD : List (Dv × Dv) → Option (List (Key × Dv))
  | [] => some []
  | (k, v) :: r => match keyD k, keysD r with | some k', some r' => some ((k', v) :: r') | _, _ => none
def mergeD (kvs more : List (Key × Dv)) : List (Key × Dv) := more.foldl (fun acc kv => putD acc kv.1 kv.2) kvs
def fDict (fs : List (Fn Dv × Fn Dv)) : Fn Dv := fun env s => (fPairs fs env s).bind fun ps s1 => match keysD ps with
  | some kvs => Rs.iff (decide (kvs.length ≤ 15)) (.ok (.loc s1.length) (s1 ++ [.dk (mergeD [] kvs)]))
  | none => .bad
section
variable {G : Gz} {bs : List Str} {k : Nat} {X : Cx} {N : List Str} {nm : List (Str × NameKind)} {ow : Str → Bool} {a b e o i v : Expr} {es : List Expr} {fa fb fc fo fi fv : Fn Dv} {fs : Fn (List Dv)} {pos p apos cpos tpos : Pos} {x y z name : Str}
abbrev ZPs (X : Cx) (pos : Pos) (ks : List (Option Expr)) (vs : List Expr) (fs : List (Fn Dv × Fn Dv)) : Prop := PPs X pos ks vs (fs.map fun p => (tOf X.K p.1, tOf X.K p.2))
theorem zps_nil : ZPs X pos [] [] [] := pps_nil
theorem zps_cons {kk : Expr} {ks : List (Option Expr)} {vs : List Expr} {fr : List (Fn Dv × Fn Dv)} (hk : ZE X kk fa) (hv : ZE X v fv) (hr : ZPs X pos ks vs fr) : ZPs X pos (some kk :: ks) (v :: vs) ((fa, fv) :: fr) := pps_cons hk hv hr
abbrev RpPs (K : PySem.W.Frag) (B : Lo) (H : Hp) : List (Dv × Dv) → List (V × V) → Prop := Paired fun p q => Rp K B H p.1 q.1 ∧ Rp K B H p.2 q.2
theorem pairs_to {K : PySem.W.Frag} : ∀ {fs : List (Fn Dv × Fn Dv)} {σ : L2.St} {H : Hp} {B : Lo} {env : En} {s s' : Sto} {ps : List (Dv × Dv)} {Q : List (V × V) → Hp → Prop}, RpE K B H env σ → Sim K B H s → fPairs fs env s = .ok ps s' →
    (∀ (B' : Lo) (H' : Hp) (qs : List (V × V)), Ext B H B' H' → B'.hid = B.hid → Sim K B' H' s' → RpPs K B' H' ps qs → Q qs H') → tPairs (fs.map fun p => (tOf K p.1, tOf K p.2)) σ H Q
  | [], _, _, _, _, _, _, _, _, hE, hS, hf, hQ => by
    cases hf
    exact hQ _ _ [] (Ext.refl _ _) rfl hS .nil
  | (fk, fv) :: r, _, _, B, env, s, s', ps, Q, hE, hS, hf, hQ => by
    obtain ⟨kd, s1, h1, hf⟩ := Rs.bind_ok hf
    obtain ⟨vd, s2, h2, hf⟩ := Rs.bind_ok hf
    obtain ⟨rd, s3, h3, hf⟩ := Rs.bind_ok hf
    cases hf
    refine ⟨B, env, s, _, _, hE, hS, h1, fun B1 H1 v1 x1 e1 S1 r1 => ?_⟩
    refine ⟨B1, env, s1, _, _, hE.mono x1.mo, S1, h2, fun B2 H2 v2 x2 e2 S2 r2 => ?_⟩
    refine pairs_to (hE.mono (x1.trans x2).mo) S2 h3 fun B3 H3 qs x3 e3 S3 r3 => ?_
    exact hQ B3 H3 _ (x1.trans (x2.trans x3)) (e3.trans (e2.trans e1)) S3 (.cons ⟨r1.mono (x2.trans x3).mo, r2.mono x3.mo⟩ r3)
theorem keys_rp {K : PySem.W.Frag} {B : Lo} {H : Hp} : ∀ {ps : List (Dv × Dv)} {qs : List (V × V)} {kvs : List (Key × Dv)}, RpPs K B H ps qs → keysD ps = some kvs →
    ∃ ks : List (Key × V), qs = ks.map (fun kv => (kV kv.1, kv.2)) ∧ Paired (fun (p : Key × Dv) (q : Key × V) => p.1 = q.1 ∧ Rp K B H p.2 q.2) kvs ks
  | _, _, _, .nil, h => by cases h; exact ⟨[], rfl, .nil⟩
  | (d1, d2) :: _, (v1, v2) :: _, _, .cons ⟨r1, r2⟩ t, h => by
    unfold keysD at h
    split at h
    · rename_i k' r' e1 e2
      cases h
      obtain ⟨ks, rfl, h3⟩ := keys_rp t e2
      have hk : v1 = kV k' := key_rp (show Rp K B H d1 v1 from r1) e1
      subst hk
      exact ⟨(k', v2) :: ks, rfl, .cons ⟨rfl, r2⟩ h3⟩
    · cases h
theorem merge_rp {K : PySem.W.Frag} {B : Lo} {H : Hp} : ∀ {more : List (Key × Dv)} {ms : List (Key × V)} {kvs : List (Key × Dv)} {ks : List (Key × V)}, Paired (fun (p : Key × Dv) (q : Key × V) => p.1 = q.1 ∧ Rp K B H p.2 q.2) more ms →
    Paired (fun (p : Key × Dv) (q : Key × V) => p.1 = q.1 ∧ Rp K B H p.2 q.2) kvs ks → Paired (fun (p : Key × Dv) (q : Key × V) => p.1 = q.1 ∧ Rp K B H p.2 q.2) (mergeD kvs more) (mergeK ks ms)
  | _, _, _, _, .nil, h => h
  | (k1, d1) :: m, (k2, v2) :: m', kvs, ks, .cons ⟨e, r⟩ t, h => by
    have e : k1 = k2 := e
    subst e
    exact merge_rp (kvs := putD kvs k1 d1) (ks := putK ks k1 v2) t (put_rp r h)
theorem z_dict {keys : List (Option Expr)} {values : List Expr} {fr : List (Fn Dv × Fn Dv)} (h : ZPs X pos keys values fr) (hall : keys.all (·.isSome) = true := by rfl) (hl : keys.length = values.length := by rfl) (h0 : keys ≠ [] := by exact List.cons_ne_nil _ _) (h15 : keys.length ≤ 15 := by decide) :
    ZE X (.Dict keys values pos) (fDict fr) := by
  refine pe_mono (pe_disp h hall hl h0 h15) fun σ H Q q => ?_
  obtain ⟨B, env, s, d, s', hE, hS, hf, hQ⟩ := q
  obtain ⟨ps, s1, h1, hf⟩ := Rs.bind_ok hf
  split at hf
  · rename_i kvs e1
    obtain ⟨hz, hf⟩ := Rs.iff_ok hf
    cases hf
    intro p hp
    have a1 := Ext.aside (B := B) (o := .dK []) hp
    refine pairs_to (B := ⟨B.locs, p :: B.hid⟩) (hE.mono a1.mo) (hS.aside hp) h1 fun B1 H1 qs x1 ee S1 r1 => ?_
    obtain ⟨L1, h1⟩ := B1
    simp only at ee
    subst ee
    have hd : H1 p = some (.dK []) := x1.keepH p _ upd_same List.mem_cons_self
    refine ⟨hd, ?_⟩
    obtain ⟨ks, rfl, hks⟩ := keys_rp r1 e1
    refine ⟨ks, rfl, by rw [← paired_len hks]; exact of_decide_eq_true hz, ?_⟩
    have hm : p ∈ (⟨L1, p :: B.hid⟩ : Lo).hid := List.mem_cons_self
    have S2 := S1.rehid (o := .dK (mergeK [] ks)) hm
    have m2 := Mo.rehid (o := .dK (mergeK [] ks)) S1 hm
    have x2 := (a1.trans x1).rewrite (o := .dK (mergeK [] ks)) hp
    have hh : p ∉ B.hid := hS.freeH hp
    refine hQ ⟨L1 ++ [p], B.hid⟩ _ _ (x2.adopt hp fun _ h => h) rfl (Sim.adopt (B := ⟨L1, B.hid⟩) (o := .dk (mergeD [] kvs)) S2 hh ⟨_, upd_same, Paired.mapP (merge_rp hks .nil) fun p q z => ⟨z.1, z.2.mono m2⟩⟩) (.loc ?_)
    rw [← S2.len]
    show (L1 ++ [p])[L1.length]? = some p
    rw [List.getElem?_append_right (Nat.le_refl _)]
    simp
  · cases hf
def fDict0 : Fn Dv := fun _ s => .ok (.loc s.length) (s ++ [.dk []])
theorem z_dict0 : ZE X (.Dict [] [] pos) fDict0 := by
  refine pe_mono pe_dnewK fun σ H Q q => ?_
  obtain ⟨B, env, s, d, s', hE, hS, hf, hQ⟩ := q
  cases hf
  intro p hp
  have a1 := Ext.aside (B := B) (o := .dK []) hp
  have S2 := hS.aside (o := .dK []) hp
  refine hQ ⟨B.locs ++ [p], B.hid⟩ _ _ (a1.adopt hp fun _ h => h) rfl (S2.adopt (o := .dk []) (hS.freeH hp) ⟨_, upd_same, .nil⟩) (.loc ?_)
  rw [← hS.len]
  show (B.locs ++ [p])[B.locs.length]? = some p
  rw [List.getElem?_append_right (Nat.le_refl _)]
  simp

/-! ### sums, all, any, the greater -/
def intsOf : List Dv → Option (List Int)
  | [] => some []
  | .int z :: r => (intsOf r).map (z :: ·)
  | _ => none
def blsOf : List Dv → Option (List Bool)
  | [] => some []
  | .bl z :: r => (blsOf r).map (z :: ·)
  | _ => none
theorem ints_rp {K : PySem.W.Frag} {B : Lo} {H : Hp} : ∀ {ds : List Dv} {vs : List V} {zs : List Int}, Rps K B H ds vs → intsOf ds = some zs → vs = zs.map V.int
  | _, _, _, .nil, h => by cases h; rfl
  | _, _, _, .cons r rr, h => by
    cases r with
    | int x =>
      obtain ⟨t, h1, rfl⟩ := Option.map_eq_some_iff.mp h
      rw [ints_rp rr h1]; rfl
    | _ => cases h
theorem bls_rp {K : PySem.W.Frag} {B : Lo} {H : Hp} : ∀ {ds : List Dv} {vs : List V} {zs : List Bool}, Rps K B H ds vs → blsOf ds = some zs → vs = zs.map V.bl
  | _, _, _, .nil, h => by cases h; rfl
  | _, _, _, .cons r rr, h => by
    cases r with
    | bl x =>
      obtain ⟨t, h1, rfl⟩ := Option.map_eq_some_iff.mp h
      rw [bls_rp rr h1]; rfl
    | _ => cases h
/-- of a list alone -/
def gOnL {α : Type} (f : List Dv → Option α) (g : α → Dv) (xs : List Dv) (s : Sto) : Rs Dv := match xs with
  | [x] => match (seqOf s x).bind f with | some a => Rs.iff (isL x s) (.ok (g a) s) | none => .bad
  | _ => .bad
theorem gOnL_ok {α : Type} {f : List Dv → Option α} {g : α → Dv} {xs : List Dv} {s s' : Sto} {d : Dv} (h : gOnL f g xs s = .ok d s') : ∃ x ds a, xs = [x] ∧ isL x s = true ∧ seqOf s x = some ds ∧ f ds = some a ∧ d = g a ∧ s' = s := by
  unfold gOnL at h
  split at h
  · split at h
    · rename_i e1
      obtain ⟨h1, h2⟩ := Rs.iff_ok h
      obtain ⟨ds, e2, e3⟩ := Option.bind_eq_some_iff.mp e1
      cases h2
      exact ⟨_, ds, _, rfl, h1, e2, e3, rfl, rfl⟩
    · cases h
  · cases h
def gSumL := gOnL intsOf fun ns => Dv.int ns.sum
def gAll := gOnL blsOf fun b => Dv.bl (b.all id)
def gAny := gOnL blsOf fun b => Dv.bl (b.any id)
theorem cz_sumL {K : PySem.W.Frag} : CallZ K (rSum K) gSumL := by
  intro B H s xs vs d s' Q S r h q
  obtain ⟨x, ds, ns, rfl, h1, h2, h3, rfl, rfl⟩ := gOnL_ok h
  cases r with
  | cons r1 rr =>
    cases rr
    obtain ⟨a, us, rfl, hq, r2⟩ := seqL_of S r1 h1 h2
    have := ints_rp r2 h3
    subst this
    exact ⟨a, ns, rfl, hq, q.same S (.int _)⟩
theorem cz_all {K : PySem.W.Frag} : CallZ K (rAll K) gAll := by
  intro B H s xs vs d s' Q S r h q
  obtain ⟨x, ds, ns, rfl, h1, h2, h3, rfl, rfl⟩ := gOnL_ok h
  cases r with
  | cons r1 rr =>
    cases rr
    obtain ⟨a, us, rfl, hq, r2⟩ := seqL_of S r1 h1 h2
    have := bls_rp r2 h3
    subst this
    exact ⟨a, ns, rfl, hq, q.same S (.bl _)⟩
theorem cz_any {K : PySem.W.Frag} : CallZ K (rAny K) gAny := by
  intro B H s xs vs d s' Q S r h q
  obtain ⟨x, ds, ns, rfl, h1, h2, h3, rfl, rfl⟩ := gOnL_ok h
  cases r with
  | cons r1 rr =>
    cases rr
    obtain ⟨a, us, rfl, hq, r2⟩ := seqL_of S r1 h1 h2
    have := bls_rp r2 h3
    subst this
    exact ⟨a, ns, rfl, hq, q.same S (.bl _)⟩
theorem z_all (c : Cz G bs k X N nm ow) (ha : ZA X [e] fs) (hb : bOk bs nm "all" = true := by decide +kernel) (he : starEach [e] X.env = (false, eval e X.env) :: starEach [] X.env := by rfl) : ZE X (.Call (.Name "all" p) [e] [] pos) (fCall gAll fs) :=
  z_callB c (cr_all c.calm) cz_all ha (by decide +kernel) hb (by decide +kernel) (by decide +kernel) he rfl
theorem z_any (c : Cz G bs k X N nm ow) (ha : ZA X [e] fs) (hb : bOk bs nm "any" = true := by decide +kernel) (he : starEach [e] X.env = (false, eval e X.env) :: starEach [] X.env := by rfl) : ZE X (.Call (.Name "any" p) [e] [] pos) (fCall gAny fs) :=
  z_callB c (cr_any c.calm) cz_any ha (by decide +kernel) hb (by decide +kernel) (by decide +kernel) he rfl
theorem z_sumL (c : Cz G bs k X N nm ow) (ha : ZA X [e] fs) (hb : bOk bs nm "sum" = true := by decide +kernel) (he : starEach [e] X.env = (false, eval e X.env) :: starEach [] X.env := by rfl) : ZE X (.Call (.Name "sum" p) [e] [] pos) (fCall gSumL fs) :=
  z_callB c (cr_sum c.calm) cz_sumL ha (by decide +kernel) hb (by decide +kernel) (by decide +kernel) he rfl
def gTwo (g : Int → Int → Int) (xs : List Dv) (s : Sto) : Rs Dv := match xs with | [.int i, .int j] => .ok (.int (g i j)) s | _ => .bad
theorem cz_two {K : PySem.W.Frag} {g : Int → Int → Int} : CallZ K (fun xs H Q => ∃ i j, xs = [.int i, .int j] ∧ Q (.int (g i j)) H) (gTwo g) := by
  intro B H s xs vs d s' Q S r h q
  unfold gTwo at h
  split at h
  · cases h
    cases r with
    | cons r1 rr =>
      cases r1
      cases rr with
      | cons r2 rr =>
        cases r2; cases rr
        exact ⟨_, _, rfl, q.same S (.int _)⟩
  · cases h
theorem z_max2 (c : Cz G bs k X N nm ow) (ha : ZA X [a, b] fs) (hb : bOk bs nm "max" = true := by decide +kernel) (he : starEach [a, b] X.env = (false, eval a X.env) :: starEach [b] X.env := by rfl) (hpl : (backTo pos (starEach [b] X.env)).any (·.1) = false := by rfl) :
    ZE X (.Call (.Name "max" p) [a, b] [] pos) (fCall (gTwo fun i j => if j > i then j else i) fs) := z_callB c (call_max2 c.calm) cz_two ha (by decide +kernel) hb (by decide +kernel) (by decide +kernel) he hpl
theorem z_min2 (c : Cz G bs k X N nm ow) (ha : ZA X [a, b] fs) (hb : bOk bs nm "min" = true := by decide +kernel) (he : starEach [a, b] X.env = (false, eval a X.env) :: starEach [b] X.env := by rfl) (hpl : (backTo pos (starEach [b] X.env)).any (·.1) = false := by rfl) :
    ZE X (.Call (.Name "min" p) [a, b] [] pos) (fCall (gTwo fun i j => if j < i then j else i) fs) := z_callB c (call_min2 c.calm) cz_two ha (by decide +kernel) hb (by decide +kernel) (by decide +kernel) he hpl

/-! ### repr -/
def gRepr (xs : List Dv) (s : Sto) : Rs Dv := match xs with
  | [x] => match pyOf s x with
    | some p => Rs.iff (p.showable && decide (p.shown.length ≤ 16777216)) (.ok (.str p.shown) s)
    | none => .bad
  | _ => .bad
mutual
theorem py_noDict {s : Sto} : ∀ (k : Nat) (d : Dv) (p : PyData), py s k d = some p → p.hasDict = false ∧ p.depth ≤ k
  | 0, _, _, h => by cases h
  | k + 1, d, p, h => by
    have seq : ∀ {ds : List Dv} {ps : List PyData}, ds.mapM (py s k) = some ps → PyData.hasDictAll ps = false ∧ PyData.depthAll ps ≤ k := fun {ds ps} e => pys_noDict k ds ps e
    cases d with
    | non => cases h; exact ⟨rfl, Nat.zero_le _⟩
    | bl b => cases h; exact ⟨rfl, Nat.zero_le _⟩
    | int b => cases h; exact ⟨rfl, Nat.zero_le _⟩
    | str b => cases h; exact ⟨rfl, Nat.zero_le _⟩
    | tup ds =>
      obtain ⟨ps, h3, rfl⟩ := Option.map_eq_some_iff.mp h
      obtain ⟨a1, a2⟩ := seq h3
      exact ⟨by simpa [PyData.hasDict] using a1, by simp only [PyData.depth]; omega⟩
    | ls ds =>
      obtain ⟨ps, h3, rfl⟩ := Option.map_eq_some_iff.mp h
      obtain ⟨a1, a2⟩ := seq h3
      exact ⟨by simpa [PyData.hasDict] using a1, by simp only [PyData.depth]; omega⟩
    | loc n =>
      have h' : (match s[n]? with | some (.lst ds) => (ds.mapM (py s k)).map .list | _ => none) = some p := h
      split at h'
      · obtain ⟨ps, h3, rfl⟩ := Option.map_eq_some_iff.mp h'
        obtain ⟨a1, a2⟩ := seq h3
        exact ⟨by simpa [PyData.hasDict] using a1, by simp only [PyData.depth]; omega⟩
      · cases h'
theorem pys_noDict {s : Sto} (k : Nat) : ∀ (ds : List Dv) (ps : List PyData), ds.mapM (py s k) = some ps → PyData.hasDictAll ps = false ∧ PyData.depthAll ps ≤ k
  | [], ps, h => by simp at h; subst h; exact ⟨rfl, Nat.zero_le _⟩
  | d :: ds, ps, h => by
    obtain ⟨y, r, h1, h2, rfl⟩ := mapM_cons_some h
    obtain ⟨a1, a2⟩ := py_noDict k d y h1
    obtain ⟨b1, b2⟩ := pys_noDict k ds r h2
    exact ⟨by simp [PyData.hasDictAll, a1, b1], by simp only [PyData.depthAll]; omega⟩
end
def rRepr (K : PySem.W.Frag) : List V → Hp → VK → Prop := fun xs H Q => ∃ x p, xs = [x] ∧ Dp K H x p ∧ p.showable = true ∧ p.hasDict = false ∧ p.depth ≤ 40 ∧ p.shown.length ≤ sizeLine ∧ Q (.str p.shown) H
theorem call_repr (c : Cz G bs k X N nm ow) : CallR X (.builtin "repr") (rRepr X.K) := by
  intro pins s σ H xs us Q I r h
  obtain ⟨x, p, rfl, hd, hs, hn, hdp, hz, q⟩ := h
  obtain ⟨u, rfl, rx⟩ := Vals.one r
  cases hd with
  | non => cases rx; exact PySem.P.repr_of_none ⟨.str _, H, I.tok _, ⟨_, rfl⟩, q⟩
  | bl b => cases rx; exact PySem.P.repr_of_bool ⟨.str _, H, I.tok _, ⟨_, rfl⟩, q⟩
  | int i =>
    obtain ⟨t, rfl⟩ := rx
    exact PySem.P.repr_of_int (by simpa [PyData.showable] using hs) ⟨.str _, H, I.tok _, ⟨_, rfl⟩, q⟩
  | str z =>
    obtain ⟨t, rfl⟩ := rx
    exact PySem.P.repr_of_str ⟨.str _, H, I.tok _, ⟨_, rfl⟩, q⟩ hz
  | lst h1 h2 =>
    cases rx
    obtain ⟨as, hr⟩ := Dp.reads I _ _ _ (.lst h1 h2) rfl
    exact repr_of_reads' hr hs (PyData.noDict_hsm hn) c.gd (by have := c.un; omega) (fun _ _ e => e) (fun h' u tk kk => ⟨.str _, H, I.kept (t' := tk) kk, ⟨_, rfl⟩, q⟩) hz
  | tup h1 h2 =>
    cases rx
    obtain ⟨as, hr⟩ := Dp.reads I _ _ _ (.tup h1 h2) rfl
    exact repr_of_reads' hr hs (PyData.noDict_hsm hn) c.gd (by have := c.un; omega) (fun _ _ e => e) (fun h' u tk kk => ⟨.str _, H, I.kept (t' := tk) kk, ⟨_, rfl⟩, q⟩) hz
theorem cz_repr {K : PySem.W.Frag} : CallZ K (rRepr K) gRepr := by
  intro B H s xs vs d s' Q S r h q
  unfold gRepr at h
  split at h
  · split at h
    · rename_i p e1
      obtain ⟨h1, h2⟩ := Rs.iff_ok h
      rw [Bool.and_eq_true] at h1
      cases h2
      cases r with
      | cons r1 rr =>
        cases rr
        obtain ⟨n1, n2⟩ := py_noDict _ _ _ e1
        exact ⟨_, p, rfl, dp_of S _ _ _ _ r1 e1, h1.1, n1, n2, len_line (of_decide_eq_true h1.2), q.same S (.str _)⟩
    · cases h
  · cases h
theorem z_repr (c : Cz G bs k X N nm ow) (ha : ZA X [e] fs) (hb : bOk bs nm "repr" = true := by decide +kernel) (he : starEach [e] X.env = (false, eval e X.env) :: starEach [] X.env := by rfl) : ZE X (.Call (.Name "repr" p) [e] [] pos) (fCall gRepr fs) :=
  z_callB c (call_repr c) cz_repr ha (by decide +kernel) hb (by decide +kernel) (by decide +kernel) he rfl
end
end Z

namespace Z
open PySem PySem.Spec PyProof.Rows L2

/-! ### sorted(xs), xs a list or a tuple -/
section
variable {prog : Program} {w : World} {A : Around} {E : Value → Shared → Prop} {s : Shared}
theorem sorted_seqZ {it : Addr} {T : String} {o : Obj} {items : Array Value} {n : Nat} {kw : List (Str × Value)} {Q : Value → Shared → Prop} (hT : T = "list" ∨ T = "tuple") (ho : s.heap.get? it = some o) (hc : o.cls = .type T) (hd : o.data = .seq items n) (hsz : items.size ≤ sizeLine)
    (ha1 : argsOk "sorted" ⟨[.ref it], kw⟩)
    (body : ∀ (h' : Heap) (E' : Value → Shared → Prop), (∀ b o', s.heap.get? b = some o' → h'.get? b = some o') →
      wpAny (model prog w) A.in1 (call (.builtin "list.sort") [.ref h'.objs.size] kw) (fun v s' => Q (.ref h'.objs.size) s') E' { s with heap := h'.push (seqObj "list" items.toList.toArray 0) }) :
    wpAny (model prog w) A (call (.builtin "sorted") [.ref it] kw) Q E s := by
  refine call_function_entry_kw kind_sorted plain_sorted entry_sorted ha1 ?_
  unfold Builtin.«sorted»
  refine wpAny_bind (m := checkCount "sorted" 1 1 _) (wpAny_pure ?_)
  refine wpAny_bind (PySem.wpAny_collect_seq it hT ho hc hd (fun h' k => ?_) hsz)
  refine wpAny_bind (PySem.wpAny_newList ?_ (by rw [Array.length_toList]; exact hsz))
  refine wpAny_bind (wpAny_holding ?_)
  refine wpAny_mono (body h' _ k) (fun v s' hq => ?_) fun _ _ e => e
  exact wpAny_pure ⟨_, rfl, hq⟩
end

theorem vals_each {us : List V} {its : List Value} {ps : List PyData} (r : Vals us its) : us.length = ps.length → PySem.W.EachIs (fun v (b : V × PyData) => RelV b.1 v) its (us.zip ps) := by
  induction r generalizing ps with
  | nil => intro _; cases ps <;> exact .nil
  | cons h t ih =>
    intro hl
    cases ps with
    | nil => simp at hl
    | cons p ps => exact .cons h (ih (by simpa using hl))
theorem each_vals : ∀ {bs : List (V × PyData)} {its : List Value}, PySem.W.EachIs (fun v (b : V × PyData) => RelV b.1 v) its bs → Vals (bs.map (·.1)) its
  | _, _, .nil => .nil
  | _, _, .cons h t => .cons h (each_vals t)
def rSortedZ (K : PySem.W.Frag) : List V → Hp → VK → Prop := fun xs H Q => ∃ a us ps, xs = [.ref a] ∧ (SqL K H a us ∨ SqT K H a us) ∧ DpAll K H us ps ∧ PySem.W.AllAlike ps ∧ PySem.W.Sortable ps ∧ (∀ p ∈ ps, p.depth ≤ 40) ∧
  ∀ p, H p = none → Q (.ref p) (upd H p (.lst (((us.zip ps).mergeSort (PySem.W.dataLe false (·.2))).map (·.1))))
theorem dpAll_len {K : PySem.W.Frag} {H : Hp} : ∀ {us : List V} {ps : List PyData}, DpAll K H us ps → us.length = ps.length
  | _, _, .nil => rfl
  | _, _, .cons _ t => congrArg (· + 1) (dpAll_len t)
section
variable {G : Gz} {bs : List Str} {k : Nat} {X : Cx} {N : List Str} {nm : List (Str × NameKind)} {ow : Str → Bool} {a b e : Expr} {es : List Expr} {fa fb : Fn Dv} {fs : Fn (List Dv)} {pos p : Pos}
theorem dpAll_reads {pins : List (Addr × Obj)} {σ : L2.St} {H : Hp} {s : Shared} (I : Inv X pins σ H s) {h' : Heap} (kp : ∀ b o, s.heap.get? b = some o → h'.get? b = some o) {a : Addr} (ha : s.heap.get? a = none) : ∀ {us : List V} {ps : List PyData} {its : List Value}, DpAll X.K H us ps → Vals us its →
    PySem.W.EachIs (fun v (b : V × PyData) => ∃ as, Reads h' v b.2 as ∧ a ∉ as) its (us.zip ps)
  | _, _, _, .nil, .nil => .nil
  | _, _, _, .cons d t, .cons r q => by
    obtain ⟨as, h⟩ := Dp.reads I _ _ _ d r
    refine .cons ⟨as, Reads.keeps kp h, fun hm => ?_⟩ (dpAll_reads I kp ha t q)
    obtain ⟨o, ho⟩ := PyProof.On.reads_mem_get h a hm
    rw [ha] at ho; cases ho
theorem zip_snd : ∀ {us : List V} {ps : List PyData}, us.length = ps.length → (us.zip ps).map (·.2) = ps
  | [], [], _ => rfl
  | _ :: us, _ :: ps, h => congrArg (_ :: ·) (zip_snd (us := us) (ps := ps) (by simpa using h))
theorem call_sortedZ (c : Cz G bs k X N nm ow) : CallR X (.builtin "sorted") (rSortedZ X.K) := by
  intro pins s σ H xs vs Q I r h
  obtain ⟨a, us, ps, rfl, hq, hd, hal, hk, hdp, q⟩ := h
  rw [Vals.ref1 r]
  have hlen := dpAll_len hd
  have key : ∃ (its : List Value) (T : String) (o : Obj) (n : Nat), Vals us its ∧ (T = "list" ∨ T = "tuple") ∧ s.heap.get? a = some o ∧ o.cls = .type T ∧ o.data = .seq its.toArray n ∧ us.length ≤ sizeLine := by
    rcases hq with hq | hq
    · obtain ⟨its, r, ⟨o, n, e1, e2, _, e3⟩, hz⟩ := I.list hq
      exact ⟨its, "list", o, n, r, .inl rfl, e1, e2, e3, hz⟩
    · obtain ⟨its, r, ⟨o, e1, e2, n, e3⟩, hz⟩ := I.tuple hq
      exact ⟨its, "tuple", o, n, r, .inr rfl, e1, e2, e3, hz⟩
  obtain ⟨its, T, o, n, rv, hT, ho, hc, hdt, hz⟩ := key
  have hzz : (us.zip ps).length ≤ sizeLine := by rw [List.length_zip, ← hlen, Nat.min_self]; exact hz
  refine sorted_seqZ hT ho hc hdt (by rw [List.size_toArray, ← rv.length]; exact hz) (args_sorted1 _) fun h' E' kp => ?_
  have I1 : Inv X pins σ H { s with heap := h' } := I.kept (t' := s.toks) kp
  have fresh : h'.get? h'.objs.size = none := Heap.get?_none_of_le (Nat.le_refl _)
  have k2 : ∀ b o, h'.get? b = some o → (h'.push (seqObj "list" its.toArray.toList.toArray 0)).get? b = some o := fun b o e => Heap.get?_push_of_some _ e
  have hnew : (h'.push (seqObj "list" its.toArray.toList.toArray 0)).get? h'.objs.size = some (seqObj "list" its.toArray.toList.toArray 0) := Heap.get?_push_size _ rfl
  have hmap : (us.zip ps).map (·.2) = ps := zip_snd hlen
  refine PySem.W.list_sort_data (bs := us.zip ps) (enc := (·.2)) (R := fun v (b : V × PyData) => RelV b.1 v) hnew (vals_each rv hlen) (dpAll_reads I1 k2 fresh hd rv) (by rw [hmap]; exact hal) (by rw [hmap]; exact hk) hzz (fun b hb => ?_) fun out ho2 eo => ?_
  · have h1 : b.2 ∈ ps := by rw [← hmap]; exact List.mem_map.mpr ⟨b, hb, rfl⟩
    have h2 := hdp _ h1
    have h3 := c.un
    show X.A.units + 1 + 1 + b.2.depth < cLine
    omega
  · obtain ⟨m, hm⟩ := sortedHeap_at (vs := its.toArray.toList) (out := out.toArray) hnew
    refine ⟨.ref h'.objs.size, _, I1.laid (t' := s.toks) (a := h'.objs.size) (o := .lst (((us.zip ps).mergeSort (PySem.W.dataLe false (·.2))).map (·.1))) (fun b o e => ?_) (Nat.le_refl _) ?_, rfl, q _ I1.fresh⟩
    · have hlt := Heap.lt_size e
      exact (sortedHeap_old (Nat.ne_of_lt hlt) (Heap.lt_size (k2 b o e))).trans (k2 b o e)
    · refine ⟨?_, out, m, each_vals eo, hm⟩
      rw [List.length_map, List.length_mergeSort]; exact hzz
/-- the sorted items -/
def sortD (ds : List Dv) (ps : List PyData) : List Dv := ((ds.zip ps).mergeSort (PySem.W.dataLe false (·.2))).map (·.1)
def alikeB (ps : List PyData) : Bool := ps.all fun d => ps.all fun d' => PySem.W.alike d d'
def sortB (ps : List PyData) : Bool := ps.all (fun d => match d with | .tuple (_ :: _) => true | _ => false) || ps.all (fun d => match d with | .none => false | .tuple _ => false | _ => true)
theorem alikeB_ok {ps : List PyData} (h : alikeB ps = true) : PySem.W.AllAlike ps := fun d hd d' hd' => List.all_eq_true.mp (List.all_eq_true.mp h d hd) d' hd'
theorem sortB_ok {ps : List PyData} (h : sortB ps = true) : PySem.W.Sortable ps := by
  rcases Bool.or_eq_true _ _ ▸ h with h | h
  · refine .inl fun d hd => ?_
    have := List.all_eq_true.mp h d hd
    split at this
    · exact ⟨_, _, rfl⟩
    · cases this
  · refine .inr fun d hd => ?_
    have := List.all_eq_true.mp h d hd
    split at this
    · cases this
    · cases this
    · rename_i h1 h2
      exact ⟨h1, h2⟩
def gSorted (xs : List Dv) (s : Sto) : Rs (List Dv) := match xs with
  | [x] => match seqOf s x with
    | some ds => match ds.mapM (pyOf s) with
      | some ps => Rs.iff (alikeB ps && sortB ps) (.ok (sortD ds ps) s)
      | none => .bad
    | none => .bad
  | _ => .bad
theorem dps_of {K : PySem.W.Frag} {B : Lo} {H : Hp} {s : Sto} (S : Sim K B H s) : ∀ {ds : List Dv} {vs : List V} {ps : List PyData}, Rps K B H ds vs → ds.mapM (pyOf s) = some ps → DpAll K H vs ps
  | _, _, _, .nil, h => by simp at h; subst h; exact .nil
  | _, _, _, .cons r rr, h => by
    obtain ⟨y, t, h1, h2, rfl⟩ := mapM_cons_some h
    exact .cons (dp_of S _ _ _ _ r h1) (dps_of S rr h2)
theorem sort_rp {K : PySem.W.Frag} {B : Lo} {H : Hp} {ds : List Dv} {vs : List V} {ps : List PyData} (r : Rps K B H ds vs) (hl : ds.length = ps.length) : Rps K B H (sortD ds ps) (((vs.zip ps).mergeSort (PySem.W.dataLe false (·.2))).map (·.1)) := by
  have tri : ∀ {ds : List Dv} {vs : List V} (ps : List PyData), Rps K B H ds vs → ds.length = ps.length → ∃ ts : List ((Dv × V) × PyData), (∀ t ∈ ts, Rp K B H t.1.1 t.1.2) ∧ ds.zip ps = ts.map (fun t => (t.1.1, t.2)) ∧ vs.zip ps = ts.map (fun t => (t.1.2, t.2)) := by
    intro ds vs ps r
    induction ps generalizing ds vs with
    | nil => intro _; exact ⟨[], by simp, by simp, by simp⟩
    | cons p ps ih =>
      intro hl
      cases r with
      | nil => simp at hl
      | @cons d v ds vs r rr =>
        obtain ⟨ts, h1, h2, h3⟩ := ih rr (by simpa using hl)
        refine ⟨((d, v), p) :: ts, ?_, by simp [h2], by simp [h3]⟩
        intro t ht
        rcases List.mem_cons.mp ht with z | z
        · subst z; exact r
        · exact h1 t z
  obtain ⟨ts, h1, h2, h3⟩ := tri ps r hl
  unfold sortD
  rw [h2, h3, ← List.map_mergeSort (r := fun x y => PySem.W.dataLe false (·.2) x y) (f := fun t : (Dv × V) × PyData => (t.1.1, t.2)) (fun _ _ _ _ => rfl), ← List.map_mergeSort (r := fun x y => PySem.W.dataLe false (·.2) x y) (f := fun t : (Dv × V) × PyData => (t.1.2, t.2)) (fun _ _ _ _ => rfl), List.map_map, List.map_map]
  have : ∀ {us : List ((Dv × V) × PyData)}, (∀ t ∈ us, Rp K B H t.1.1 t.1.2) → Rps K B H (us.map ((·.1) ∘ fun t : (Dv × V) × PyData => (t.1.1, t.2))) (us.map ((·.1) ∘ fun t : (Dv × V) × PyData => (t.1.2, t.2))) := by
    intro us
    induction us with
    | nil => intro _; exact .nil
    | cons t us ih => intro h; exact .cons (h t List.mem_cons_self) (ih fun x hx => h x (List.mem_cons_of_mem _ hx))
  exact this fun t ht => h1 t ((List.mergeSort_perm ts _).mem_iff.mp ht)
theorem mapM_len {α β : Type} {f : α → Option β} : ∀ {ds : List α} {ps : List β}, ds.mapM f = some ps → ds.length = ps.length
  | [], ps, h => by simp at h; subst h; rfl
  | d :: ds, ps, h => by
    obtain ⟨y, t, h1, h2, rfl⟩ := mapM_cons_some h
    exact congrArg (· + 1) (mapM_len h2)
theorem pys_depth {s : Sto} : ∀ {ds : List Dv} {ps : List PyData}, ds.mapM (pyOf s) = some ps → ∀ p ∈ ps, p.depth ≤ 40
  | [], ps, h, p, hp => by simp at h; subst h; cases hp
  | d :: ds, ps, h, p, hp => by
    obtain ⟨y, t, h1, h2, rfl⟩ := mapM_cons_some h
    rcases List.mem_cons.mp hp with z | z
    · subst z; exact (py_noDict 40 d _ h1).2
    · exact pys_depth h2 p z
theorem cz_sorted {K : PySem.W.Frag} : CallLZ K (rSortedZ K) gSorted := by
  intro B H s xs vs d s' Q S r h q
  unfold gSorted at h
  split at h
  · split at h
    · rename_i e1
      split at h
      · rename_i ps e2
        obtain ⟨h1, h2⟩ := Rs.iff_ok h
        rw [Bool.and_eq_true] at h1
        cases h2
        cases r with
        | cons r1 rr =>
          cases rr
          obtain ⟨a, us, rfl, hq, r2⟩ := seq_of S r1 e1
          refine ⟨a, us, ps, rfl, hq, dps_of S r2 e2, alikeB_ok h1.1, sortB_ok h1.2, fun p hp => ?_, fun l hl => new_lst S (sort_rp r2 (mapM_len e2)) hl q⟩
          exact pys_depth e2 p hp
      · cases h
    · cases h
  · cases h
theorem z_sorted (c : Cz G bs k X N nm ow) (ha : ZA X [e] fs) (hb : bOk bs nm "sorted" = true := by decide +kernel) (he : starEach [e] X.env = (false, eval e X.env) :: starEach [] X.env := by rfl) : ZL X (.Call (.Name "sorted" p) [e] [] pos) (fCallL gSorted fs) :=
  z_callBL c (call_sortedZ c) cz_sorted ha (by decide +kernel) hb (by decide +kernel) (by decide +kernel) he rfl

/-! ### xs[::-1] -/
def fRevL (f : Fn Dv) : Fn (List Dv) := fun env s => (f env s).bind fun x s1 => match seqOf s1 x with
  | some ds => Rs.iff (isL x s1) (.ok ds.reverse s1)
  | none => .bad
theorem z_revL {j : Nat} {p1 p2 p3 : Pos} (he : ZE X e fa) : ZL X (.Subscript e (.Slice none none (some (.UnaryOp .USub (.Constant (.int 1) j p1) p2)) p3) pos) (fRevL fa) := by
  refine pe_mono (pe_revL he) fun σ H Q q => ?_
  obtain ⟨B, env, s, d, s', hE, hS, hf, hQ⟩ := q
  obtain ⟨x, s1, h1, hf⟩ := Rs.bind_ok hf
  split at hf
  · rename_i ds e1
    obtain ⟨hl, hf⟩ := Rs.iff_ok hf
    cases hf
    refine ⟨B, env, s, _, _, hE, hS, h1, fun B1 H1 v x1 e1' S1 r1 => ?_⟩
    obtain ⟨a, us, rfl, hq, r2⟩ := seqL_of S1 r1 hl e1
    refine ⟨a, us, rfl, hq, fun p hp => ?_⟩
    exact new_lst S1 r2.reverse hp fun B2 H2 p xs x2 e2 S2 hh hn hl r2 => hQ B2 H2 p xs (x1.trans x2) (e2.trans e1') S2 hh (new_none x1 x2 S2 hn) hl r2
  · cases hf

/-! ### list + list -/
def rCatL (K : PySem.W.Frag) : R2 := fun x y H Q => ∃ l b xs zs, x = .ref l ∧ y = .ref b ∧ SqL K H l xs ∧ SqL K H b zs ∧ xs.length + zs.length ≤ sizeLine ∧ ∀ p, H p = none → Q (.ref p) (upd H p (.lst (xs ++ zs)))
theorem op_catL : OpR X (binaryOp .Add) (rCatL X.K) := by
  intro pins s σ H x y v u Q I rx ry h
  obtain ⟨l, b, xs, zs, rfl, rfl, hH, hB, hz, q⟩ := h
  cases rx
  cases ry
  obtain ⟨its, r, p1, hl⟩ := I.list hH
  obtain ⟨its2, r2, p2, hl2⟩ := I.list hB
  obtain ⟨⟨cls, dd, data, sl⟩, ho, hc, n, hd⟩ := p1.isList
  obtain ⟨⟨cls2, dd2, data2, sl2⟩, ho2, hc2, n2, hd2⟩ := p2.isList
  simp only at hc hd hc2 hd2
  subst hc hd hc2 hd2
  have e : its.toArray ++ its2.toArray = (its ++ its2).toArray := by simp
  refine concat_meets ⟨_, ho, rfl⟩ ⟨_, ho2, rfl⟩ noFill_list_add seq_list_add PySem.F.slot_list_add PySem.F.entry_list_add (PySem.F.args_list_add_2 _ _) (list_addW l b its.toArray its2.toArray n n2 dd dd2 sl sl2 (by rw [List.size_toArray, List.size_toArray, ← r.length, ← r2.length]; exact hz)) ⟨ho, ho2, ?_⟩
  rw [e]
  exact ⟨.ref _, _, I.lnew (t' := s.toks) (r.append r2) (by rw [List.length_append]; omega), rfl, q _ I.fresh⟩
def fCatL (f g : Fn Dv) : Fn (List Dv) := fun env s => (f env s).bind fun x s1 => (g env s1).bind fun y s2 => match seqOf s2 x, seqOf s2 y with
  | some ds, some es => Rs.iff (isL x s2 && isL y s2 && decide (ds.length + es.length ≤ 16777216)) (.ok (ds ++ es) s2)
  | _, _ => .bad
theorem z_catL (ha : ZE X a fa) (hb : ZE X b fb) : ZL X (.BinOp a .Add b pos) (fCatL fa fb) := by
  refine pe_mono (pe_op op_catL ha hb) fun σ H Q q => ?_
  obtain ⟨B, env, s, d, s', hE, hS, hf, hQ⟩ := q
  obtain ⟨x, s1, h1, hf⟩ := Rs.bind_ok hf
  obtain ⟨y, s2, h2, hf⟩ := Rs.bind_ok hf
  split at hf
  · rename_i ds es e1 e2
    obtain ⟨hl, hf⟩ := Rs.iff_ok hf
    cases hf
    rw [Bool.and_eq_true, Bool.and_eq_true] at hl
    obtain ⟨⟨l1, l2⟩, l3⟩ := hl
    refine ⟨B, env, s, _, _, hE, hS, h1, fun B1 H1 v x1 e1' S1 r1 => ?_⟩
    refine ⟨B1, env, s1, _, _, hE.mono x1.mo, S1, h2, fun B2 H2 u x2 e2' S2 r2 => ?_⟩
    obtain ⟨a1, us, rfl, hq, q1⟩ := seqL_of S2 (r1.mono x2.mo) l1 e1
    obtain ⟨a2, ws, rfl, hq2, q2⟩ := seqL_of S2 r2 l2 e2
    refine ⟨a1, a2, us, ws, rfl, rfl, hq, hq2, by rw [← q1.length, ← q2.length]; exact len_line (of_decide_eq_true l3), fun p hp => ?_⟩
    exact new_lst S2 (q1.append q2) hp fun B3 H3 p xs x3 e3 S3 hh hn hl r3 => hQ B3 H3 p xs ((x1.trans x2).trans x3) (e3.trans (e2'.trans e1')) S3 hh (new_none (x1.trans x2) x3 S3 hn) hl r3
  · cases hf
end
end Z

namespace Z
open PySem PySem.Spec PyProof.Rows L2 PySem.W

/-! ### isinstance(x, T), T one of the common types -/
def isiB (t T : String) : Bool := t == T || (t == "bool" && T == "int")
def tyD (x : Dv) (s : Sto) : String := match x with
  | .non => "NoneType"
  | .bl _ => "bool"
  | .int _ => "int"
  | .str _ => "str"
  | .tup _ => "tuple"
  | .ls _ => "list"
  | .loc n => match s[n]? with | some (.lst _) => "list" | some (.dk _) => "dict" | some (.dt _) => "dict" | none => ""
theorem kit_tab : ∀ t ∈ ["NoneType", "bool", "int", "str", "tuple", "list", "dict"], ∀ T ∈ ["bool", "int", "str", "tuple", "list", "dict"], kitB t T = some (isiB t T) := by decide +kernel
theorem ty_of {K : PySem.W.Frag} {B : Lo} {H : Hp} {s : Sto} (S : Sim K B H s) {d : Dv} {v : V} (r : Rp K B H d v) : TyX K H v (.type (tyD d s)) ∧ tyD d s ∈ ["NoneType", "bool", "int", "str", "tuple", "list", "dict"] := by
  cases r with
  | non => exact ⟨.base .non, by simp [tyD]⟩
  | bl b => exact ⟨.base (.bl b), by simp [tyD]⟩
  | int b => exact ⟨.base (.int b), by simp [tyD]⟩
  | str b => exact ⟨.base (.str b), by simp [tyD]⟩
  | tup h _ =>
    refine ⟨?_, by simp [tyD]⟩
    rcases h with ⟨o, h, _⟩ | ⟨o, its, n, h1, h2, _⟩
    · exact .fTuple h
    · exact .kTuple h1 h2
  | ls h _ =>
    refine ⟨?_, by simp [tyD]⟩
    rcases h with ⟨h, _⟩ | ⟨o, h⟩ | ⟨o, its, n, h1, h2, _⟩
    · exact .base (.lst h)
    · exact .base (.frz h)
    · exact .kList h1 h2
  | @loc n a h =>
    obtain ⟨o, ho, ro⟩ := S.at h
    unfold tyD
    simp only [ho]
    cases o with
    | lst ds => obtain ⟨xs, h1, _⟩ := ro; exact ⟨.base (.lst h1), by simp⟩
    | dk ds => obtain ⟨xs, h1, _⟩ := ro; exact ⟨.base (.dK h1), by simp⟩
    | dt ds => obtain ⟨xs, h1, _⟩ := ro; exact ⟨.base (.dT h1), by simp⟩
def fIsi (T : String) (f : Fn Dv) : Fn Dv := fun env s => (f env s).bind fun x s1 => .ok (.bl (isiB (tyD x s1) T)) s1
section
variable {G : Gz} {bs : List Str} {k : Nat} {X : Cx} {N : List Str} {nm : List (Str × NameKind)} {ow : Str → Bool} {a b e tg : Expr} {fa fb fc : Fn Dv} {fs : Fn (List Dv)} {pos p tpos p2 : Pos} {x : Str} {q : Bool}
theorem z_isi (c : Cz G bs k X N nm ow) (T : String) (he : ZE X e fa) (hb : bOk bs nm "isinstance" = true := by decide +kernel) (hT : T ∈ ["bool", "int", "str", "tuple", "list", "dict"] := by decide) (hx : bOk bs nm x = true := by decide +kernel)
    (hv : bootBuiltins x = some (.type T) := by decide +kernel) (hn : x ≠ "__name__" := by decide +kernel) (hd : (x == ("__debug__" : Str)) = false := by decide +kernel)
    (h1 : starEach [e, .Name x p2] X.env = (false, eval e X.env) :: starEach [.Name x p2] X.env := by rfl) (h2 : starEach [.Name x p2] X.env = (false, eval (.Name x p2) X.env) :: starEach [] X.env := by rfl) (hpl : (backTo pos (starEach [.Name x p2] X.env)).any (·.1) = false := by rfl) :
    ZE X (.Call (.Name "isinstance" p) [e, .Name x p2] [] pos) (fIsi T fa) := by
  have ht : PE X (.Name x p2) (tC (.ty T)) := pe_bltn (c.blt hx).1 (c.blt hx).2 hv rfl hn hd
  refine pe_mono (pe_callB call_isi (c.blt hb).1 (c.blt hb).2 (by decide +kernel) (pa_cons he (pa_cons ht pa_nil h2) h1) (by decide +kernel) (by decide +kernel) h1 hpl) fun σ H Q h => ?_
  obtain ⟨B, env, s, d, s', hE, hS, hf, hQ⟩ := h
  obtain ⟨y, s1, g1, hf⟩ := Rs.bind_ok hf
  cases hf
  refine ⟨B, env, s, _, _, hE, hS, g1, fun B1 H1 v x1 e1 S1 r1 => ?_⟩
  obtain ⟨t1, t2⟩ := ty_of S1 r1
  exact ⟨v, .ty T, _, .type T, _, rfl, .ty T, t1, kit_ty (kit_tab _ t2 _ hT), hQ B1 H1 _ x1 e1 S1 (.bl _)⟩

/-! ### for c in text -/
def charsD (z : Str) : List Dv := z.cps.toList.map fun c => .str ⟨#[c]⟩
def fSrcS (f : Fn Dv) : Fn Src := fun env s => (f env s).bind fun d s1 => match d with | .str z => .ok (charsD z, noChk) s1 | _ => .bad
theorem zi_str (he : ZE X e fa) : ZI X q tg e (fSrcS fa) := by
  refine pi_mono (pi_str (tg := tg) he) fun σ H R h => ?_
  obtain ⟨B, env, s, src, s', hE, hS, hf, hQ⟩ := h
  obtain ⟨d, s1, h1, hf⟩ := Rs.bind_ok hf
  cases d with
  | str z =>
    cases hf
    refine ⟨B, env, s, _, _, hE, hS, h1, fun B1 H1 v x1 e1 S1 r1 => ?_⟩
    cases r1
    refine ⟨z, rfl, hQ B1 H1 _ x1 e1 S1 fun B2 H2 s2 x2 S2 _ => ⟨fun i d e => ?_, ?_⟩⟩
    · have e' : z.cps.toList[i]?.map (fun c => Dv.str ⟨#[c]⟩) = some d := by rw [← List.getElem?_map]; exact e
      obtain ⟨c, e1, rfl⟩ := Option.map_eq_some_iff.mp e'
      have e3 : z.cps[i]? = some c := by rw [← Array.getElem?_toList]; exact e1
      have hl : i < z.cps.size := by have := (List.getElem?_eq_some_iff.mp e1).1; simpa using this
      refine ⟨hl, fun y H3 hy => ?_⟩
      obtain ⟨rfl, c', hc, rfl⟩ := hy
      rw [e3] at hc; cases hc
      exact ⟨Ext.refl _ _, S2, .of (.str _)⟩
    · show z.cps.size ≤ (charsD z).length
      simp [charsD]
  | _ => cases hf

/-! ### a module's constant -/
/-- the module's name x holds d -/
def GV (G : Gz) (x : Str) (d : Dv) : Prop := ∃ u, G.mg x = some u ∧ ∃ v, RelV v u ∧ ∀ (B : Lo) (H : Hp), Rp G.K B H d v
theorem GV.str {G : Gz} {x z : Str} {t : Tok} (h : G.mg x = some (.str z t)) : GV G x (.str z) := ⟨_, h, .str z, ⟨t, rfl⟩, fun _ _ => .str z⟩
theorem GV.int {G : Gz} {x : Str} {i : Int} {t : Tok} (h : G.mg x = some (.int i t)) : GV G x (.int i) := ⟨_, h, .int i, ⟨t, rfl⟩, fun _ _ => .int i⟩
theorem z_glob {d : Dv} (c : Cz G bs k X N nm ow) (hg : GV G x d) (h : gOk nm x = true := by decide +kernel) (hd : (x == ("__debug__" : Str)) = false := by decide +kernel) : ZE X (.Name x p) (fC d) := by
  obtain ⟨u, h1, v, h2, h3⟩ := hg
  exact z_const (pe_glob (c.gl h) (by rw [c.gm]; exact h1) h2 hd) fun B H => by rw [c.gK]; exact h3 B H
end

/-! ### enumerate(tuple) -/
set_option maxHeartbeats 1000000 in
theorem meets_enum1 {v : Value} {o : Obj} {H : Heap → Prop} (B : Begins v o H) :
    Meets (Builtin.«enumerate.__new__» ⟨[.type "enumerate", v], []⟩) (fun _ R s => H s.heap ∧
      R (.ok (.ret (.ref (s.heap.push o).objs.size))) { s with heap := (s.heap.push o).push { cls := .type "enumerate", data := .fields #[.none, .bool false, .ref s.heap.objs.size, rawInt 0, .none, .none] } }) :=
  .of_wp fun prog w A R s h => by
    obtain ⟨hp, g, d, tk, os⟩ := s; obtain ⟨h1, h⟩ := h
    have hsub := sub_enumerate
    have q1 : ∀ {A' : Around} {E : Value → Shared → Prop} {Q : Value → Shared → Prop}, Q (.ref hp.objs.size) ⟨hp.push o, g, d, tk, os⟩ → wpAny (model prog w) A' (pyIter v) Q E ⟨hp, g, d, tk, os⟩ :=
      fun q => B.iter prog w _ _ ⟨hp, g, d, tk, os⟩ _ h1 q
    wp_walk using q1
    refine wpAny_stack_any fun st => wpAny_pure ?_
    split
    · rename_i c _ _ _ _ _
      cases (c == Value.type "enumerate")
      · wp_walk using q1
        exact ⟨_, rfl, h⟩
      · wp_walk using q1
        exact ⟨_, rfl, h⟩
    · wp_walk using q1
      exact ⟨_, rfl, h⟩
theorem call_enum1 {prog : Program} {w : World} {A : Around} {E : Value → Shared → Prop} {s : Shared} {v : Value} {o : Obj} {H : Heap → Prop} {Q : Value → Shared → Prop} (B : Begins v o H) (h1 : H s.heap)
    (h : ∀ h', IsEnum h' (s.heap.objs.size + 1) s.heap.objs.size 0 .none → h'.get? s.heap.objs.size = some o → h'.objs.size = s.heap.objs.size + 2 →
      (∀ b o, s.heap.get? b = some o → h'.get? b = some o) → Q (.ref (s.heap.objs.size + 1)) { s with heap := h' }) :
    wpAny (model prog w) A (call (.type "enumerate") [v]) Q E s := by
  refine callType_new F.called_enumerate (by decide) (F.typeCall_enumerate_1 _) (F.newCall_enumerate_1 _) (fun obj => F.args_object_init_2 obj _) F.entry_enumerate_new (meets_enum1 B) ⟨h1, ?_⟩
  have hz : (s.heap.push o).objs.size = s.heap.objs.size + 1 := Heap.size_push ..
  show _ ∧ _
  rw [hz]
  have he : IsEnum ((s.heap.push o).push { cls := .type "enumerate", data := .fields #[.none, .bool false, .ref s.heap.objs.size, rawInt 0, .none, .none] }) (s.heap.objs.size + 1) s.heap.objs.size 0 .none := by
    have := Heap.get?_push_size (s.heap.push o) (o := { cls := .type "enumerate", data := .fields #[.none, .bool false, .ref s.heap.objs.size, rawInt 0, .none, .none] }) rfl
    rw [hz] at this; exact this
  refine ⟨⟨_, he, rfl⟩, h _ he (Heap.get?_push_of_some _ (Heap.get?_push_size _ B.free)) (by rw [Heap.size_push, hz]) fun b o x => Heap.get?_push_of_some _ (Heap.get?_push_of_some _ x)⟩
/-- the tuple at a, each item in a new pair behind its place -/
def IteT (K : PySem.W.Frag) (a : Addr) : It :=
  ⟨fun i H => ∃ (xs : List V) (x : V), SqT K H a xs ∧ xs[i]? = some x, fun i H v H' => ∃ T x, v = .ref T ∧ H T = none ∧ H' = upd H T (.tup [.int (i : Nat), x]) ∧ ∀ xs, SqT K H a xs → xs[i]? = some x, fun i H => ∃ xs : List V, SqT K H a xs ∧ xs.length ≤ i⟩
theorem turn_enumT {P : Program} {w : World} {K : PySem.W.Frag} {elts : List Expr} {kk : Nat} {tpos : Pos} (a e it : Addr) :
    Turn P w K (.Tuple elts kk tpos) (IteT K a) [e, it] e (fun i h => (∃ old, IsEnum h e it ((i : Nat) : Int) old) ∧ h.IsTupleIter it a i ∧ e ≠ it ∧ e ≠ a ∧ a ≠ it) where
  mem := by simp
  obj := fun i h st b hb => by
    obtain ⟨⟨old, he⟩, ⟨o, ho, hc, hd⟩, _⟩ := st
    have e' : b = e ∨ b = it := by simpa using hb
    rcases e' with z | z
    · rw [z]; exact ⟨_, he, fun v q => nomatch q⟩
    · rw [z]; exact ⟨o, ho, fun v q => by rw [hd] at q; cases q⟩
  keep := fun i h h' st k => let ⟨⟨old, he⟩, hi, hne⟩ := st; ⟨⟨old, k e (by simp) _ he⟩, hi.at fun o q => k it (by simp) o q, hne⟩
  item := by
    intro X hP hw hK hc i pins s σ H E I hf st hg
    subst hP hw hK
    obtain ⟨⟨old, he⟩, hit, hne, hea, hai⟩ := st
    obtain ⟨xs, x, hq, hx⟩ := hg
    obtain ⟨its, rv, p, hz⟩ := I.tuple hq
    obtain ⟨u, hu, ru⟩ := rv.get hx
    have hu' : its.toArray[i]? = some u := by simpa using hu
    have hel : e < s.heap.objs.size := Heap.lt_size he
    have hil : it < s.heap.objs.size := by obtain ⟨_, q, _⟩ := hit; exact Heap.lt_size q
    have D := Draws.tuple (prog := X.prog) (w := X.w) (A := X.A.in1) (I.ok.hd hc) it a hai its.toArray
    have hlt : i < its.toArray.size := (Array.getElem?_eq_some_iff.mp hu').1
    refine wpAny_pyNext_enum_itemD D he ⟨hit, p⟩ hlt hne (by simp [hne, hea]) fun x' h' tk hp' ho hst' hT hsz hk => ?_
    have hp' : its.toArray[i]? = some x' := hp'
    rw [hu'] at hp'; cases hp'
    obtain ⟨hit', _⟩ := hst'
    refine ⟨_, rfl, wpAny_letOwnedTupleGo_enum (s := { s with heap := h', toks := tk + 1 }) ho fun h'' he' sb => ?_⟩
    have hT2 : h''.get? s.heap.objs.size = some { cls := .type "tuple", data := .seq #[.int i tk, u] } := (sb.2 _ (Nat.ne_of_gt hel)).trans hT
    have new : ObjOk X.prog X.w (upd H s.heap.objs.size (.tup [.int (i : Nat), x])) h'' s.heap.objs.size (.tup [.int (i : Nat), x]) :=
      ⟨by show 2 ≤ sizeLine; decide, [.int i tk, u], .cons ⟨_, rfl⟩ (.cons ru .nil), ⟨_, hT2, rfl, _, rfl⟩⟩
    have I1 : Inv X pins σ (upd H s.heap.objs.size (.tup [.int (i : Nat), x])) { s with heap := h'', toks := tk + 1 } :=
      I.turnedNew (ch := [e, it]) (fun b ob hb q => (sb.2 b (fun z => hb (by simp [z]))).trans (hk b ob (fun z => hb (by simp [z])) (fun z => hb (by simp [z])) q)) hf (Nat.le_refl _) new
    refine ⟨.ref s.heap.objs.size, _, I1, rfl, ⟨_, x, rfl, I.hok.fresh (Nat.le_refl _), rfl, fun ys hy => by rw [I.tuple_inj hy hq]; exact hx⟩, ⟨⟨u, ?_⟩, hit'.at fun o q => (sb.2 it (Ne.symm hne)).trans q, hne, hea, hai⟩, fun b hb => ?_⟩
    · have e1 : ((i + 1 : Nat) : Int) = (i : Int) + 1 := by omega
      rw [e1]; exact he'
    · have hb' : b < s.heap.objs.size := by
        have e' : b = e ∨ b = it := by simpa using hb
        rcases e' with z | z
        · rw [z]; exact hel
        · rw [z]; exact hil
      rw [upd_ne (Nat.ne_of_lt hb')]
      exact (hf b hb).1
  done := by
    intro X hP hw hK hc i pins s σ H E I hf st hg
    subst hP hw hK
    obtain ⟨⟨old, he⟩, hit, hne, hea, hai⟩ := st
    obtain ⟨xs, hq, hx⟩ := hg
    obtain ⟨its, rv, p, hz⟩ := I.tuple hq
    obtain ⟨f0, f1, f2, f3, f4, f5⟩ := hf it (by simp)
    have hl := rv.length
    -- behind its last item nothing is drawn
    have hT : s.TypeIs (.ref e) "enumerate" := ⟨_, he, rfl⟩
    unfold pyNext
    refine wpAny_bind (wpAny_attempt (wpAny_callSpecial?_slot (name := Str.ofString "__next__") hT F.slot_enumerate_next
      (wpAny_call_entry F.slot_enumerate_next hT F.entry_enumerate_next ?_ (F.args_enumerate_next_1 _))))
    show wpAny _ _ (field (.ref e) 2 >>= _) _ _ _
    refine wpAny_bind (wpAny_field he rfl (x := .ref it) rfl ?_)
    refine wpAny_bind (wpAny_nextOf_tuple_end (I.ok.hd hc) hit (show s.heap.IsTuple a its.toArray from p) (by rw [Array.getElem?_eq_none_iff, List.size_toArray, ← hl]; exact hx) fun h' x he' hx' => ?_)
    obtain ⟨o, ho, hc⟩ := hx'
    refine wpAny_bind (wpAny_isInstance (T := "StopIteration") (b := true) ⟨o, ho, hc⟩ isSubtype_stop ?_)
    exact wpAny_pure ⟨rfl, I.turned (t' := s.toks) (fun b o hb q => he' b o hb q) f0 f1 f3 f4 f5⟩
  self := fun A i s Q E st h => let ⟨⟨_, he⟩, _⟩ := st; wpAny_pyIter_enum he h
def iEnumT (K : PySem.W.Frag) (ta : TA) : TI := fun σ H R => ta σ H fun vs H1 => ∃ a xs, vs = [.ref a] ∧ ((SqL K H1 a xs ∧ R (Ite K a) H1) ∨ (SqT K H1 a xs ∧ R (IteT K a) H1))
theorem pi_enumA {X : Cx} {e : Expr} {ta : TA} {p pos tpos : Pos} {elts : List Expr} {kk : Nat} (hg : Gl X "enumerate") (hm : X.mg "enumerate" = none) (ha : PA X [e] ta) (hs : starEach [e] X.env = [(false, eval e X.env)] := by rfl) :
    PI X (.Tuple elts kk tpos) (.Call (.Name "enumerate" p) [e] [] pos) (iEnumT X.K ta) := by
  refine ⟨fun pins s σ H R I h => ?_⟩
  refine Call_ (ld_blt I hg hm boot_enumerate (PyProof.Rows.callWith_type1 (thn (ha.run pos pins s σ H _ I h) fun us s1 ⟨vs, H1, I1, r1, q1⟩ => ?_) hs rfl))
  obtain ⟨a, xs, ex, q⟩ := q1
  subst ex
  cases r1 with
  | cons r rr =>
    cases rr
    cases r
    rcases q with ⟨hq, q⟩ | ⟨hq, q⟩
    · obtain ⟨its, rv, p', hz⟩ := I1.list hq
      refine call_enumerate_list p'.isList fun h' he hit hsz hk => wpAny_pyIter_enum he ?_
      have I2 : Inv X pins σ H1 { s1 with heap := h' } := I1.kept (t' := s1.toks) hk
      refine ⟨s1.heap.objs.size + 1, [s1.heap.objs.size + 1, s1.heap.objs.size], _, _, H1, rfl, I2, turn_enum a (s1.heap.objs.size + 1) s1.heap.objs.size, ⟨⟨.none, he⟩, hit, Nat.succ_ne_self _⟩, fun b hb => ?_, q⟩
      have e' : b = s1.heap.objs.size + 1 ∨ b = s1.heap.objs.size := by simpa using hb
      have hle : s1.heap.objs.size ≤ b := by
        rcases e' with z | z
        · rw [z]; exact Nat.le_add_right _ _
        · rw [z]; exact Nat.le_refl _
      exact I1.fpOk hle (I1.hok.fresh hle)
    · obtain ⟨its, rv, p', hz⟩ := I1.tuple hq
      have hlt : a < s1.heap.objs.size := by obtain ⟨_, q, _⟩ := p'; exact Heap.lt_size q
      refine call_enum1 (begins_tuple a its.toArray) (show s1.heap.IsTuple a its.toArray from p') fun h' he hit hsz hk => wpAny_pyIter_enum he ?_
      have I2 : Inv X pins σ H1 { s1 with heap := h' } := I1.kept (t' := s1.toks) hk
      refine ⟨s1.heap.objs.size + 1, [s1.heap.objs.size + 1, s1.heap.objs.size], _, _, H1, rfl, I2, turn_enumT a (s1.heap.objs.size + 1) s1.heap.objs.size, ⟨⟨.none, he⟩, ⟨_, hit, rfl, rfl⟩, Nat.succ_ne_self _, Nat.ne_of_gt (Nat.lt_succ_of_lt hlt), Nat.ne_of_lt hlt⟩, fun b hb => ?_, q⟩
      have e' : b = s1.heap.objs.size + 1 ∨ b = s1.heap.objs.size := by simpa using hb
      have hle : s1.heap.objs.size ≤ b := by
        rcases e' with z | z
        · rw [z]; exact Nat.le_add_right _ _
        · rw [z]; exact Nat.le_refl _
      exact I1.fpOk hle (I1.hok.fresh hle)
end Z

namespace Z
open PySem PySem.Spec PyProof.Rows L2

/-! ### enumerate, zip, reversed -/
def srcOf (d : Dv) (s : Sto) : Option Src := match d with
  | .tup ds => some (ds, noChk)
  | .ls ds => some (ds, noChk)
  | .loc n => match s[n]? with | some (.lst ds) => some (ds, isLst n ds) | _ => none
  | _ => none
def AtL (K : PySem.W.Frag) (B : Lo) (H : Hp) (a : Addr) (src : Src) : Prop := (∃ xs, SqL K H a xs ∧ Rps K B H src.1 xs) ∧ ∀ (B1 : Lo) (H1 : Hp) (s1 : Sto), Ext B H B1 H1 → Sim K B1 H1 s1 → src.2 s1 = true → ∃ xs, SqL K H1 a xs ∧ Rps K B1 H1 src.1 xs
def AtT (K : PySem.W.Frag) (B : Lo) (H : Hp) (a : Addr) (src : Src) : Prop := (∃ xs, SqT K H a xs ∧ Rps K B H src.1 xs) ∧ ∀ (B1 : Lo) (H1 : Hp) (s1 : Sto), Ext B H B1 H1 → Sim K B1 H1 s1 → src.2 s1 = true → ∃ xs, SqT K H1 a xs ∧ Rps K B1 H1 src.1 xs
theorem at_of {K : PySem.W.Frag} {B : Lo} {H : Hp} {s : Sto} (S : Sim K B H s) {d : Dv} {v : V} {src : Src} (r : Rp K B H d v) (h : srcOf d s = some src) : ∃ a, v = .ref a ∧ ((isL d s = true ∧ AtL K B H a src) ∨ (isT d s = true ∧ AtT K B H a src)) := by
  cases r with
  | tup h1 h2 =>
    cases h
    exact ⟨_, rfl, .inr ⟨rfl, ⟨_, h1.sq, h2⟩, fun B1 H1 s1 x S1 _ => ⟨_, (x.mo.tk h1).sq, h2.mono x.mo⟩⟩⟩
  | ls h1 h2 =>
    cases h
    exact ⟨_, rfl, .inl ⟨rfl, ⟨_, h1.sq, h2⟩, fun B1 H1 s1 x S1 _ => ⟨_, (x.mo.ls h1).sq, h2.mono x.mo⟩⟩⟩
  | @loc n a h1 =>
    obtain ⟨o, ho, ro⟩ := S.at h1
    unfold srcOf at h
    simp only [ho] at h
    cases o with
    | lst es =>
      cases h
      obtain ⟨xs, e1, e2⟩ := ro
      refine ⟨_, rfl, .inl ⟨by unfold isL; simp only [ho], ⟨xs, .of e1, e2⟩, fun B1 H1 s1 x S1 hc => ?_⟩⟩
      have h5 := isLst_at hc
      obtain ⟨o, ho, ro⟩ := S1.at (pre_get x.mo.pre h1)
      rw [h5] at ho; cases ho
      obtain ⟨ys, h6, h7⟩ := ro
      exact ⟨ys, .of h6, h7⟩
    | _ => cases h
  | _ => cases h
def enumD (ds : List Dv) : List Dv := ds.mapIdx fun i d => .tup [.int (i : Nat), d]
theorem enumD_get {ds : List Dv} {i : Nat} {e : Dv} (h : (enumD ds)[i]? = some e) : ∃ d, ds[i]? = some d ∧ e = .tup [.int (i : Nat), d] := by
  unfold enumD at h
  rw [List.getElem?_mapIdx] at h
  obtain ⟨d, h1, h2⟩ := Option.map_eq_some_iff.mp h
  exact ⟨d, h1, h2.symm⟩
theorem enumD_len (ds : List Dv) : (enumD ds).length = ds.length := by simp [enumD]
/-- a new pair for the loop's target alone -/
theorem pair_rel {K : PySem.W.Frag} {B : Lo} {H : Hp} {s : Sto} (S : Sim K B H s) {T : Addr} (hT : H T = none) {d1 d2 : Dv} {v1 v2 : V} (r1 : Rp K B H d1 v1) (r2 : Rp K B H d2 v2) :
    Ext B H B (upd H T (.tup [v1, v2])) ∧ Sim K B (upd H T (.tup [v1, v2])) s ∧ Rel K true B (upd H T (.tup [v1, v2])) (.tup [d1, d2]) (.ref T) := by
  have m := Mo.laid (B := B) (o := .tup [v1, v2]) hT
  exact ⟨Ext.laid hT, S.laid hT, .inr ⟨T, [v1, v2], [d1, d2], rfl, rfl, .inl (.inl upd_same), .cons (r1.mono m) (.cons (r2.mono m) .nil)⟩⟩
def fEnum (f : Fn (List Dv)) : Fn Src := fun env s => (f env s).bind fun ds s1 => match ds with
  | [d] => match srcOf d s1 with | some src => .ok (enumD src.1, src.2) s1 | none => .bad
  | _ => .bad
def zipD (ds es : List Dv) : List Dv := List.zipWith (fun a b => .tup [a, b]) ds es
theorem zipD_get {ds es : List Dv} {i : Nat} {e : Dv} (h : (zipD ds es)[i]? = some e) : ∃ a b, ds[i]? = some a ∧ es[i]? = some b ∧ e = .tup [a, b] := by
  unfold zipD at h
  rw [List.getElem?_zipWith] at h
  split at h
  · rename_i a b h1 h2
    exact ⟨a, b, h1, h2, (Option.some.inj h).symm⟩
  · cases h
def fZip (f : Fn (List Dv)) : Fn Src := fun env s => (f env s).bind fun ds s1 => match ds with
  | [d, e] => match srcOf d s1, srcOf e s1 with
    | some a, some b => Rs.iff ((isL d s1 && isL e s1) || (isT d s1 && isT e s1)) (.ok (zipD a.1 b.1, fun s => a.2 s && b.2 s) s1)
    | _, _ => .bad
  | _ => .bad
def fRevI (f : Fn Dv) : Fn Src := fun env s => (f env s).bind fun d s1 => match srcOf d s1 with | some src => .ok (src.1.reverse, src.2) s1 | none => .bad
theorem rev_get {α : Type} {l : List α} {i : Nat} {x : α} (h : l.reverse[i]? = some x) : i < l.length ∧ l[l.length - 1 - i]? = some x := by
  have hl : i < l.length := by have := (List.getElem?_eq_some_iff.mp h).1; simpa using this
  rw [List.getElem?_reverse hl] at h
  exact ⟨hl, h⟩
section
variable {G : Gz} {bs : List Str} {k : Nat} {X : Cx} {N : List Str} {nm : List (Str × NameKind)} {ow : Str → Bool} {a b e e2 tg : Expr} {elts : List Expr} {kk : Nat} {fa fb fc : Fn Dv} {fs : Fn (List Dv)} {pos p tpos : Pos} {q : Bool}
theorem zi_enum (c : Cz G bs k X N nm ow) (ha : ZA X [e] fs) (hb : bOk bs nm "enumerate" = true := by decide +kernel) (hs : starEach [e] X.env = [(false, eval e X.env)] := by rfl) : ZI X true (.Tuple elts kk tpos) (.Call (.Name "enumerate" p) [e] [] pos) (fEnum fs) := by
  refine pi_mono (pi_enumA (c.blt hb).1 (c.blt hb).2 ha hs) fun σ H R h => ?_
  obtain ⟨B, env, s, src, s', hE, hS, hf, hQ⟩ := h
  obtain ⟨ds, s1, h1, hf⟩ := Rs.bind_ok hf
  split at hf
  · split at hf
    · rename_i sr e1
      cases hf
      refine ⟨B, env, s, _, _, hE, hS, h1, fun B1 H1 vs x1 ee S1 r1 => ?_⟩
      cases r1 with
      | cons r rr =>
        cases rr
        obtain ⟨a, rfl, hx⟩ := at_of S1 r e1
        rcases hx with ⟨_, ⟨xs, h3, _⟩, hA⟩ | ⟨_, ⟨xs, h3, _⟩, hA⟩
        · refine ⟨a, xs, rfl, .inl ⟨h3, hQ B1 H1 _ x1 ee S1 fun B2 H2 s2 x2 S2 hc => ?_⟩⟩
          obtain ⟨ys, h4, h5⟩ := hA B2 H2 s2 x2 S2 hc
          refine ⟨fun i d hd => ?_, ys, h4, by rw [enumD_len, ← h5.length]; exact Nat.le_refl _⟩
          obtain ⟨d', g1, rfl⟩ := enumD_get hd
          obtain ⟨v, g2, g3⟩ := h5.get g1
          refine ⟨⟨ys, v, h4, g2⟩, fun y H3 hy => ?_⟩
          obtain ⟨T, v', rfl, hT, rfl, hv⟩ := hy
          have := hv ys h4
          rw [g2] at this; cases this
          exact pair_rel S2 hT (.int _) g3
        · refine ⟨a, xs, rfl, .inr ⟨h3, hQ B1 H1 _ x1 ee S1 fun B2 H2 s2 x2 S2 hc => ?_⟩⟩
          obtain ⟨ys, h4, h5⟩ := hA B2 H2 s2 x2 S2 hc
          refine ⟨fun i d hd => ?_, ys, h4, by rw [enumD_len, ← h5.length]; exact Nat.le_refl _⟩
          obtain ⟨d', g1, rfl⟩ := enumD_get hd
          obtain ⟨v, g2, g3⟩ := h5.get g1
          refine ⟨⟨ys, v, h4, g2⟩, fun y H3 hy => ?_⟩
          obtain ⟨T, v', rfl, hT, rfl, hv⟩ := hy
          have := hv ys h4
          rw [g2] at this; cases this
          exact pair_rel S2 hT (.int _) g3
    · cases hf
  · cases hf
theorem zi_zip (c : Cz G bs k X N nm ow) (ha : ZA X [e, e2] fs) (hb : bOk bs nm "zip" = true := by decide +kernel) (hs : starEach [e, e2] X.env = (false, eval e X.env) :: starEach [e2] X.env := by rfl) (hpl : (backTo pos (starEach [e2] X.env)).any (·.1) = false := by rfl) :
    ZI X true (.Tuple elts kk tpos) (.Call (.Name "zip" p) [e, e2] [] pos) (fZip fs) := by
  refine pi_mono (RZ.pi_zipA (c.blt hb).1 (c.blt hb).2 ha hs hpl) fun σ H R h => ?_
  obtain ⟨B, env, s, src, s', hE, hS, hf, hQ⟩ := h
  obtain ⟨ds, s1, h1, hf⟩ := Rs.bind_ok hf
  split at hf
  · split at hf
    · rename_i sa sb e1 e2
      obtain ⟨hk, hf⟩ := Rs.iff_ok hf
      cases hf
      refine ⟨B, env, s, _, _, hE, hS, h1, fun B1 H1 vs x1 ee S1 r1 => ?_⟩
      cases r1 with
      | cons r rr =>
        cases rr with
        | cons r' rr =>
          cases rr
          obtain ⟨a, rfl, hx⟩ := at_of S1 r e1
          obtain ⟨b, rfl, hy⟩ := at_of S1 r' e2
          have len : ∀ {xs ys : List V} {i : Nat} {B : Lo} {H : Hp}, Rps X.K B H sa.1 xs → Rps X.K B H sb.1 ys → xs.length ≤ (zipD sa.1 sb.1).length ∨ ys.length ≤ (zipD sa.1 sb.1).length := fun {xs ys i B H} h5 h6 => by
            rw [← h5.length, ← h6.length]
            simp only [zipD, List.length_zipWith]
            omega
          rcases hx with ⟨k1, ⟨xs, h3, _⟩, hA⟩ | ⟨k1, ⟨xs, h3, _⟩, hA⟩ <;> rcases hy with ⟨k2, ⟨ys, h4, _⟩, hB⟩ | ⟨k2, ⟨ys, h4, _⟩, hB⟩
          · refine ⟨a, b, xs, ys, rfl, .inl ⟨h3, h4, hQ B1 H1 _ x1 ee S1 fun B2 H2 s2 x2 S2 hc => ?_⟩⟩
            rw [Bool.and_eq_true] at hc
            obtain ⟨us, h5, h6⟩ := hA B2 H2 s2 x2 S2 hc.1
            obtain ⟨ws, h7, h8⟩ := hB B2 H2 s2 x2 S2 hc.2
            refine ⟨fun i d hd => ?_, us, ws, h5, h7, len (i := 0) h6 h8⟩
            obtain ⟨d1, d2, g1, g2, rfl⟩ := zipD_get hd
            obtain ⟨v1, g3, g4⟩ := h6.get g1
            obtain ⟨v2, g5, g6⟩ := h8.get g2
            refine ⟨⟨us, ws, v1, v2, h5, h7, g3, g5⟩, fun y H3 hy => ?_⟩
            obtain ⟨T, w1, w2, rfl, hT, rfl, hv1, hv2⟩ := hy
            have q1 := hv1 us h5
            have q2 := hv2 ws h7
            rw [g3] at q1; cases q1
            rw [g5] at q2; cases q2
            exact pair_rel S2 hT g4 g6
          · exfalso
            cases r <;> cases r' <;> simp [isL, isT] at k1 k2 hk
          · exfalso
            cases r <;> cases r' <;> simp [isL, isT] at k1 k2 hk
          · refine ⟨a, b, xs, ys, rfl, .inr ⟨h3, h4, hQ B1 H1 _ x1 ee S1 fun B2 H2 s2 x2 S2 hc => ?_⟩⟩
            rw [Bool.and_eq_true] at hc
            obtain ⟨us, h5, h6⟩ := hA B2 H2 s2 x2 S2 hc.1
            obtain ⟨ws, h7, h8⟩ := hB B2 H2 s2 x2 S2 hc.2
            refine ⟨fun i d hd => ?_, us, ws, h5, h7, len (i := 0) h6 h8⟩
            obtain ⟨d1, d2, g1, g2, rfl⟩ := zipD_get hd
            obtain ⟨v1, g3, g4⟩ := h6.get g1
            obtain ⟨v2, g5, g6⟩ := h8.get g2
            refine ⟨⟨us, ws, v1, v2, h5, h7, g3, g5⟩, fun y H3 hy => ?_⟩
            obtain ⟨T, w1, w2, rfl, hT, rfl, hv1, hv2⟩ := hy
            have q1 := hv1 us h5
            have q2 := hv2 ws h7
            rw [g3] at q1; cases q1
            rw [g5] at q2; cases q2
            exact pair_rel S2 hT g4 g6
    · cases hf
  · cases hf
theorem zi_rev (c : Cz G bs k X N nm ow) (he : ZE X e fa) (hb : bOk bs nm "reversed" = true := by decide +kernel) (hs : starEach [e] X.env = (false, eval e X.env) :: starEach [] X.env := by rfl) : ZI X q tg (.Call (.Name "reversed" p) [e] [] pos) (fRevI fa) := by
  refine pi_mono (RT.pi_revA (tg := tg) (c.blt hb).1 (c.blt hb).2 he hs) fun σ H R h => ?_
  obtain ⟨B, env, s, src, s', hE, hS, hf, hQ⟩ := h
  obtain ⟨d, s1, h1, hf⟩ := Rs.bind_ok hf
  split at hf
  · rename_i sr e1
    cases hf
    refine ⟨B, env, s, _, _, hE, hS, h1, fun B1 H1 v x1 ee S1 r1 => ?_⟩
    obtain ⟨a, rfl, hx⟩ := at_of S1 r1 e1
    rcases hx with ⟨_, ⟨xs, h3, hr3⟩, hA⟩ | ⟨_, ⟨xs, h3, hr3⟩, hA⟩
    · refine ⟨a, xs, rfl, .inl ⟨h3, hQ B1 H1 _ x1 ee S1 fun B2 H2 s2 x2 S2 hc => ?_⟩⟩
      obtain ⟨ys, h4, h5⟩ := hA B2 H2 s2 x2 S2 hc
      refine ⟨fun i d hd => ?_, by show xs.length ≤ _; rw [List.length_reverse, ← hr3.length]; exact Nat.le_refl _⟩
      obtain ⟨hi, hd⟩ := rev_get hd
      rw [hr3.length] at hi hd
      obtain ⟨v, g2, g3⟩ := h5.get hd
      refine ⟨⟨hi, ys, v, h4, g2⟩, fun y H3 hy => ?_⟩
      obtain ⟨rfl, hv⟩ := hy
      have := hv ys h4
      rw [g2] at this; cases this
      exact ⟨Ext.refl _ _, S2, .of g3⟩
    · refine ⟨a, xs, rfl, .inr ⟨h3, hQ B1 H1 _ x1 ee S1 fun B2 H2 s2 x2 S2 hc => ?_⟩⟩
      obtain ⟨ys, h4, h5⟩ := hA B2 H2 s2 x2 S2 hc
      refine ⟨fun i d hd => ?_, by show xs.length ≤ _; rw [List.length_reverse, ← hr3.length]; exact Nat.le_refl _⟩
      obtain ⟨hi, hd⟩ := rev_get hd
      rw [hr3.length] at hi hd
      obtain ⟨v, g2, g3⟩ := h5.get hd
      refine ⟨⟨hi, ys, v, h4, g2⟩, fun y H3 hy => ?_⟩
      obtain ⟨rfl, hv⟩ := hy
      have := hv ys h4
      rw [g2] at this; cases this
      exact ⟨Ext.refl _ _, S2, .of g3⟩
  · cases hf
end
end Z

namespace Z
open PySem PySem.Spec PyProof.Rows L2

/-! ### sum of a list or a tuple; the greatest, the least of a list -/
def rSumA (K : PySem.W.Frag) : List V → Hp → VK → Prop := fun vs H Q => ∃ (a : Addr) (ns : List Int), vs = [V.ref a] ∧ (SqL K H a (ns.map V.int) ∨ SqT K H a (ns.map V.int)) ∧ Q (.int ns.sum) H
theorem cr_sumA {X : Cx} (hc : X.calm = true) : CallR X (.builtin "sum") (rSumA X.K) := by
  intro pins s σ H vs us Q I r h
  obtain ⟨a, ns, rfl, hs, q⟩ := h
  rcases hs with hs | hs
  · exact cr_sum hc pins s σ H _ us Q I r ⟨a, ns, rfl, hs, q⟩
  · obtain ⟨its, rv, ht, _⟩ := I.tuple hs
    rw [Vals.ref1 r]
    have hi := rv.ints
    obtain ⟨xs, e⟩ := hi.allInts.items
    have hn : numsOf (intItems xs).toList = ns := by rw [← e]; exact hi.numsOf
    rw [nums_intItems] at hn
    rw [e] at ht
    refine PySem.W.ktm_sumG (I.ok.hd hc) ht fun h' tk t' hk => ?_
    rw [preSum_eq, List.take_of_length_le (by simp), hn]
    exact ⟨.int _, H, I.kept hk, ⟨_, rfl⟩, q⟩
def gSum (xs : List Dv) (s : Sto) : Rs Dv := match xs with
  | [x] => match (seqOf s x).bind intsOf with | some a => .ok (.int a.sum) s | none => .bad
  | _ => .bad
theorem cz_sum {K : PySem.W.Frag} : CallZ K (rSumA K) gSum := by
  intro B H s xs vs d s' Q S r h q
  unfold gSum at h
  split at h
  · split at h
    · rename_i ns e1
      cases h
      obtain ⟨ds, e2, e3⟩ := Option.bind_eq_some_iff.mp e1
      cases r with
      | cons r1 rr =>
        cases rr
        obtain ⟨a, us, rfl, hq, r2⟩ := seq_of S r1 e2
        have := ints_rp r2 e3
        subst this
        exact ⟨a, ns, rfl, hq, q.same S (.int _)⟩
    · cases h
  · cases h
def gExt1 (le : Int → Int → Bool) (xs : List Dv) (s : Sto) : Rs Dv := match xs with
  | [x] => match (seqOf s x).bind intsOf with
    | some (n :: r) => Rs.iff (isL x s) (.ok (.int (r.foldl (fun a b => if le a b = true then a else b) n)) s)
    | _ => .bad
  | _ => .bad
theorem fold_ext (le : Int → Int → Bool) (hr : ∀ a, le a a = true) (ht : ∀ a b c, le a b = true → le b c = true → le a c = true) (hl : ∀ a b, le a b = false → le b a = true) : ∀ (r : List Int) (n : Int), (r.foldl (fun a b => if le a b = true then a else b) n) ∈ n :: r ∧ ∀ y ∈ n :: r, le (r.foldl (fun a b => if le a b = true then a else b) n) y = true
  | [], n => ⟨List.mem_cons_self, fun y hy => by rw [List.mem_singleton.mp hy]; exact hr n⟩
  | b :: r, n => by
    rw [List.foldl_cons]
    cases e : le n b with
    | true =>
      rw [if_pos rfl]
      obtain ⟨h1, h2⟩ := fold_ext le hr ht hl r n
      refine ⟨?_, fun y hy => ?_⟩
      · rcases List.mem_cons.mp h1 with z | z
        · rw [z]; exact List.mem_cons_self
        · exact List.mem_cons_of_mem _ (List.mem_cons_of_mem _ z)
      · rcases List.mem_cons.mp hy with z | z
        · rw [z]; exact h2 n List.mem_cons_self
        · rcases List.mem_cons.mp z with z | z
          · rw [z]; exact ht _ _ _ (h2 n List.mem_cons_self) e
          · exact h2 y (List.mem_cons_of_mem _ z)
    | false =>
      rw [if_neg Bool.false_ne_true]
      obtain ⟨h1, h2⟩ := fold_ext le hr ht hl r b
      refine ⟨List.mem_cons_of_mem _ h1, fun y hy => ?_⟩
      rcases List.mem_cons.mp hy with z | z
      · rw [z]; exact ht _ _ _ (h2 b List.mem_cons_self) (hl _ _ e)
      · exact h2 y z
theorem cz_max1 {K : PySem.W.Frag} : CallZ K (rMax K) (gExt1 fun a b => decide (b ≤ a)) := by
  intro B H s xs vs d s' Q S r h q
  unfold gExt1 at h
  split at h
  · split at h
    · rename_i n rest e1
      obtain ⟨h1, h⟩ := Rs.iff_ok h
      cases h
      obtain ⟨ds, e2, e3⟩ := Option.bind_eq_some_iff.mp e1
      cases r with
      | cons r1 rr =>
        cases rr
        obtain ⟨a, us, rfl, hq, r2⟩ := seqL_of S r1 h1 e2
        have := ints_rp r2 e3
        subst this
        obtain ⟨f1, f2⟩ := fold_ext (fun a b => decide (b ≤ a)) (fun a => by simp) (fun a b c h1 h2 => by simp at *; omega) (fun a b h => by simp at *; omega) rest n
        refine ⟨a, n :: rest, rfl, hq, by simp, fun m hm hle => ?_⟩
        have e : m = rest.foldl (fun a b => if decide (b ≤ a) = true then a else b) n := by
          have g1 := hle _ f1
          have g2 := of_decide_eq_true (f2 m hm)
          omega
        rw [e]; exact q.same S (.int _)
    · cases h
  · cases h
theorem cz_min1 {K : PySem.W.Frag} : CallZ K (rMin K) (gExt1 fun a b => decide (a ≤ b)) := by
  intro B H s xs vs d s' Q S r h q
  unfold gExt1 at h
  split at h
  · split at h
    · rename_i n rest e1
      obtain ⟨h1, h⟩ := Rs.iff_ok h
      cases h
      obtain ⟨ds, e2, e3⟩ := Option.bind_eq_some_iff.mp e1
      cases r with
      | cons r1 rr =>
        cases rr
        obtain ⟨a, us, rfl, hq, r2⟩ := seqL_of S r1 h1 e2
        have := ints_rp r2 e3
        subst this
        obtain ⟨f1, f2⟩ := fold_ext (fun a b => decide (a ≤ b)) (fun a => by simp) (fun a b c h1 h2 => by simp at *; omega) (fun a b h => by simp at *; omega) rest n
        refine ⟨a, n :: rest, rfl, hq, by simp, fun m hm hle => ?_⟩
        have e : m = rest.foldl (fun a b => if decide (a ≤ b) = true then a else b) n := by
          have g1 := hle _ f1
          have g2 := of_decide_eq_true (f2 m hm)
          omega
        rw [e]; exact q.same S (.int _)
    · cases h
  · cases h
section
variable {G : Gz} {bs : List Str} {k : Nat} {X : Cx} {N : List Str} {nm : List (Str × NameKind)} {ow : Str → Bool} {a b e : Expr} {fa fb fc : Fn Dv} {fs : Fn (List Dv)} {pos p : Pos}
theorem z_sum (c : Cz G bs k X N nm ow) (ha : ZA X [e] fs) (hb : bOk bs nm "sum" = true := by decide +kernel) (he : starEach [e] X.env = (false, eval e X.env) :: starEach [] X.env := by rfl) : ZE X (.Call (.Name "sum" p) [e] [] pos) (fCall gSum fs) :=
  z_callB c (cr_sumA c.calm) cz_sum ha (by decide +kernel) hb (by decide +kernel) (by decide +kernel) he rfl
theorem z_max1 (c : Cz G bs k X N nm ow) (ha : ZA X [e] fs) (hb : bOk bs nm "max" = true := by decide +kernel) (he : starEach [e] X.env = (false, eval e X.env) :: starEach [] X.env := by rfl) : ZE X (.Call (.Name "max" p) [e] [] pos) (fCall (gExt1 fun a b => decide (b ≤ a)) fs) :=
  z_callB c (cr_max c.calm) cz_max1 ha (by decide +kernel) hb (by decide +kernel) (by decide +kernel) he rfl
theorem z_min1 (c : Cz G bs k X N nm ow) (ha : ZA X [e] fs) (hb : bOk bs nm "min" = true := by decide +kernel) (he : starEach [e] X.env = (false, eval e X.env) :: starEach [] X.env := by rfl) : ZE X (.Call (.Name "min" p) [e] [] pos) (fCall (gExt1 fun a b => decide (a ≤ b)) fs) :=
  z_callB c (cr_min c.calm) cz_min1 ha (by decide +kernel) hb (by decide +kernel) (by decide +kernel) he rfl
end
end Z

namespace Z
open PySem PySem.Spec PyProof.Rows L2

/-! ### int(x), abs(x) -/
def gToInt (xs : List Dv) (s : Sto) : Rs Dv := match xs with
  | [.int i] => .ok (.int i) s
  | [.bl b] => .ok (.int (if b = true then 1 else 0)) s
  | _ => .bad
theorem cr_toInt {X : Cx} : CallR X (.type "int") (fun xs H Q => (∃ i, xs = [.int i] ∧ Q (.int i) H) ∨ ∃ b, xs = [.bl b] ∧ Q (.int (if b = true then 1 else 0)) H) := by
  intro pins s σ H xs us Q I r h
  rcases h with ⟨i, rfl, q⟩ | ⟨b, rfl, q⟩
  · obtain ⟨u, rfl, t, rfl⟩ := Vals.one r
    exact PySem.call_int_int ⟨.int i, H, I, ⟨_, rfl⟩, q⟩
  · obtain ⟨u, rfl, rx⟩ := Vals.one r
    obtain rfl : u = Value.bool b := rx
    exact PySem.call_int_bool ⟨.int _, H, I.tok _, ⟨_, rfl⟩, q⟩
theorem cz_toInt {K : PySem.W.Frag} : CallZ K (fun xs H Q => (∃ i, xs = [.int i] ∧ Q (.int i) H) ∨ ∃ b, xs = [.bl b] ∧ Q (.int (if b = true then 1 else 0)) H) gToInt := by
  intro B H s xs vs d s' Q S r h q
  unfold gToInt at h
  split at h
  · cases h
    cases r with
    | cons r1 rr => cases r1; cases rr; exact .inl ⟨_, rfl, q.same S (.int _)⟩
  · cases h
    cases r with
    | cons r1 rr => cases r1; cases rr; exact .inr ⟨_, rfl, q.same S (.int _)⟩
  · cases h
def gAbs (xs : List Dv) (s : Sto) : Rs Dv := match xs with
  | [.int i] => .ok (.int (if i < 0 then -i else i)) s
  | _ => .bad
theorem cz_abs {K : PySem.W.Frag} : CallZ K (fun xs H Q => ∃ i, xs = [.int i] ∧ Q (.int (if i < 0 then -i else i)) H) gAbs := by
  intro B H s xs vs d s' Q S r h q
  unfold gAbs at h
  split at h
  · cases h
    cases r with
    | cons r1 rr => cases r1; cases rr; exact ⟨_, rfl, q.same S (.int _)⟩
  · cases h
section
variable {G : Gz} {bs : List Str} {k : Nat} {X : Cx} {N : List Str} {nm : List (Str × NameKind)} {ow : Str → Bool} {a b e : Expr} {es : List Expr} {fa fb fc : Fn Dv} {fs gs : Fn (List Dv)} {pos p kpos : Pos} {x : Str} {n : Nat} {φ : Phi}
theorem z_toint (c : Cz G bs k X N nm ow) (ha : ZA X [e] fs) (hb : bOk bs nm "int" = true := by decide +kernel) (he : starEach [e] X.env = (false, eval e X.env) :: starEach [] X.env := by rfl) : ZE X (.Call (.Name "int" p) [e] [] pos) (fCall gToInt fs) :=
  z_callTy c cr_toInt cz_toInt ha (by decide +kernel) hb (by decide +kernel) (by decide +kernel) he rfl
theorem z_abs (c : Cz G bs k X N nm ow) (ha : ZA X [e] fs) (hb : bOk bs nm "abs" = true := by decide +kernel) (he : starEach [e] X.env = (false, eval e X.env) :: starEach [] X.env := by rfl) : ZE X (.Call (.Name "abs" p) [e] [] pos) (fCall gAbs fs) :=
  z_callB c call_abs cz_abs ha (by decide +kernel) hb (by decide +kernel) (by decide +kernel) he rfl

/-! ### defs with defaults, calls with keywords -/
/-- the def x of the module, its parameters' names told: dvs are the defaults of its last ones -/
structure Fd (G : Gz) (k : Nat) (x : Str) (n : Nat) (φ : Phi) (f : Addr) (fd : FuncData) (ps : List Str) : Prop where
  len : ∀ ds s d s', φ ds s = .ok d s' → ds.length = n
  mg : G.mg x = some (.ref f)
  kp : PySem.W.keepIn G.K (.ref f) = true
  hn : ps.length = n
  run : FnZ G k f fd ps (spZ G.K n φ)
theorem Fd.mono {G : Gz} {j k : Nat} {x : Str} {n : Nat} {φ : Phi} {f : Addr} {fd : FuncData} {ps : List Str} (F : Fd G j x n φ f fd ps) (h : j ≤ k) : Fd G k x n φ f fd ps := ⟨F.len, F.mg, F.kp, F.hn, F.run.mono h⟩
theorem Fd.fz {G : Gz} {k : Nat} {x : Str} {n : Nat} {φ : Phi} {f : Addr} {fd : FuncData} {ps : List Str} (F : Fd G k x n φ f fd ps) (b : Binds G.K fd ps []) : Fz G k x n φ := ⟨F.len, f, fd, ps, F.mg, F.kp, b, F.hn, F.run⟩
/-- constants as defaults -/
def cV : Dv → Option V
  | .non => some .non
  | .bl b => some (.bl b)
  | .int i => some (.int i)
  | .str z => some (.str z)
  | _ => none
theorem cV_rp {K : PySem.W.Frag} {B : Lo} {H : Hp} : ∀ {ds : List Dv} {vs : List V}, ds.mapM cV = some vs → Rps K B H ds vs
  | [], vs, h => by simp at h; subst h; exact .nil
  | d :: ds, vs, h => by
    obtain ⟨y, t, h1, h2, rfl⟩ := mapM_cons_some h
    refine .cons ?_ (cV_rp h2)
    cases d <;> cases h1
    · exact .non
    · exact .bl _
    · exact .int _
    · exact .str _
theorem run_fnD (c : Cz G bs k X N nm ow) {f : Addr} {fd : FuncData} {ps : List Str} {ds : List Value} (hb : Binds G.K fd ps ds) (hn : ps.length = n) (F : FnZ G k f fd ps (spZ G.K n φ)) {pins : List (Addr × Obj)} {σ : L2.St} {H : Hp} {s : Shared} {Q : VK} {us : List Value} {vs dvs : List V}
    (I : Inv X pins σ H s) (r : Vals vs us) (rd : Vals dvs ds) (h : spZ X.K n φ (vs ++ dvs) H Q E0) : wpAny (model X.prog X.w) X.A (call (.ref f) us) (EP X pins σ Q) X.xe s := by
  have hl : (us ++ ds).length = ps.length := by
    have := h.1
    rw [List.length_append] at this
    rw [List.length_append, ← r.length, ← rd.length, this, hn]
  have hbind := hb s us (by rw [← c.gK]; exact I.kIn) hl
  have e0 := I.env0
  rw [c.gp, c.gw, c.gK, c.gm, c.gb] at e0
  rw [c.gK] at h
  have run := F.run X.A X.stack s H ⟨us, []⟩ (us ++ ds) (vs ++ dvs) Q c.gd c.rm e0 hbind (r.append rd) h
  rw [← c.gp, ← c.gw] at run
  refine wpAny_call (codeAny_mono run fun r s' hq => ?_)
  cases r with
  | error e => exact False.elim hq
  | ok fl =>
    cases fl with
    | ret u => exact I.after hq
    | next => exact False.elim hq
    | brk => exact False.elim hq
    | cont => exact False.elim hq
def fCallD (φ : Phi) (ds : List Dv) (f : Fn (List Dv)) : Fn Dv := fun env s => (f env s).bind fun xs s1 => φ (xs ++ ds) s1
/-- x(e, ..), the last parameters by their defaults ds -/
theorem z_callD (c : Cz G bs k X N nm ow) {f : Addr} {fd : FuncData} {ps : List Str} (F : Fd G k x n φ f fd ps) {ds : List Dv} {dV : List V} {dL : List Value} (hd : ds.mapM cV = some dV) (rd : Vals dV dL) (hb : Binds G.K fd ps dL) (ha : ZA X (e :: es) fs) (hg : gOk nm x = true := by decide +kernel)
    (hdb : (x == ("__debug__" : Str)) = false := by decide +kernel) (he : starEach (e :: es) X.env = (false, eval e X.env) :: starEach es X.env := by rfl) (hpl : (backTo pos (starEach es X.env)).any (·.1) = false := by rfl) :
    ZE X (.Call (.Name x p) (e :: es) [] pos) (fCallD φ ds fs) := by
  refine ⟨fun pins s σ H Q I h => ?_⟩
  refine wpAny_Call_Name_kw (ld_glob I (c.gl hg) (by rw [c.gm]; exact F.mg) ?_ hdb)
  obtain ⟨B, env, st, d, st', hE, hS, hf, hQ⟩ := h
  obtain ⟨xs, st1, hf1, hf⟩ := Rs.bind_ok hf
  refine PySem.W.callWith_K (h₀ := X.base) I.ok.mod.kin (by rw [c.gK]; exact F.kp) (thn (ha.run pos pins s σ H (fun vs H1 => spZ X.K n φ (vs ++ dV) H1 Q E0) I ⟨B, env, st, xs, st1, hE, hS, hf1, fun B1 H1 vs x1 e1 S1 r1 => ?_⟩) fun us s1 ⟨vs, H1, I1, r, q⟩ => ⟨I1.kIn, ?_⟩) he hpl
  · have hl := F.len _ _ _ _ hf
    rw [List.length_append, r1.length, (cV_rp (K := X.K) (B := B1) (H := H1) hd).length, ← List.length_append] at hl
    exact ⟨hl, B1, xs ++ ds, st1, d, st', r1.append (cV_rp hd), S1, hf, fun B2 H2 v x2 e2 S2 r2 => hQ B2 H2 v (x1.trans x2) (e2.trans e1) S2 r2⟩
  · exact run_fnD c hb F.hn F.run I1 r rd q
/-- the values of keywords -/
abbrev ZK (X : Cx) (kws : List Keyword) (f : Fn (List Dv)) : Prop := PK X kws (tOfA X.K f)
theorem pk_mono {kws : List Keyword} {t t' : TA} (h : PK X kws t) (hh : ∀ σ H Q, t' σ H Q → t σ H Q) : PK X kws t' := ⟨fun pos pins s σ H Q I q => h.run pos pins s σ H Q I (hh _ _ _ q)⟩
theorem zk_nil : ZK X [] fNil := by
  refine pk_mono pk_nil fun σ H Q q => ?_
  obtain ⟨B, env, s, d', s', hE, hS, hf, hQ⟩ := q
  cases hf
  exact hQ B H [] (Ext.refl _ _) rfl hS .nil
theorem zk_cons {kw : Option Str} {kws : List Keyword} (ha : ZE X e fa) (hr : ZK X kws fs) : ZK X (⟨kw, e, kpos⟩ :: kws) (fCons fa fs) := by
  refine pk_mono (pk_cons ha hr) fun σ H Q q => ?_
  obtain ⟨B, env, s, d', s', hE, hS, hf, hQ⟩ := q
  obtain ⟨d, s1, h1, hf⟩ := Rs.bind_ok hf
  obtain ⟨ds, s2, h2, hf⟩ := Rs.bind_ok hf
  cases hf
  refine ⟨B, env, s, d, s1, hE, hS, h1, fun B1 H1 v x1 e1 S1 r1 => ?_⟩
  refine ⟨B1, env, s1, _, _, hE.mono x1.mo, S1, h2, fun B2 H2 vs x2 e2 S2 r2 => ?_⟩
  exact hQ B2 H2 _ (x1.trans x2) (e2.trans e1) S2 (.cons (r1.mono x2.mo) r2)
theorem run_fnK (c : Cz G bs k X N nm ow) {f : Addr} {fd : FuncData} {ps ks : List Str} {m : Nat} (hb : KBn G.K fd ps m ks (fun us ws => us ++ ws) (fun vs zs => vs ++ zs)) (hn : ps.length = n) (F : FnZ G k f fd ps (spZ G.K n φ)) {pins : List (Addr × Obj)} {σ : L2.St} {H : Hp} {s : Shared} {Q : VK} {us ws : List Value} {vs zs : List V}
    (hm : vs.length = m) (hk : zs.length = ks.length) (I : Inv X pins σ H s) (r : Vals vs us) (rz : Vals zs ws) (h : spZ X.K n φ (vs ++ zs) H Q E0) : wpAny (model X.prog X.w) X.A (call (.ref f) us (ks.zip ws)) (EP X pins σ Q) X.xe s := by
  have hbind := hb.to s us ws (by rw [← c.gK]; exact I.kIn) (by rw [← r.length]; exact hm) (by rw [← rz.length]; exact hk)
  have e0 := I.env0
  rw [c.gp, c.gw, c.gK, c.gm, c.gb] at e0
  rw [c.gK] at h
  have run := F.run X.A X.stack s H ⟨us, ks.zip ws⟩ (us ++ ws) (vs ++ zs) Q c.gd c.rm e0 hbind (r.append rz) h
  rw [← c.gp, ← c.gw] at run
  refine wpAny_call (codeAny_mono run fun r s' hq => ?_)
  cases r with
  | error e => exact False.elim hq
  | ok fl =>
    cases fl with
    | ret u => exact I.after hq
    | next => exact False.elim hq
    | brk => exact False.elim hq
    | cont => exact False.elim hq
def fCallK (φ : Phi) (m j : Nat) (f g : Fn (List Dv)) : Fn Dv := fun env s => (f env s).bind fun xs s1 => (g env s1).bind fun zs s2 => Rs.iff (xs.length == m && zs.length == j) (φ (xs ++ zs) s2)
/-- x(e, .., k = v, ..): the first m by their places, the others by their names, in their order -/
theorem z_callK {kws : List Keyword} (c : Cz G bs k X N nm ow) {f : Addr} {fd : FuncData} {ps ks : List Str} {m : Nat} (F : Fd G k x n φ f fd ps) (hb : KBn G.K fd ps m ks (fun us ws => us ++ ws) (fun vs zs => vs ++ zs)) (ha : ZA X (e :: es) fs) (hw : ZK X kws gs) (hg : gOk nm x = true := by decide +kernel)
    (hall : (backToKw pos (keywordEach kws X.env)).all (·.1.isSome) = true := by rfl) (hks : (backToKw pos (keywordEach kws X.env)).filterMap (·.1) = ks := by rfl)
    (hdb : (x == ("__debug__" : Str)) = false := by decide +kernel) (he : starEach (e :: es) X.env = (false, eval e X.env) :: starEach es X.env := by rfl)
    (hpl : ((backTo pos (starEach (e :: es) X.env)).any (·.1) || (backToKw pos (keywordEach kws X.env)).any (·.1.isNone)) = false := by rfl) :
    ZE X (.Call (.Name x p) (e :: es) kws pos) (fCallK φ m ks.length fs gs) := by
  refine ⟨fun pins s σ H Q I h => ?_⟩
  refine wpAny_Call_Name_kw (ld_glob I (c.gl hg) (by rw [c.gm]; exact F.mg) ?_ hdb)
  obtain ⟨B, env, st, d, st', hE, hS, hf, hQ⟩ := h
  obtain ⟨xs, st1, hf1, hf⟩ := Rs.bind_ok hf
  obtain ⟨zs, st2, hf2, hf⟩ := Rs.bind_ok hf
  obtain ⟨hl, hf⟩ := Rs.iff_ok hf
  rw [Bool.and_eq_true, beq_iff_eq, beq_iff_eq] at hl
  refine PySem.W.callWith_KW (h₀ := X.base) I.ok.mod.kin (by rw [c.gK]; exact F.kp) hall (thn (ha.run pos pins s σ H (fun vs H1 => vs.length = m ∧ tOfA X.K gs σ H1 fun ws H2 => ws.length = ks.length ∧ spZ X.K n φ (vs ++ ws) H2 Q E0) I ⟨B, env, st, xs, st1, hE, hS, hf1, fun B1 H1 vs x1 e1 S1 r1 => ?_⟩) fun us s1 ⟨vs, H1, I1, r, hvm, q⟩ => ?_) hpl he
  · refine ⟨by rw [← r1.length]; exact hl.1, B1, env, st1, zs, st2, hE.mono x1.mo, S1, hf2, fun B2 H2 ws x2 e2 S2 r2 => ?_⟩
    refine ⟨by rw [← r2.length]; exact hl.2, ?_⟩
    have hln := F.len _ _ _ _ hf
    rw [List.length_append, r1.length, r2.length, ← List.length_append] at hln
    exact ⟨hln, B2, xs ++ zs, st2, d, st', (r1.mono x2.mo).append r2, S2, hf, fun B3 H3 v x3 e3 S3 r3 => hQ B3 H3 v (x1.trans (x2.trans x3)) (e3.trans (e2.trans e1)) S3 r3⟩
  · refine thn (hw.run pos pins s1 σ H1 _ I1 q) fun ws s2 ⟨zs', H2, I2, rz, hz, q2⟩ => ⟨I2.kIn, ?_⟩
    rw [hks]
    exact run_fnK c hb F.hn F.run hvm hz I2 r rz q2
end
theorem z_fnD {G : Gz} {bs : List Str} {k : Nat} {x qual : Str} {st : Stmt} {f : Addr} {fd : FuncData} {N ps : List Str} {nm : List (Str × NameKind)} {body : Fn Ct} {dvs : List V} {kws : List (Str × V)} (F : FunD G.K x qual (defArgs st) (defBody st) (defScope st) dvs kws f fd) (S : FnScope N ps (defScope st)) (hnm : (defScope st).names = nm)
    (hbl : ∀ y ∈ bs, G.mg y = none) (hbody : ∀ X : Cx, Cz G bs k X N nm (fun _ => true) → ZB X (defBody st) body) : FnZ G (k + 1) f fd ps (spZ G.K ps.length (fDef ps.length N.length body)) := by
  obtain ⟨oc, od, dV, kV, doc, pm, an, cdv, ct, osl, rfl, lk, hcd, _, _⟩ := F.ex
  refine ⟨fun A outer s H args us vs Q hgd hr e0 hb r hsp => ?_⟩
  obtain ⟨hvl, B, ds, st0, d, st1, rd, S0, hf, hQ⟩ := hsp
  have KX : G.K.In s.heap := e0.mod.kin.keeps fun b o e => (e0.bs b o e).1
  have lim : s.heap.NoLimit := e0.mod.nolimit.keeps fun b o e => (e0.bs b o e).1
  have hkind : ∀ y ∈ ps.zip us, (defScope st).names.lookup y.1 = some .local ∨ ((defScope st).names.lookup y.1 = some .cell ∧ ((cellsFrom (s.heap.objs.size + 1) (defScope st).names []).lookup y.1).isSome = true) := fun ⟨n, v⟩ hy => by
    rcases S.par n (List.of_mem_zip hy).1 with q | q
    · exact .inl q
    · exact .inr ⟨q, PySem.W.cellsFrom_some _ _ _ (.inl q)⟩
  refine codeAny_call_function hr.depth (KX _ _ lk) rfl S.co S.gen rfl (PySem.W.codeRec_of KX hcd) (hb _ _ _ _ ?_)
  refine wpAny_newFunctionEnv_cells S.kind hkind fun env he s1 x1 => ?_
  subst he
  refine ⟨lim.keeps x1.toInCall.keep, codeAny_func ?_⟩
  obtain ⟨hdl, hf⟩ := Rs.iff_ok hf
  have hdl : ds.length = ps.length := beq_iff_eq.mp hdl
  obtain ⟨c, s2, hbd, hf⟩ := Rs.bind_ok hf
  have I0 := inv_start (CX := CX0) (E := E0) S hr.hd e0 hvl r x1
  have I : Inv (cxOf CX0 G.prog G.w G.K G.mg G.base N qual (defScope st) f cdv A outer s H E0).nox [] (start N vs) H s1 := I0.wish _
  have cz : Cz G bs k (cxOf CX0 G.prog G.w G.K G.mg G.base N qual (defScope st) f cdv A outer s H E0).nox N nm (fun _ => true) :=
    ⟨rfl, S.nd, S.kind, hnm, rfl, rfl, hr.deeper _, hgd, hbl, rfl, rfl, rfl, rfl, rfl, PassesOwn.never⟩
  have hz := (hbody _ cz).run [] s1 (start N vs) H { nx := fun _ H' => Q .non H', rt := Q } I ⟨B, _, st0, c, s2, start_rp (N := N) rd, S0, by rw [hdl]; exact hbd, ?_⟩
  · refine wpAny_mono hz (fun fl s' hs => ?_) fun _ _ z => False.elim z
    have fin : ∀ {σ' : L2.St} {H' : Hp} {v : V} {u : Value}, Inv (cxOf CX0 G.prog G.w G.K G.mg G.base N qual (defScope st) f cdv A outer s H E0).nox [] σ' H' s' → RelV v u → Q v H' → CE outer G.prog G.w H s Q u s' :=
      fun {σ' H' v u} J rv q => ⟨v, H', J.os, J.bare, J.base, J.hok, rv, q⟩
    cases fl with
    | ret u => obtain ⟨v, σ', H', J, rv, q⟩ := hs; exact fin J rv q
    | next => obtain ⟨σ', H', J, q⟩ := hs; exact fin (v := V.non) (u := Value.none) J rfl q
    | brk => obtain ⟨_, _, _, q⟩ := hs; exact False.elim q
    | cont => obtain ⟨_, _, _, q⟩ := hs; exact False.elim q
  · cases c with
    | next env => exact fun B' H' σ' x e S' _ => gc_ok S0 hf hQ B' H' .non x e S' .non
    | ret d' => exact fun B' H' v x e S' r => gc_ok S0 hf hQ B' H' v x e S' r
    | brk _ => cases hf
    | cont _ => cases hf
/-- a def with defaults, by its body -/
theorem fd_mk {G : Gz} {bs : List Str} {k n : Nat} {x qual : Str} {st : Stmt} {f : Addr} {fd : FuncData} {N ps : List Str} {nm : List (Str × NameKind)} {body : Fn Ct} {dvs : List V} {kws : List (Str × V)} (F : FunD G.K x qual (defArgs st) (defBody st) (defScope st) dvs kws f fd) (hm : G.mg x = some (.ref f)) (hn : ps.length = n) (S : FnScope N ps (defScope st)) (hnm : (defScope st).names = nm)
    (hbl : ∀ y ∈ bs, G.mg y = none) (hbody : ∀ X : Cx, Cz G bs k X N nm (fun _ => true) → ZB X (defBody st) body) : Fd G (k + 1) x n (fDef n N.length body) f fd ps := by
  subst hn
  exact ⟨fun ds s d s' h => beq_iff_eq.mp (Rs.iff_ok h).1, hm, F.kp, rfl, z_fnD F S hnm hbl hbody⟩
/-- a def's object, with a tuple of defaults -/
theorem funD_mk {K : PySem.W.Frag} {x qual : Str} {st : Stmt} {f T : Addr} {oc : Value} {od an dd : Option Addr} {osl sl : Array (Option Value)} {kV doc pm cdv ct tc : Value} {its : List Value} {dvs : List V} {m : Nat} (l : K.lookup f = some ⟨oc, od, .func (PySem.W.fnOf x qual (defArgs st) (defBody st) (defScope st) (.ref T) kV doc pm an cdv ct), osl⟩)
    (c : PySem.W.codeIn K cdv qual = true) (k : PySem.W.keepIn K (.ref f) = true) (lT : K.lookup T = some ⟨tc, dd, .seq its.toArray m, sl⟩) (hv : Vals dvs its) (hne : dvs ≠ []) :
    FunD K x qual (defArgs st) (defBody st) (defScope st) dvs [] f (PySem.W.fnOf x qual (defArgs st) (defBody st) (defScope st) (.ref T) kV doc pm an cdv ct) :=
  ⟨⟨oc, od, .ref T, kV, doc, pm, an, cdv, ct, osl, rfl, l, c, .inr ⟨hne, T, _, its, m, rfl, lT, rfl, hv⟩, .inl rfl⟩, k⟩
/-- a def's object without defaults -/
theorem funD_mk0 {K : PySem.W.Frag} {x qual : Str} {st : Stmt} {f : Addr} {fd : FuncData} (F : Fun K x qual st f fd) : FunD K x qual (defArgs st) (defBody st) (defScope st) [] [] f fd := by
  obtain ⟨oc, od, kV, doc, pm, an, cdv, ct, osl, rfl, lk, hcd⟩ := F.ex
  exact ⟨⟨oc, od, .none, kV, doc, pm, an, cdv, ct, osl, rfl, lk, hcd, .inl ⟨rfl, rfl⟩, .inl rfl⟩, F.kp⟩
/-- all given, the last by their names -/
theorem FunD_kb {K : PySem.W.Frag} {x qual : Str} {params : Arguments} {body : List Stmt} {scope : Scope} {dvs : List V} {f : Addr} {fd : FuncData} {ps : List Str} (F : FunD K x qual params body scope dvs [] f fd) (n : Nat) (ks : List Str) (hd : dvs ≠ [])
    (h : ∀ (T : Addr) (kV doc pm : Value) (an : Option Addr) (cdv ct : Value) (us its ws : List Value), us.length = n → its.length = dvs.length → ws.length = ks.length →
      ∃ k, bindArgs (PySem.W.fnOf x qual params body scope (.ref T) kV doc pm an cdv ct) ⟨us, ks.zip ws⟩ = seqItems? (.ref T) >>= k ∧ k (some its.toArray) = pure (ps.zip (us ++ ws))) : KBn K fd ps n ks (fun us ws => us ++ ws) (fun vs zs => vs ++ zs) := by
  obtain ⟨oc, od, dV, kV, doc, pm, an, cdv, ct, osl, rfl, lk, hcd, hD, hK⟩ := F.ex
  rcases hD with ⟨e, _⟩ | ⟨_, T, o, its, m, rfl, lT, oT, rT⟩
  · exact absurd e hd
  · refine ⟨fun s us ws X l1 l2 => ?_, fun r1 r2 => r1.append r2⟩
    obtain ⟨k, e1, e2⟩ := h T kV doc pm an cdv ct us its ws l1 rT.length.symm l2
    refine BindsTo.of_looks fun M => ?_
    rw [e1]
    exact looks_items X lT oT (.of_pure e2)
theorem FunD_kb0 {K : PySem.W.Frag} {x qual : Str} {params : Arguments} {body : List Stmt} {scope : Scope} {f : Addr} {fd : FuncData} {ps : List Str} (F : FunD K x qual params body scope [] [] f fd) (n : Nat) (ks : List Str)
    (h : ∀ (kV doc pm : Value) (an : Option Addr) (cdv ct : Value) (us ws : List Value), us.length = n → ws.length = ks.length →
      bindArgs (PySem.W.fnOf x qual params body scope .none kV doc pm an cdv ct) ⟨us, ks.zip ws⟩ = pure (ps.zip (us ++ ws))) : KBn K fd ps n ks (fun us ws => us ++ ws) (fun vs zs => vs ++ zs) := by
  obtain ⟨oc, od, dV, kV, doc, pm, an, cdv, ct, osl, rfl, lk, hcd, hD, hK⟩ := F.ex
  rcases hD with ⟨_, rfl⟩ | ⟨e, _⟩
  · exact ⟨fun s us ws X l1 l2 => .of_eq (h kV doc pm an cdv ct us ws l1 l2), fun r1 r2 => r1.append r2⟩
  · exact absurd rfl e
end Z

namespace Z
open PySem PySem.Spec PyProof.Rows L2

/-! ### text * int, tuple * int -/
def rMulS : R2 := fun x y H Q => ∃ z i, x = .str z ∧ y = .int i ∧ z.length ≤ 16 ∧ 0 ≤ i ∧ i ≤ 1000000 ∧ Q (.str (Txt.mul z i)) H
theorem op_mulS {X : Cx} : OpR X (binaryOp .Mult) rMulS := by
  intro pins s σ H x y v u Q I rx ry h
  obtain ⟨z, i, rfl, rfl, h1, h2, h3, q⟩ := h
  obtain ⟨t, rfl⟩ := rx
  obtain ⟨t', rfl⟩ := ry
  refine PySem.W.KXi.mul (n := z.length) rfl h1 (by omega) (by omega) fun t'' k _ _ => ?_
  exact ⟨.str _, H, I.tok k, ⟨_, rfl⟩, q⟩
def rMulT (K : PySem.W.Frag) : R2 := fun x y H Q => ∃ l k xs, x = .ref l ∧ y = .int k ∧ SqT K H l xs ∧ xs ≠ [] ∧ 2 ≤ k ∧ k ≤ 1000 ∧ xs.length ≤ 1000 ∧ ∀ p o, H p = none → o.dict = none → Q (.ref p) (upd H p (.frz o (.tup (List.replicate k.toNat xs).flatten)))
theorem op_mulT {X : Cx} : OpR X (binaryOp .Mult) (rMulT X.K) := by
  intro pins s σ H x y v u Q I rx ry h
  obtain ⟨l, k, xs, rfl, rfl, hT, hne, h1, h2, hz, q⟩ := h
  cases rx
  obtain ⟨t, rfl⟩ := ry
  obtain ⟨its, r, ⟨⟨cls, dd, data, sl⟩, ho, hc, n, hd⟩, hs⟩ := I.tuple hT
  simp only at hc hd
  subst hc hd
  have hle : its.length = xs.length := r.length.symm
  have hn : its ≠ [] := fun e => hne (by
    rw [e] at hle
    exact List.eq_nil_of_length_eq_zero hle.symm)
  have hi : its.toArray.isEmpty = false := by
    cases its with
    | nil => exact absurd rfl hn
    | cons a b => rfl
  have hsz0 : its.toArray.size = xs.length := by rw [List.size_toArray, hle]
  have hm : ((its.toArray.size : Nat) : Int) * k ≤ 1000000 := by
    rw [hsz0]
    have a1 : ((xs.length : Nat) : Int) * k ≤ 1000 * k := Int.mul_le_mul_of_nonneg_right (by omega) (by omega)
    omega
  have flen : (List.replicate k.toNat its).flatten.length ≤ sizeLine := by
    rw [PyProof.Rows.lm_len_rep_flat, hle, sizeLine_eq]
    have a1 : k.toNat * xs.length ≤ 1000 * 1000 := Nat.mul_le_mul (by omega) hz
    omega
  have c0 : (decide (k < -(2 ^ 63)) || decide (k ≥ 2 ^ 63)) = false := by
    rw [decide_eq_false (by omega), decide_eq_false (by omega)] <;> rfl
  have c1 : (its.toArray.isEmpty || k == 1) = false := by
    rw [hi, Bool.false_or]
    exact beq_eq_false_iff_ne.mpr (by omega)
  have c2 : (decide (k ≤ 0) || its.toArray.isEmpty) = false := by
    rw [hi, Bool.or_false]
    exact decide_eq_false (by omega)
  have c4 : Builtin.Tuple.tupleTooMany (((its.toArray.size : Nat) : Int) * k) = false := by
    unfold Builtin.Tuple.tupleTooMany
    rw [sizeLine_eq]
    exact decide_eq_false (by omega)
  refine wpAny_binaryOp_repeat_ref (T := "tuple") (U := "int") (by decide) ⟨_, ho, rfl⟩ (fun s' => typeIs_int s' k t) noFill_tuple_mul F.fills_int_mul F.slot_int_rmul repeat_tuple F.slot_int_index.lookup
    (call_meets F.slot_int_rmul (typeIs_int s k t) F.entry_int_rmul (F.args_int_rmul_2 _ _) (int_rmul_tuple k t l its.toArray n dd sl)
      ⟨ho, rfl, ⟨_, ho, rfl⟩, call_meets F.slot_tuple_mul ⟨_, ho, rfl⟩ F.entry_tuple_mul (F.args_tuple_mul_2 _ _) (tuple_mulW l its.toArray n dd sl k t c0 c1 c2 (by omega) c4 (by rw [size_rep, List.size_toArray]; exact flen)) ⟨ho, ?_⟩⟩)
  rw [size_rep]
  exact tupK_new (t' := s.toks) I (by rw [PyProof.Rows.lm_len_rep_flat, sizeLine_eq]; have a1 : k.toNat * xs.length ≤ 1000 * 1000 := Nat.mul_le_mul (by omega) hz; omega) (r.rep k.toNat) q
def gTimes (x y : Dv) (s : Sto) : Rs Dv := match x, y with
  | .int i, .int j => Rs.iff (cMul i j) (.ok (.int (i * j)) s)
  | .str z, .int i => Rs.iff (decide (z.length ≤ 16) && decide (0 ≤ i) && decide (i ≤ 1000000)) (.ok (.str (Txt.mul z i)) s)
  | .tup ds, .int k => Rs.iff (!ds.isEmpty && decide (2 ≤ k) && decide (k ≤ 1000) && decide (ds.length ≤ 1000)) (.ok (.tup (List.replicate k.toNat ds).flatten) s)
  | _, _ => .bad
theorem rps_rep {K : PySem.W.Frag} {B : Lo} {H : Hp} {ds : List Dv} {vs : List V} (r : Rps K B H ds vs) : ∀ n : Nat, Rps K B H (List.replicate n ds).flatten (List.replicate n vs).flatten
  | 0 => .nil
  | n + 1 => by
    rw [List.replicate_succ, List.replicate_succ, List.flatten_cons, List.flatten_cons]
    exact r.append (rps_rep r n)
def rTimes (K : PySem.W.Frag) : R2 := fun x y H Q => rI CMul (fun i j => .int (i * j)) x y H Q ∨ rMulS x y H Q ∨ rMulT K x y H Q
theorem op_times {X : Cx} : OpR X (binaryOp .Mult) (rTimes X.K) := OpR.or op_mul (OpR.or op_mulS op_mulT)
theorem oz_times {K : PySem.W.Frag} : OpZ K (rTimes K) gTimes := by
  intro B H s x y v w d s' Q S rx ry h q
  unfold gTimes at h
  split at h
  · exact .inl (oz_mul B H s _ _ v w d s' Q S rx ry h q)
  · obtain ⟨hc, h⟩ := Rs.iff_ok h
    simp only [Bool.and_eq_true, decide_eq_true_eq] at hc
    cases h
    cases rx; cases ry
    exact .inr (.inl ⟨_, _, rfl, rfl, hc.1.1, hc.1.2, hc.2, q.same S (.str _)⟩)
  · obtain ⟨hc, h⟩ := Rs.iff_ok h
    simp only [Bool.and_eq_true, decide_eq_true_eq] at hc
    obtain ⟨⟨⟨h1, h2⟩, h3⟩, h4⟩ := hc
    cases h
    cases ry
    cases rx with
    | tup h5 h6 =>
      refine .inr (.inr ⟨_, _, _, rfl, rfl, h5.sq, fun e => ?_, h2, h3, by rw [← h6.length]; exact h4, fun p o hp hd => new_tup S (rps_rep h6 _) q hp hd⟩)
      subst e
      cases h6
      simp at h1
  · cases h
section
variable {X : Cx} {a b : Expr} {fa fb : Fn Dv} {pos : Pos}
theorem z_times (ha : ZE X a fa) (hb : ZE X b fb) : ZE X (.BinOp a .Mult b pos) (fBin gTimes fa fb) := z_op op_times oz_times ha hb
end

/-! ### a def that leaves what it made -/
def fDefN (n m : Nat) (body : Fn Ct) (ds : List Dv) (s : Sto) : Rs Dv :=
  Rs.iff (ds.length == n) ((body (ds.map some ++ List.replicate (m - n) none) s).bind fun c s1 => match c with
    | .next _ => .ok .non s1
    | .ret d => .ok d s1
    | _ => .bad)
theorem z_fnN {G : Gz} {bs : List Str} {k : Nat} {x qual : Str} {st : Stmt} {f : Addr} {fd : FuncData} {N ps : List Str} {nm : List (Str × NameKind)} {body : Fn Ct} (F : Fun G.K x qual st f fd) (S : FnScope N ps (defScope st)) (hnm : (defScope st).names = nm)
    (hbl : ∀ y ∈ bs, G.mg y = none) (hbody : ∀ X : Cx, Cz G bs k X N nm (fun _ => true) → ZB X (defBody st) body) : FnZ G (k + 1) f fd ps (spZ G.K ps.length (fDefN ps.length N.length body)) := by
  obtain ⟨oc, od, kV, doc, pm, an, cdv, ct, osl, rfl, lk, hcd⟩ := F.ex
  refine ⟨fun A outer s H args us vs Q hgd hr e0 hb r hsp => ?_⟩
  obtain ⟨hvl, B, ds, st0, d, st1, rd, S0, hf, hQ⟩ := hsp
  have KX : G.K.In s.heap := e0.mod.kin.keeps fun b o e => (e0.bs b o e).1
  have lim : s.heap.NoLimit := e0.mod.nolimit.keeps fun b o e => (e0.bs b o e).1
  have hkind : ∀ y ∈ ps.zip us, (defScope st).names.lookup y.1 = some .local ∨ ((defScope st).names.lookup y.1 = some .cell ∧ ((cellsFrom (s.heap.objs.size + 1) (defScope st).names []).lookup y.1).isSome = true) := fun ⟨n, v⟩ hy => by
    rcases S.par n (List.of_mem_zip hy).1 with q | q
    · exact .inl q
    · exact .inr ⟨q, PySem.W.cellsFrom_some _ _ _ (.inl q)⟩
  refine codeAny_call_function hr.depth (KX _ _ lk) rfl S.co S.gen rfl (PySem.W.codeRec_of KX hcd) (hb _ _ _ _ ?_)
  refine wpAny_newFunctionEnv_cells S.kind hkind fun env he s1 x1 => ?_
  subst he
  refine ⟨lim.keeps x1.toInCall.keep, codeAny_func ?_⟩
  obtain ⟨hdl, hf⟩ := Rs.iff_ok hf
  have hdl : ds.length = ps.length := beq_iff_eq.mp hdl
  obtain ⟨c, s2, hbd, hf⟩ := Rs.bind_ok hf
  have I0 := inv_start (CX := CX0) (E := E0) S hr.hd e0 hvl r x1
  have I : Inv (cxOf CX0 G.prog G.w G.K G.mg G.base N qual (defScope st) f cdv A outer s H E0).nox [] (start N vs) H s1 := I0.wish _
  have cz : Cz G bs k (cxOf CX0 G.prog G.w G.K G.mg G.base N qual (defScope st) f cdv A outer s H E0).nox N nm (fun _ => true) :=
    ⟨rfl, S.nd, S.kind, hnm, rfl, rfl, hr.deeper _, hgd, hbl, rfl, rfl, rfl, rfl, rfl, PassesOwn.never⟩
  have hz := (hbody _ cz).run [] s1 (start N vs) H { nx := fun _ H' => Q .non H', rt := Q } I ⟨B, _, st0, c, s2, start_rp (N := N) rd, S0, by rw [hdl]; exact hbd, ?_⟩
  · refine wpAny_mono hz (fun fl s' hs => ?_) fun _ _ z => False.elim z
    have fin : ∀ {σ' : L2.St} {H' : Hp} {v : V} {u : Value}, Inv (cxOf CX0 G.prog G.w G.K G.mg G.base N qual (defScope st) f cdv A outer s H E0).nox [] σ' H' s' → RelV v u → Q v H' → CE outer G.prog G.w H s Q u s' :=
      fun {σ' H' v u} J rv q => ⟨v, H', J.os, J.bare, J.base, J.hok, rv, q⟩
    cases fl with
    | ret u => obtain ⟨v, σ', H', J, rv, q⟩ := hs; exact fin J rv q
    | next => obtain ⟨σ', H', J, q⟩ := hs; exact fin (v := V.non) (u := Value.none) J rfl q
    | brk => obtain ⟨_, _, _, q⟩ := hs; exact False.elim q
    | cont => obtain ⟨_, _, _, q⟩ := hs; exact False.elim q
  · cases c with
    | next env =>
      cases hf
      exact fun B' H' σ' x e S' _ => hQ B' H' .non x e S' .non
    | ret d' =>
      cases hf
      exact fun B' H' v x e S' r => hQ B' H' v x e S' r
    | brk _ => cases hf
    | cont _ => cases hf
theorem fz_mkN {G : Gz} {bs : List Str} {k n : Nat} {x qual : Str} {st : Stmt} {f : Addr} {fd : FuncData} {N ps : List Str} {nm : List (Str × NameKind)} {body : Fn Ct} (F : Fun G.K x qual st f fd) (hm : G.mg x = some (.ref f)) (hb : Binds G.K fd ps []) (hn : ps.length = n) (S : FnScope N ps (defScope st)) (hnm : (defScope st).names = nm)
    (hbl : ∀ y ∈ bs, G.mg y = none) (hbody : ∀ X : Cx, Cz G bs k X N nm (fun _ => true) → ZB X (defBody st) body) : Fz G (k + 1) x n (fDefN n N.length body) := by
  subst hn
  exact ⟨fun ds s d s' h => beq_iff_eq.mp (Rs.iff_ok h).1, f, fd, ps, hm, F.kp, hb, rfl, z_fnN F S hnm hbl hbody⟩
end Z

namespace Z
open PySem PySem.Spec PyProof.Rows L2

/-! ### plain laws: what a reading ends in -/
def Ok {α : Type} (r : Rs α) (P : α → Sto → Prop) : Prop := match r with
  | .ok a s => P a s
  | _ => False
theorem Ok.get {α : Type} {r : Rs α} {P : α → Sto → Prop} (h : Ok r P) : ∃ a s, r = .ok a s ∧ P a s := by
  cases r with
  | ok a s => exact ⟨a, s, rfl, h⟩
  | _ => exact False.elim h
theorem Ok.of {α : Type} {r : Rs α} {P : α → Sto → Prop} {a : α} {s : Sto} (h : r = .ok a s) (p : P a s) : Ok r P := by rw [h]; exact p
theorem Ok.mono {α : Type} {r : Rs α} {P Q : α → Sto → Prop} (h : Ok r P) (hh : ∀ a s, P a s → Q a s) : Ok r Q := by
  cases r with
  | ok a s => exact hh _ _ h
  | _ => exact h
section
variable {α β : Type} {a : α} {s : Sto} {P : α → Sto → Prop} {Q : β → Sto → Prop} {R : Ct → Sto → Prop} {T : Dv → Sto → Prop} {L : List Dv → Sto → Prop} {B : Bool → Sto → Prop} {env : En}
theorem ok_ok : Ok (.ok a s) P ↔ P a s := Iff.rfl
theorem ok_bind {r : Rs α} {f : α → Sto → Rs β} : Ok (r.bind f) Q ↔ Ok r (fun a s => Ok (f a s) Q) := by cases r <;> exact Iff.rfl
theorem ok_iff {c : Bool} {r : Rs α} : Ok (Rs.iff c r) P ↔ c = true ∧ Ok r P := by
  unfold Rs.iff
  split
  · rename_i h; exact ⟨fun x => ⟨h, x⟩, fun x => x.2⟩
  · rename_i h; exact ⟨fun x => False.elim x, fun x => absurd x.1 h⟩
def kDrop (env : En) (R : Ct → Sto → Prop) : Dv → Sto → Prop := fun d s1 => R (.next env) s1
theorem kDrop_ap {env : En} {R : Ct → Sto → Prop} {d : Dv} {s1 : Sto} : kDrop env R d s1 = (R (.next env) s1) := rfl
def kRet (R : Ct → Sto → Prop) : Dv → Sto → Prop := fun d s1 => R (.ret d) s1
theorem kRet_ap {R : Ct → Sto → Prop} {d : Dv} {s1 : Sto} : kRet R d s1 = (R (.ret d) s1) := rfl
def kSet (i : Nat) (env : En) (R : Ct → Sto → Prop) : Dv → Sto → Prop := fun d s1 => R (.next (env.set i (some d))) s1
theorem kSet_ap {i : Nat} {env : En} {R : Ct → Sto → Prop} {d : Dv} {s1 : Sto} : kSet i env R d s1 = (R (.next (env.set i (some d))) s1) := rfl
def kCons2 (d : Dv) (L : List Dv → Sto → Prop) : List Dv → Sto → Prop := fun ds s2 => L (d :: ds) s2
theorem kCons2_ap {d : Dv} {L : List Dv → Sto → Prop} {ds : List Dv} {s2 : Sto} : kCons2 d L ds s2 = (L (d :: ds) s2) := rfl
def kCons (g : Fn (List Dv)) (env : En) (L : List Dv → Sto → Prop) : Dv → Sto → Prop := fun d s1 => Ok (g env s1) (kCons2 d L)
theorem kCons_ap {g : Fn (List Dv)} {env : En} {L : List Dv → Sto → Prop} {d : Dv} {s1 : Sto} : kCons g env L d s1 = (Ok (g env s1) (kCons2 d L)) := rfl
def kTup (T : Dv → Sto → Prop) : List Dv → Sto → Prop := fun ds s1 => decide (ds.length ≤ 16777216) = true ∧ T (.tup ds) s1
theorem kTup_ap {T : Dv → Sto → Prop} {ds : List Dv} {s1 : Sto} : kTup T ds s1 = (decide (ds.length ≤ 16777216) = true ∧ T (.tup ds) s1) := rfl
def kLst (L : List Dv → Sto → Prop) : List Dv → Sto → Prop := fun ds s1 => decide (ds.length ≤ 16777216) = true ∧ L ds s1
theorem kLst_ap {L : List Dv → Sto → Prop} {ds : List Dv} {s1 : Sto} : kLst L ds s1 = (decide (ds.length ≤ 16777216) = true ∧ L ds s1) := rfl
def kVal (T : Dv → Sto → Prop) : List Dv → Sto → Prop := fun ds s1 => T (.ls ds) s1
theorem kVal_ap {T : Dv → Sto → Prop} {ds : List Dv} {s1 : Sto} : kVal T ds s1 = (T (.ls ds) s1) := rfl
def kNew (T : Dv → Sto → Prop) : List Dv → Sto → Prop := fun ds s1 => T (.loc s1.length) (s1 ++ [.lst ds])
theorem kNew_ap {T : Dv → Sto → Prop} {ds : List Dv} {s1 : Sto} : kNew T ds s1 = (T (.loc s1.length) (s1 ++ [.lst ds])) := rfl
def kBin2 (g : Dv → Dv → Sto → Rs Dv) (x : Dv) (T : Dv → Sto → Prop) : Dv → Sto → Prop := fun y s2 => Ok (g x y s2) T
theorem kBin2_ap {g : Dv → Dv → Sto → Rs Dv} {x : Dv} {T : Dv → Sto → Prop} {y : Dv} {s2 : Sto} : kBin2 g x T y s2 = (Ok (g x y s2) T) := rfl
def kBin (g : Dv → Dv → Sto → Rs Dv) (f2 : Fn Dv) (env : En) (T : Dv → Sto → Prop) : Dv → Sto → Prop := fun x s1 => Ok (f2 env s1) (kBin2 g x T)
theorem kBin_ap {g : Dv → Dv → Sto → Rs Dv} {f2 : Fn Dv} {env : En} {T : Dv → Sto → Prop} {x : Dv} {s1 : Sto} : kBin g f2 env T x s1 = (Ok (f2 env s1) (kBin2 g x T)) := rfl
def kUn (g : Dv → Sto → Rs Dv) (T : Dv → Sto → Prop) : Dv → Sto → Prop := fun x s1 => Ok (g x s1) T
theorem kUn_ap {g : Dv → Sto → Rs Dv} {T : Dv → Sto → Prop} {x : Dv} {s1 : Sto} : kUn g T x s1 = (Ok (g x s1) T) := rfl
def kCall (φ : Phi) (T : Dv → Sto → Prop) : List Dv → Sto → Prop := fun ds s1 => Ok (φ ds s1) T
theorem kCall_ap {φ : Phi} {T : Dv → Sto → Prop} {ds : List Dv} {s1 : Sto} : kCall φ T ds s1 = (Ok (φ ds s1) T) := rfl
def kCallL (φ : List Dv → Sto → Rs (List Dv)) (L : List Dv → Sto → Prop) : List Dv → Sto → Prop := fun ds s1 => Ok (φ ds s1) L
theorem kCallL_ap {φ : List Dv → Sto → Rs (List Dv)} {L : List Dv → Sto → Prop} {ds : List Dv} {s1 : Sto} : kCallL φ L ds s1 = (Ok (φ ds s1) L) := rfl
def kNotT (B : Bool → Sto → Prop) : Bool → Sto → Prop := fun b s1 => B (!b) s1
theorem kNotT_ap {B : Bool → Sto → Prop} {b : Bool} {s1 : Sto} : kNotT B b s1 = (B (!b) s1) := rfl
def kAndT (g : Fn Bool) (env : En) (B : Bool → Sto → Prop) : Bool → Sto → Prop := fun b s1 => if b = true then Ok (g env s1) B else B false s1
theorem kAndT_ap {g : Fn Bool} {env : En} {B : Bool → Sto → Prop} {b : Bool} {s1 : Sto} : kAndT g env B b s1 = (if b = true then Ok (g env s1) B else B false s1) := rfl
def kOrT (g : Fn Bool) (env : En) (B : Bool → Sto → Prop) : Bool → Sto → Prop := fun b s1 => if b = true then B true s1 else Ok (g env s1) B
theorem kOrT_ap {g : Fn Bool} {env : En} {B : Bool → Sto → Prop} {b : Bool} {s1 : Sto} : kOrT g env B b s1 = (if b = true then B true s1 else Ok (g env s1) B) := rfl
def kIf (f g : Fn Dv) (env : En) (T : Dv → Sto → Prop) : Bool → Sto → Prop := fun b s1 => if b = true then Ok (f env s1) T else Ok (g env s1) T
theorem kIf_ap {f g : Fn Dv} {env : En} {T : Dv → Sto → Prop} {b : Bool} {s1 : Sto} : kIf f g env T b s1 = (if b = true then Ok (f env s1) T else Ok (g env s1) T) := rfl
def kIfS (f g : Fn Ct) (env : En) (R : Ct → Sto → Prop) : Bool → Sto → Prop := fun b s1 => if b = true then Ok (f env s1) R else Ok (g env s1) R
theorem kIfS_ap {f g : Fn Ct} {env : En} {R : Ct → Sto → Prop} {b : Bool} {s1 : Sto} : kIfS f g env R b s1 = (if b = true then Ok (f env s1) R else Ok (g env s1) R) := rfl
def kAnd (g : Fn Dv) (env : En) (T : Dv → Sto → Prop) : Bool → Sto → Prop := fun b s1 => if b = true then Ok (g env s1) T else T (.bl false) s1
theorem kAnd_ap {g : Fn Dv} {env : En} {T : Dv → Sto → Prop} {b : Bool} {s1 : Sto} : kAnd g env T b s1 = (if b = true then Ok (g env s1) T else T (.bl false) s1) := rfl
def kOr (g : Fn Dv) (env : En) (T : Dv → Sto → Prop) : Bool → Sto → Prop := fun b s1 => if b = true then T (.bl true) s1 else Ok (g env s1) T
theorem kOr_ap {g : Fn Dv} {env : En} {T : Dv → Sto → Prop} {b : Bool} {s1 : Sto} : kOr g env T b s1 = (if b = true then T (.bl true) s1 else Ok (g env s1) T) := rfl
def kNot (T : Dv → Sto → Prop) : Bool → Sto → Prop := fun b s1 => T (.bl (!b)) s1
theorem kNot_ap {T : Dv → Sto → Prop} {b : Bool} {s1 : Sto} : kNot T b s1 = (T (.bl (!b)) s1) := rfl
def kMt2 (g : Dv → List Dv → Sto → Rs Dv) (x : Dv) (T : Dv → Sto → Prop) : List Dv → Sto → Prop := fun xs s2 => Ok (g x xs s2) T
theorem kMt2_ap {g : Dv → List Dv → Sto → Rs Dv} {x : Dv} {T : Dv → Sto → Prop} {xs : List Dv} {s2 : Sto} : kMt2 g x T xs s2 = (Ok (g x xs s2) T) := rfl
def kMt (ty : Dv → Sto → Bool) (g : Dv → List Dv → Sto → Rs Dv) (fs : Fn (List Dv)) (env : En) (T : Dv → Sto → Prop) : Dv → Sto → Prop := fun x s1 => ty x s1 = true ∧ Ok (fs env s1) (kMt2 g x T)
theorem kMt_ap {ty : Dv → Sto → Bool} {g : Dv → List Dv → Sto → Rs Dv} {fs : Fn (List Dv)} {env : En} {T : Dv → Sto → Prop} {x : Dv} {s1 : Sto} : kMt ty g fs env T x s1 = (ty x s1 = true ∧ Ok (fs env s1) (kMt2 g x T)) := rfl
def kPut4 (env : En) (R : Ct → Sto → Prop) : Unit → Sto → Prop := fun u s4 => R (.next env) s4
theorem kPut4_ap {env : En} {R : Ct → Sto → Prop} {u : Unit} {s4 : Sto} : kPut4 env R u s4 = (R (.next env) s4) := rfl
def kPut3 (x d : Dv) (env : En) (R : Ct → Sto → Prop) : Dv → Sto → Prop := fun y s3 => Ok (gPut x y d s3) (kPut4 env R)
theorem kPut3_ap {x d : Dv} {env : En} {R : Ct → Sto → Prop} {y : Dv} {s3 : Sto} : kPut3 x d env R y s3 = (Ok (gPut x y d s3) (kPut4 env R)) := rfl
def kPut2 (fi : Fn Dv) (d : Dv) (env : En) (R : Ct → Sto → Prop) : Dv → Sto → Prop := fun x s2 => Ok (fi env s2) (kPut3 x d env R)
theorem kPut2_ap {fi : Fn Dv} {d : Dv} {env : En} {R : Ct → Sto → Prop} {x : Dv} {s2 : Sto} : kPut2 fi d env R x s2 = (Ok (fi env s2) (kPut3 x d env R)) := rfl
def kPut (fo fi : Fn Dv) (env : En) (R : Ct → Sto → Prop) : Dv → Sto → Prop := fun d s1 => Ok (fo env s1) (kPut2 fi d env R)
theorem kPut_ap {fo fi : Fn Dv} {env : En} {R : Ct → Sto → Prop} {d : Dv} {s1 : Sto} : kPut fo fi env R d s1 = (Ok (fo env s1) (kPut2 fi d env R)) := rfl
def kExt2 (x : Dv) (T : Dv → Sto → Prop) : List Dv → Sto → Prop := fun es s2 => Ok (gExtend x [.ls es] s2) T
theorem kExt2_ap {x : Dv} {T : Dv → Sto → Prop} {es : List Dv} {s2 : Sto} : kExt2 x T es s2 = (Ok (gExtend x [.ls es] s2) T) := rfl
def kExt (fl : Fn (List Dv)) (env : En) (T : Dv → Sto → Prop) : Dv → Sto → Prop := fun x s1 => isL x s1 = true ∧ Ok (fl env s1) (kExt2 x T)
theorem kExt_ap {fl : Fn (List Dv)} {env : En} {T : Dv → Sto → Prop} {x : Dv} {s1 : Sto} : kExt fl env T x s1 = (isL x s1 = true ∧ Ok (fl env s1) (kExt2 x T)) := rfl
def kAsg2 (R : Ct → Sto → Prop) : En → Sto → Prop := fun env1 s2 => R (.next env1) s2
theorem kAsg2_ap {R : Ct → Sto → Prop} {env1 : En} {s2 : Sto} : kAsg2 R env1 s2 = (R (.next env1) s2) := rfl
def kAsg (g : Dv → Fn En) (env : En) (R : Ct → Sto → Prop) : Dv → Sto → Prop := fun d s1 => Ok (g d env s1) (kAsg2 R)
theorem kAsg_ap {g : Dv → Fn En} {env : En} {R : Ct → Sto → Prop} {d : Dv} {s1 : Sto} : kAsg g env R d s1 = (Ok (g d env s1) (kAsg2 R)) := rfl
def kFor (g : Dv → Fn En) (b : Fn Ct) (env : En) (R : Ct → Sto → Prop) : Src → Sto → Prop := fun src s1 => Ok (loopZ src.2 g b src.1 env s1) R
theorem kFor_ap {g : Dv → Fn En} {b : Fn Ct} {env : En} {R : Ct → Sto → Prop} {src : Src} {s1 : Sto} : kFor g b env R src s1 = (Ok (loopZ src.2 g b src.1 env s1) R) := rfl
def kLc (own : List Nat) (g : Dv → Fn En) (tt : Fn Bool) (te : Fn Dv) (env : En) (L : List Dv → Sto → Prop) : Src → Sto → Prop := fun src s1 => decide (src.1.length < 16777216) = true ∧ Ok (lcZ src.2 own g tt te src.1 env s1) L
theorem kLc_ap {own : List Nat} {g : Dv → Fn En} {tt : Fn Bool} {te : Fn Dv} {env : En} {L : List Dv → Sto → Prop} {src : Src} {s1 : Sto} : kLc own g tt te env L src s1 = (decide (src.1.length < 16777216) = true ∧ Ok (lcZ src.2 own g tt te src.1 env s1) L) := rfl
def kSl3 (x : Dv) (lo : Option Int) (T : Dv → Sto → Prop) : Option Int → Sto → Prop := fun hi s3 => Ok (gSl x lo hi s3) T
theorem kSl3_ap {x : Dv} {lo : Option Int} {T : Dv → Sto → Prop} {hi : Option Int} {s3 : Sto} : kSl3 x lo T hi s3 = (Ok (gSl x lo hi s3) T) := rfl
def kSl2 (x : Dv) (h : Fn (Option Int)) (env : En) (T : Dv → Sto → Prop) : Option Int → Sto → Prop := fun lo s2 => Ok (h env s2) (kSl3 x lo T)
theorem kSl2_ap {x : Dv} {h : Fn (Option Int)} {env : En} {T : Dv → Sto → Prop} {lo : Option Int} {s2 : Sto} : kSl2 x h env T lo s2 = (Ok (h env s2) (kSl3 x lo T)) := rfl
def kSl (l h : Fn (Option Int)) (env : En) (T : Dv → Sto → Prop) : Dv → Sto → Prop := fun x s1 => Ok (l env s1) (kSl2 x h env T)
theorem kSl_ap {l h : Fn (Option Int)} {env : En} {T : Dv → Sto → Prop} {x : Dv} {s1 : Sto} : kSl l h env T x s1 = (Ok (l env s1) (kSl2 x h env T)) := rfl
def kGs (h : List Dv → Fn En) (r : List Dv) (E : En → Sto → Prop) : En → Sto → Prop := fun env1 s1 => Ok (h r env1 s1) E
theorem kGs_ap {h : List Dv → Fn En} {r : List Dv} {E : En → Sto → Prop} {env1 : En} {s1 : Sto} : kGs h r E env1 s1 = (Ok (h r env1 s1) E) := rfl
/-- behind a statement -/
def sq (g : Fn Ct) (R : Ct → Sto → Prop) : Ct → Sto → Prop
  | .next e, s => Ok (g e s) R
  | c, s => R c s
theorem sq_next {g : Fn Ct} : sq g R (.next env) s = Ok (g env s) R := rfl
theorem sq_ret {g : Fn Ct} {d : Dv} : sq g R (.ret d) s = R (.ret d) s := rfl
theorem sq_brk {g : Fn Ct} : sq g R (.brk env) s = R (.brk env) s := rfl
theorem sq_cont {g : Fn Ct} : sq g R (.cont env) s = R (.cont env) s := rfl
theorem ok_seq {f g : Fn Ct} : Ok (fSeq f g env s) R ↔ Ok (f env s) (sq g R) := by
  unfold fSeq
  rw [ok_bind]
  cases f env s with
  | ok c s1 => cases c <;> exact Iff.rfl
  | _ => exact Iff.rfl
theorem ok_nop : Ok (fNop env s) R ↔ R (.next env) s := Iff.rfl
theorem ok_brk : Ok (fBrk env s) R ↔ R (.brk env) s := Iff.rfl
theorem ok_cont : Ok (fCont env s) R ↔ R (.cont env) s := Iff.rfl
theorem ok_drop {f : Fn Dv} : Ok (fDrop f env s) R ↔ Ok (f env s) (kDrop env R) := ok_bind
theorem ok_ret {f : Fn Dv} : Ok (fRet f env s) R ↔ Ok (f env s) (kRet R) := ok_bind
theorem ok_retN : Ok (fRetN env s) R ↔ R (.ret .non) s := Iff.rfl
theorem ok_set {i : Nat} {f : Fn Dv} : Ok (fSet i f env s) R ↔ Ok (f env s) (kSet i env R) := ok_bind
theorem ok_var {i : Nat} : Ok (fVar i env s) T ↔ ∃ d, env[i]? = some (some d) ∧ T d s := by
  unfold fVar
  split
  · rename_i d h; exact ⟨fun x => ⟨d, h, x⟩, fun ⟨e, h1, h2⟩ => by rw [h] at h1; cases h1; exact h2⟩
  · rename_i h; exact ⟨fun x => False.elim x, fun ⟨e, h1, h2⟩ => (h e h1).elim⟩
theorem ok_var0 {d : Dv} {r : En} : Ok (fVar 0 (some d :: r) s) T ↔ T d s := Iff.rfl
theorem ok_varS {i : Nat} {x : Option Dv} {r : En} : Ok (fVar (i + 1) (x :: r) s) T ↔ Ok (fVar i r s) T := by
  unfold fVar; simp only [List.getElem?_cons_succ]
theorem ok_c {d : Dv} : Ok (fC d env s) T ↔ T d s := Iff.rfl
theorem ok_nil : Ok (fNil env s) L ↔ L [] s := Iff.rfl
theorem ok_cons {f : Fn Dv} {g : Fn (List Dv)} : Ok (fCons f g env s) L ↔ Ok (f env s) (kCons g env L) := by
  unfold fCons; rw [ok_bind]
  refine ⟨fun h => h.mono fun _ _ h => ok_bind.mp h, fun h => h.mono fun _ _ h => ok_bind.mpr h⟩
theorem ok_tup {f : Fn (List Dv)} : Ok (fTup f env s) T ↔ Ok (f env s) (kTup T) := by
  unfold fTup; rw [ok_bind]
  exact ⟨fun h => h.mono fun _ _ h => ok_iff.mp h, fun h => h.mono fun _ _ h => ok_iff.mpr h⟩
theorem ok_lst {f : Fn (List Dv)} : Ok (fLst f env s) L ↔ Ok (f env s) (kLst L) := by
  unfold fLst; rw [ok_bind]
  exact ⟨fun h => h.mono fun _ _ h => ok_iff.mp h, fun h => h.mono fun _ _ h => ok_iff.mpr h⟩
theorem ok_val {f : Fn (List Dv)} : Ok (fVal f env s) T ↔ Ok (f env s) (kVal T) := ok_bind
theorem ok_new {f : Fn (List Dv)} : Ok (fNew f env s) T ↔ Ok (f env s) (kNew T) := ok_bind
theorem ok_bin {g : Dv → Dv → Sto → Rs Dv} {f1 f2 : Fn Dv} : Ok (fBin g f1 f2 env s) T ↔ Ok (f1 env s) (kBin g f2 env T) := by
  unfold fBin; rw [ok_bind]
  refine ⟨fun h => h.mono fun _ _ h => ok_bind.mp h, fun h => h.mono fun _ _ h => ok_bind.mpr h⟩
theorem ok_un {g : Dv → Sto → Rs Dv} {f1 : Fn Dv} : Ok (fUn g f1 env s) T ↔ Ok (f1 env s) (kUn g T) := ok_bind
theorem ok_call {φ : Phi} {f : Fn (List Dv)} : Ok (fCall φ f env s) T ↔ Ok (f env s) (kCall φ T) := ok_bind
theorem ok_callL {φ : List Dv → Sto → Rs (List Dv)} {f : Fn (List Dv)} : Ok (fCallL φ f env s) L ↔ Ok (f env s) (kCallL φ L) := ok_bind
/-- a truth -/
def tst (B : Bool → Sto → Prop) : Dv → Sto → Prop
  | .bl b, s => B b s
  | _, _ => False
theorem tst_bl {b : Bool} : tst B (.bl b) s = B b s := rfl
theorem ok_test {f : Fn Dv} : Ok (fTest f env s) B ↔ Ok (f env s) (tst B) := by
  unfold fTest; rw [ok_bind]
  cases f env s with
  | ok c s1 => cases c <;> exact Iff.rfl
  | _ => exact Iff.rfl
theorem ok_notT {f : Fn Bool} : Ok (fNotT f env s) B ↔ Ok (f env s) (kNotT B) := ok_bind
theorem ok_andT {f g : Fn Bool} : Ok (fAndT f g env s) B ↔ Ok (f env s) (kAndT g env B) := by
  unfold fAndT; rw [ok_bind]
  refine ⟨fun h => h.mono fun b _ h => ?_, fun h => h.mono fun b _ h => ?_⟩ <;> cases b <;> exact h
theorem ok_orT {f g : Fn Bool} : Ok (fOrT f g env s) B ↔ Ok (f env s) (kOrT g env B) := by
  unfold fOrT; rw [ok_bind]
  refine ⟨fun h => h.mono fun b _ h => ?_, fun h => h.mono fun b _ h => ?_⟩ <;> cases b <;> exact h
theorem ok_if {t : Fn Bool} {f g : Fn Dv} : Ok (fIf t f g env s) T ↔ Ok (t env s) (kIf f g env T) := by
  unfold fIf; rw [ok_bind]
  refine ⟨fun h => h.mono fun b _ h => ?_, fun h => h.mono fun b _ h => ?_⟩ <;> cases b <;> exact h
theorem ok_ifS {t : Fn Bool} {f g : Fn Ct} : Ok (fIfS t f g env s) R ↔ Ok (t env s) (kIfS f g env R) := by
  unfold fIfS; rw [ok_bind]
  refine ⟨fun h => h.mono fun b _ h => ?_, fun h => h.mono fun b _ h => ?_⟩ <;> cases b <;> exact h
theorem ok_and {f g : Fn Dv} : Ok (fAnd f g env s) T ↔ Ok (fTest f env s) (kAnd g env T) := by
  unfold fAnd; rw [ok_bind]
  refine ⟨fun h => h.mono fun b _ h => ?_, fun h => h.mono fun b _ h => ?_⟩ <;> cases b <;> exact h
theorem ok_or {f g : Fn Dv} : Ok (fOr f g env s) T ↔ Ok (fTest f env s) (kOr g env T) := by
  unfold fOr; rw [ok_bind]
  refine ⟨fun h => h.mono fun b _ h => ?_, fun h => h.mono fun b _ h => ?_⟩ <;> cases b <;> exact h
theorem ok_not {f : Fn Dv} : Ok (fNot f env s) T ↔ Ok (fTest f env s) (kNot T) := ok_bind
theorem ok_mt {ty : Dv → Sto → Bool} {g : Dv → List Dv → Sto → Rs Dv} {fo : Fn Dv} {fs : Fn (List Dv)} : Ok (fMt ty g fo fs env s) T ↔ Ok (fo env s) (kMt ty g fs env T) := by
  unfold fMt; rw [ok_bind]
  refine ⟨fun h => h.mono fun _ _ h => ?_, fun h => h.mono fun _ _ h => ?_⟩
  · rw [ok_iff, ok_bind] at h; exact h
  · rw [ok_iff, ok_bind]; exact h
theorem ok_put {fo fi fv : Fn Dv} : Ok (fPut fo fi fv env s) R ↔ Ok (fv env s) (kPut fo fi env R) := by
  unfold fPut; rw [ok_bind]
  refine ⟨fun h => h.mono fun _ _ h => (ok_bind.mp h).mono fun _ _ h => (ok_bind.mp h).mono fun _ _ h => ok_bind.mp h, fun h => h.mono fun _ _ h => ok_bind.mpr (h.mono fun _ _ h => ok_bind.mpr (h.mono fun _ _ h => ok_bind.mpr h))⟩
theorem ok_extend {fo : Fn Dv} {fl : Fn (List Dv)} : Ok (fExtend fo fl env s) T ↔ Ok (fo env s) (kExt fl env T) := by
  unfold fExtend; rw [ok_bind]
  refine ⟨fun h => h.mono fun _ _ h => ?_, fun h => h.mono fun _ _ h => ?_⟩
  · rw [ok_iff, ok_bind] at h; exact h
  · rw [ok_iff, ok_bind]; exact h
/-- both hands of a parallel assignment -/
def pr2 (i j : Nat) (env : En) (R : Ct → Sto → Prop) : List Dv → Sto → Prop := fun ds s => match ds with
  | [d, e] => R (.next ((env.set i (some d)).set j (some e))) s
  | _ => False
theorem pr2_mk {i j : Nat} {d e : Dv} : pr2 i j env R [d, e] s = R (.next ((env.set i (some d)).set j (some e))) s := rfl
theorem ok_par2 {i j : Nat} {f : Fn (List Dv)} : Ok (fPar2 i j f env s) R ↔ Ok (f env s) (pr2 i j env R) := by
  unfold fPar2; rw [ok_bind]
  cases f env s with
  | ok ds s1 =>
    show Ok (match ds with | [d, e] => _ | _ => _) R ↔ pr2 i j env R ds s1
    unfold pr2
    split <;> exact Iff.rfl
  | _ => exact Iff.rfl
theorem ok_asg {f : Fn Dv} {g : Dv → Fn En} : Ok (fAsg f g env s) R ↔ Ok (f env s) (kAsg g env R) := by
  unfold fAsg; rw [ok_bind]
  refine ⟨fun h => h.mono fun _ _ h => ok_bind.mp h, fun h => h.mono fun _ _ h => ok_bind.mpr h⟩
theorem ok_for {fi : Fn Src} {g : Dv → Fn En} {b : Fn Ct} : Ok (fFor fi g b env s) R ↔ Ok (fi env s) (kFor g b env R) := ok_bind
theorem ok_lc {fi : Fn Src} {own : List Nat} {g : Dv → Fn En} {tt : Fn Bool} {te : Fn Dv} : Ok (fLc fi own g tt te env s) L ↔ Ok (fi env s) (kLc own g tt te env L) := by
  unfold fLc; rw [ok_bind]
  exact ⟨fun h => h.mono fun _ _ h => ok_iff.mp h, fun h => h.mono fun _ _ h => ok_iff.mpr h⟩
theorem ok_yes : Ok (fYes env s) B ↔ B true s := Iff.rfl
theorem ok_noPart {O : Option Int → Sto → Prop} : Ok (fNoPart env s) O ↔ O none s := Iff.rfl
def prt (O : Option Int → Sto → Prop) : Dv → Sto → Prop
  | .int i, s => O (some i) s
  | _, _ => False
theorem prt_int {O : Option Int → Sto → Prop} {i : Int} : prt O (.int i) s = O (some i) s := rfl
theorem ok_part {O : Option Int → Sto → Prop} {f : Fn Dv} : Ok (fPart f env s) O ↔ Ok (f env s) (prt O) := by
  unfold fPart; rw [ok_bind]
  cases f env s with
  | ok c s1 => cases c <;> exact Iff.rfl
  | _ => exact Iff.rfl
theorem ok_sl {f : Fn Dv} {l h : Fn (Option Int)} : Ok (fSl f l h env s) T ↔ Ok (f env s) (kSl l h env T) := by
  unfold fSl; rw [ok_bind]
  refine ⟨fun h => h.mono fun _ _ h => (ok_bind.mp h).mono fun _ _ h => ok_bind.mp h, fun h => h.mono fun _ _ h => ok_bind.mpr (h.mono fun _ _ h => ok_bind.mpr h)⟩
theorem ok_gNm {i : Nat} {d : Dv} {E : En → Sto → Prop} : Ok (gNm i d env s) E ↔ E (env.set i (some d)) s := Iff.rfl
theorem ok_gTp {n : Nat} {h : List Dv → Fn En} {ds : List Dv} {E : En → Sto → Prop} : Ok (gTp n h (.tup ds) env s) E ↔ (ds.length == n) = true ∧ Ok (h ds env s) E := ok_iff
theorem ok_gsN {E : En → Sto → Prop} : Ok (gsNil [] env s) E ↔ E env s := Iff.rfl
theorem ok_gsC {g : Dv → Fn En} {h : List Dv → Fn En} {d : Dv} {r : List Dv} {E : En → Sto → Prop} : Ok (gsCons g h (d :: r) env s) E ↔ Ok (g d env s) (kGs h r E) := ok_bind
/-- behind a range's bound -/
def rg1 (S : Src → Sto → Prop) : List Dv → Sto → Prop := fun ds s => match ds with
  | [.int j] => inRng j = true ∧ S (rngD 0 j.toNat, noChk) s
  | _ => False
def rg2 (S : Src → Sto → Prop) : List Dv → Sto → Prop := fun ds s => match ds with
  | [.int i, .int j] => (inRng i && inRng j) = true ∧ S (rngD i (j - i).toNat, noChk) s
  | _ => False
theorem rg1_mk {S : Src → Sto → Prop} {j : Int} : rg1 S [.int j] s = (inRng j = true ∧ S (rngD 0 j.toNat, noChk) s) := rfl
theorem rg2_mk {S : Src → Sto → Prop} {i j : Int} : rg2 S [.int i, .int j] s = ((inRng i && inRng j) = true ∧ S (rngD i (j - i).toNat, noChk) s) := rfl
theorem ok_rng1 {S : Src → Sto → Prop} {f : Fn (List Dv)} : Ok (fRng1 f env s) S ↔ Ok (f env s) (rg1 S) := by
  unfold fRng1; rw [ok_bind]
  cases f env s with
  | ok ds s1 =>
    show Ok (match ds with | [.int j] => _ | _ => _) S ↔ rg1 S ds s1
    unfold rg1
    split
    · exact ok_iff
    · exact Iff.rfl
  | _ => exact Iff.rfl
theorem ok_rng2 {S : Src → Sto → Prop} {f : Fn (List Dv)} : Ok (fRng2 f env s) S ↔ Ok (f env s) (rg2 S) := by
  unfold fRng2; rw [ok_bind]
  cases f env s with
  | ok ds s1 =>
    show Ok (match ds with | [.int i, .int j] => _ | _ => _) S ↔ rg2 S ds s1
    unfold rg2
    split
    · exact ok_iff
    · exact Iff.rfl
  | _ => exact Iff.rfl
def srcK (S : Src → Sto → Prop) : Dv → Sto → Prop := fun d s => match d with
  | .tup ds => S (ds, noChk) s
  | .ls ds => S (ds, noChk) s
  | .loc n => Ok (match s[n]? with | some (.lst ds) => .ok (ds, isLst n ds) s | _ => .bad) S
  | _ => False
theorem srcK_tup {S : Src → Sto → Prop} {ds : List Dv} : srcK S (.tup ds) s = S (ds, noChk) s := rfl
theorem srcK_ls {S : Src → Sto → Prop} {ds : List Dv} : srcK S (.ls ds) s = S (ds, noChk) s := rfl
theorem srcK_loc {S : Src → Sto → Prop} {n : Nat} {ds : List Dv} (h : s[n]? = some (.lst ds)) : srcK S (.loc n) s = S (ds, isLst n ds) s := by
  show Ok (match s[n]? with | some (.lst ds) => _ | _ => _) S = _
  rw [h]; rfl
theorem ok_src {S : Src → Sto → Prop} {f : Fn Dv} : Ok (fSrc f env s) S ↔ Ok (f env s) (srcK S) := by
  unfold fSrc; rw [ok_bind]
  cases f env s with
  | ok c s1 => cases c <;> exact Iff.rfl
  | _ => exact Iff.rfl

/-! ### loops by an invariant -/
theorem ok_loop {chk : Sto → Bool} {g : Dv → Fn En} {b : Fn Ct} {ds : List Dv} (I : Nat → En → Sto → Prop) (hc : ∀ i env s, I i env s → chk s = true)
    (step : ∀ i d env s, ds[i]? = some d → I i env s → Ok (g d env s) fun env1 s1 => Ok (b env1 s1) fun c s2 => match c with
      | .next e => I (i + 1) e s2
      | .cont e => I (i + 1) e s2
      | .brk e => R (.next e) s2
      | .ret r => R (.ret r) s2)
    (fin : ∀ env s, I ds.length env s → R (.next env) s) (h0 : I 0 env s) : Ok (loopZ chk g b ds env s) R := by
  have go : ∀ (l : List Dv) (i : Nat) (env : En) (s : Sto), ds.drop i = l → i + l.length = ds.length → I i env s → Ok (loopZ chk g b l env s) R := by
    intro l
    induction l with
    | nil =>
      intro i env s _ hl h
      show Ok (Rs.iff _ _) R
      rw [ok_iff]
      refine ⟨hc _ _ _ h, ?_⟩
      have : i = ds.length := by simpa using hl
      subst this
      exact fin _ _ h
    | cons d l ih =>
      intro i env s hd hl h
      show Ok (Rs.iff _ _) R
      rw [ok_iff, ok_bind]
      refine ⟨hc _ _ _ h, ?_⟩
      have hi : ds[i]? = some d := by
        have : (ds.drop i)[0]? = some d := by rw [hd]; rfl
        rwa [List.getElem?_drop, Nat.add_zero] at this
      refine (step i d env s hi h).mono fun env1 s1 h1 => ?_
      rw [ok_bind]
      refine h1.mono fun c s2 h2 => ?_
      have hd' : ds.drop (i + 1) = l := by
        rw [← List.drop_drop, hd]; rfl
      have hl' : i + 1 + l.length = ds.length := by rw [← hl, List.length_cons]; omega
      cases c with
      | next e => exact ih (i + 1) e s2 hd' hl' h2
      | cont e => exact ih (i + 1) e s2 hd' hl' h2
      | brk e => exact h2
      | ret r => exact h2
  exact go ds 0 env s rfl (by simp) h0
theorem ok_lcI {chk : Sto → Bool} {own : List Nat} {g : Dv → Fn En} {tt : Fn Bool} {te : Fn Dv} {ds : List Dv} (I : Nat → List Dv → Sto → Prop) (hc : ∀ i acc s, I i acc s → chk s = true)
    (step : ∀ i d acc s, ds[i]? = some d → I i acc s → Ok (g d (wipeZ env own) s) fun env1 s1 => Ok (tt env1 s1) fun b s2 => if b = true then Ok (te env1 s2) fun y s3 => I (i + 1) (acc ++ [y]) s3 else I (i + 1) acc s2)
    (fin : ∀ acc s, I ds.length acc s → L acc s) (h0 : I 0 [] s) : Ok (lcZ chk own g tt te ds env s) L := by
  have go : ∀ (l : List Dv) (i : Nat) (acc : List Dv) (s : Sto), ds.drop i = l → i + l.length = ds.length → I i acc s → Ok (lcZ chk own g tt te l env s) fun ys s => L (acc ++ ys) s := by
    intro l
    induction l with
    | nil =>
      intro i acc s _ hl h
      show Ok (Rs.iff _ _) _
      rw [ok_iff]
      refine ⟨hc _ _ _ h, ?_⟩
      have : i = ds.length := by simpa using hl
      subst this
      show L (acc ++ []) s
      rw [List.append_nil]; exact fin _ _ h
    | cons d l ih =>
      intro i acc s hd hl h
      show Ok (Rs.iff _ _) _
      rw [ok_iff, ok_bind]
      refine ⟨hc _ _ _ h, ?_⟩
      have hi : ds[i]? = some d := by
        have : (ds.drop i)[0]? = some d := by rw [hd]; rfl
        rwa [List.getElem?_drop, Nat.add_zero] at this
      refine (step i d acc s hi h).mono fun env1 s1 h1 => ?_
      rw [ok_bind]
      refine h1.mono fun c s2 h2 => ?_
      have hd' : ds.drop (i + 1) = l := by
        rw [← List.drop_drop, hd]; rfl
      have hl' : i + 1 + l.length = ds.length := by rw [← hl, List.length_cons]; omega
      cases c with
      | true =>
        rw [if_pos rfl] at h2 ⊢
        rw [ok_bind]
        refine h2.mono fun y s3 h3 => ?_
        rw [ok_bind]
        refine (ih (i + 1) _ s3 hd' hl' h3).mono fun ys s4 h4 => ?_
        show L (acc ++ (y :: ys)) s4
        have e : acc ++ [y] ++ ys = acc ++ (y :: ys) := by rw [List.append_assoc]; rfl
        rw [← e]; exact h4
      | false =>
        rw [if_neg Bool.false_ne_true] at h2 ⊢
        exact ih (i + 1) acc s2 hd' hl' h2
  exact (go ds 0 [] s rfl (by simp) h0).mono fun ys s h => by simpa using h

/-! ### defs -/
def finK (b : Nat) (T : Dv → Sto → Prop) : Ct → Sto → Prop
  | .next _, s => Ok (gcZ b .non s) T
  | .ret d, s => Ok (gcZ b d s) T
  | _, _ => False
theorem finK_next {b : Nat} : finK b T (.next env) s = Ok (gcZ b .non s) T := rfl
theorem finK_ret {b : Nat} {d : Dv} : finK b T (.ret d) s = Ok (gcZ b d s) T := rfl
theorem ok_def {n m : Nat} {body : Fn Ct} {ds : List Dv} : Ok (fDef n m body ds s) T ↔ (ds.length == n) = true ∧ Ok (body (ds.map some ++ List.replicate (m - n) none) s) (finK s.length T) := by
  unfold fDef
  rw [ok_iff, ok_bind]
  refine and_congr_right fun _ => ?_
  cases body (ds.map some ++ List.replicate (m - n) none) s with
  | ok c s1 => cases c <;> exact Iff.rfl
  | _ => exact Iff.rfl
mutual
theorem below_mono {a b : Nat} (h : a ≤ b) : ∀ {d : Dv}, below a d = true → below b d = true
  | .tup ds, e => by simp only [below] at e ⊢; exact belows_mono h e
  | .ls ds, e => by simp only [below] at e ⊢; exact belows_mono h e
  | .loc n, e => by simp only [below, decide_eq_true_eq] at e ⊢; omega
  | .non, _ => rfl
  | .bl _, _ => rfl
  | .int _, _ => rfl
  | .str _, _ => rfl
theorem belows_mono {a b : Nat} (h : a ≤ b) : ∀ {ds : List Dv}, belows a ds = true → belows b ds = true
  | [], _ => rfl
  | d :: r, e => by
    simp only [belows, Bool.and_eq_true] at e ⊢
    exact ⟨below_mono h e.1, belows_mono h e.2⟩
end
theorem belowO_mono {a b : Nat} (h : a ≤ b) {o : Ob} (e : belowO a o = true) : belowO b o = true := by
  cases o with
  | lst ds => exact belows_mono h e
  | dk kvs => exact List.all_eq_true.mpr fun p hp => below_mono h (List.all_eq_true.mp e p hp)
  | dt kvs => exact List.all_eq_true.mpr fun p hp => below_mono h (List.all_eq_true.mp e p hp)
/-- nothing of the store is named in what lies in the store -/
def Fl (s : Sto) : Prop := ∀ o ∈ s, belowO 0 o = true
theorem ok_gc {b l : Sto} {n : Nat} {d : Dv} (hn : b.length = n) (hb : Fl b) (hd : below n d = true) (h : T d b) : Ok (gcZ n d (b ++ l)) T := by
  subst hn
  have ht : (b ++ l).take b.length = b := by simp
  have hk : keepsZ b.length (b ++ l) = true := by
    unfold keepsZ; rw [ht]
    exact List.all_eq_true.mpr fun o ho => belowO_mono (Nat.zero_le _) (hb o ho)
  unfold gcZ
  rw [hd, hk, ht]
  exact h
theorem ok_gc0 {b : Sto} {n : Nat} {d : Dv} (hn : b.length = n) (hb : Fl b) (hd : below n d = true) (h : T d b) : Ok (gcZ n d b) T := by
  have := ok_gc (l := []) hn hb hd h
  rwa [List.append_nil] at this
/-- a list of the def's own is given back -/
theorem ok_gcL {b l : Sto} {n j : Nat} {ds : List Dv} (hn : b.length = n) (hb : Fl b) (hj : (b ++ l)[j]? = some (.lst ds)) (hnj : n ≤ j) (hd : belows n ds = true) (h : T (.ls ds) b) : Ok (gcZ n (.loc j) (b ++ l)) T := by
  subst hn
  have ht : (b ++ l).take b.length = b := by simp
  have hk : keepsZ b.length (b ++ l) = true := by
    unfold keepsZ; rw [ht]
    exact List.all_eq_true.mpr fun o ho => belowO_mono (Nat.zero_le _) (hb o ho)
  unfold gcZ
  have e1 : below b.length (.loc j) = false := by simp only [below, decide_eq_false_iff_not]; omega
  rw [e1]
  simp only [Bool.false_and, Bool.false_eq_true, if_false, hj, hnj, decide_true, hd, hk, Bool.true_and, if_true, ht, Bool.and_self]
  exact h
end
end Z

namespace Z
open PySem PySem.Spec PyProof.Rows L2

/-! ### the tap -/
structure Tap where
  cells : List Int
  spot : Int
  rest : Int
  calls : Int
def tapOb (t : Tap) : Ob := .dk [(.inr (Str.ofString "cells"), .ls (t.cells.map .int)), (.inr (Str.ofString "spot"), .int t.spot), (.inr (Str.ofString "rest"), .int t.rest), (.inr (Str.ofString "calls"), .int t.calls)]
theorem tap_cells {t : Tap} {r : Sto} : gIx (.loc 0) (.str (Str.ofString "cells")) (tapOb t :: r) = .ok (.ls (t.cells.map .int)) (tapOb t :: r) := by rfl
theorem tap_spot {t : Tap} {r : Sto} : gIx (.loc 0) (.str (Str.ofString "spot")) (tapOb t :: r) = .ok (.int t.spot) (tapOb t :: r) := by rfl
theorem tap_rest {t : Tap} {r : Sto} : gIx (.loc 0) (.str (Str.ofString "rest")) (tapOb t :: r) = .ok (.int t.rest) (tapOb t :: r) := by rfl
theorem tap_calls {t : Tap} {r : Sto} : gIx (.loc 0) (.str (Str.ofString "calls")) (tapOb t :: r) = .ok (.int t.calls) (tapOb t :: r) := by rfl
theorem put_calls {t : Tap} {r : Sto} {i : Int} : gPut (.loc 0) (.str (Str.ofString "calls")) (.int i) (tapOb t :: r) = .ok () (tapOb { t with calls := i } :: r) := by rfl
theorem put_rest {t : Tap} {r : Sto} {i : Int} : gPut (.loc 0) (.str (Str.ofString "rest")) (.int i) (tapOb t :: r) = .ok () (tapOb { t with rest := i } :: r) := by rfl
theorem put_spot {t : Tap} {r : Sto} {i : Int} : gPut (.loc 0) (.str (Str.ofString "spot")) (.int i) (tapOb t :: r) = .ok () (tapOb { t with spot := i } :: r) := by rfl
theorem add_int {i j : Int} {s : Sto} : gAdd (.int i) (.int j) s = .ok (.int (i + j)) s := rfl
theorem sub_int {i j : Int} {s : Sto} : gSub (.int i) (.int j) s = .ok (.int (i - j)) s := rfl
theorem gt_int {i j : Int} {s : Sto} : gGt (.int i) (.int j) s = .ok (.bl (decide (j < i))) s := rfl
theorem ge_int {i j : Int} {s : Sto} : gGe (.int i) (.int j) s = .ok (.bl (decide (j ≤ i))) s := rfl
theorem lt_int {i j : Int} {s : Sto} : gLt (.int i) (.int j) s = .ok (.bl (decide (i < j))) s := rfl
theorem le_int {i j : Int} {s : Sto} : gLe (.int i) (.int j) s = .ok (.bl (decide (i ≤ j))) s := rfl
theorem eq_int {i j : Int} {s : Sto} : gEq (.int i) (.int j) s = .ok (.bl (i == j)) s := rfl
theorem ne_int {i j : Int} {s : Sto} : gNe (.int i) (.int j) s = .ok (.bl (!(i == j))) s := rfl
theorem eq_str {i j : Str} {s : Sto} : gEq (.str i) (.str j) s = .ok (.bl (i == j)) s := rfl
theorem ne_str {i j : Str} {s : Sto} : gNe (.str i) (.str j) s = .ok (.bl (!(i == j))) s := rfl
theorem mod_int {i j : Int} {s : Sto} : gMod (.int i) (.int j) s = Rs.iff (decide (0 < j)) (.ok (.int (i % j)) s) := rfl
theorem div_int {i j : Int} {s : Sto} : gDiv (.int i) (.int j) s = Rs.iff (decide (0 < j) && decide (j < 2 ^ 64)) (.ok (.int (i / j)) s) := rfl
theorem mul_int {i j : Int} {s : Sto} : gMul (.int i) (.int j) s = Rs.iff ((decide (-(2 ^ 64) < i) && decide (i < 2 ^ 64)) || (decide (-(2 ^ 64) < j) && decide (j < 2 ^ 64))) (.ok (.int (i * j)) s) := rfl
theorem pow_int {i j : Int} {s : Sto} : gPow (.int i) (.int j) s = Rs.iff (decide (0 ≤ j) && decide (j ≤ 1000000) && decide (-(2 ^ 64) < i) && decide (i < 2 ^ 64)) (.ok (.int (i ^ j.toNat)) s) := rfl
theorem mod_ok {i j : Int} {s : Sto} (h : 0 < j) : gMod (.int i) (.int j) s = .ok (.int (i % j)) s := by rw [mod_int, decide_eq_true h]; rfl
theorem div_ok {i j : Int} {s : Sto} (h : 0 < j) (h2 : j < 2 ^ 64) : gDiv (.int i) (.int j) s = .ok (.int (i / j)) s := by rw [div_int, decide_eq_true h, decide_eq_true h2]; rfl
theorem mul_ok {i j : Int} {s : Sto} (h : -(2 ^ 64) < i ∧ i < 2 ^ 64) : gMul (.int i) (.int j) s = .ok (.int (i * j)) s := by rw [mul_int, decide_eq_true h.1, decide_eq_true h.2]; rfl
theorem pow_ok {i j : Int} {s : Sto} (h : 0 ≤ j ∧ j ≤ 1000000) (h2 : -(2 ^ 64) < i ∧ i < 2 ^ 64) : gPow (.int i) (.int j) s = .ok (.int (i ^ j.toNat)) s := by rw [pow_int, decide_eq_true h.1, decide_eq_true h.2, decide_eq_true h2.1, decide_eq_true h2.2]; rfl
theorem len_ls {ds : List Dv} {s : Sto} : gLen [.ls ds] s = .ok (.int ds.length) s := rfl
theorem len_tup {ds : List Dv} {s : Sto} : gLen [.tup ds] s = .ok (.int ds.length) s := rfl
theorem atI_nat' {ds : List Dv} {j : Nat} {d : Dv} (h : ds[j]? = some d) : atI ds (j : Int) = some d := L2.atI_nat h
theorem ix_ls {ds : List Dv} {i : Int} {d : Dv} {s : Sto} (h0 : 0 ≤ i) (h : ds[i.toNat]? = some d) : gIx (.ls ds) (.int i) s = .ok d s := by
  have e : atI ds i = some d := by
    have := atI_nat' h
    rwa [Int.toNat_of_nonneg h0] at this
  show (match (some ds).bind (atI · i) with | some d => _ | none => _) = _
  rw [Option.bind_some, e]
theorem ix_tup {ds : List Dv} {i : Int} {d : Dv} {s : Sto} (h0 : 0 ≤ i) (h : ds[i.toNat]? = some d) : gIx (.tup ds) (.int i) s = .ok d s := by
  have e : atI ds i = some d := by
    have := atI_nat' h
    rwa [Int.toNat_of_nonneg h0] at this
  show (match (some ds).bind (atI · i) with | some d => _ | none => _) = _
  rw [Option.bind_some, e]
theorem ix_loc {n : Nat} {ds : List Dv} {i : Int} {d : Dv} {s : Sto} (hs : s[n]? = some (.lst ds)) (h0 : 0 ≤ i) (h : ds[i.toNat]? = some d) : gIx (.loc n) (.int i) s = .ok d s := by
  have e : atI ds i = some d := by
    have := atI_nat' h
    rwa [Int.toNat_of_nonneg h0] at this
  show (match s[n]?, Dv.int i with | some (.lst ds), .int i => (match atI ds i with | some d => _ | none => _) | some (.dk kvs), .int i => _ | some (.dk kvs), .str z => _ | _, _ => _) = _
  rw [hs]
  show (match atI ds i with | some d => Rs.ok d s | none => Rs.bad) = _
  rw [e]
/-- the tap is sound -/
structure Tap.Wf (t : Tap) : Prop where
  c0 : 0 ≤ t.calls
  r0 : 0 ≤ t.rest
  s0 : 0 ≤ t.spot
def bTake : Fn Ct :=
  fSeq (fSet 2 (fBin gAdd (fBin gIx (fVar 0) (fC (.str (Str.ofString "calls")))) (fC (.int 1))))
  (fSeq (fPut (fVar 0) (fC (.str (Str.ofString "calls"))) (fVar 2))
  (fSeq (fIfS (fTest (fBin gGt (fBin gIx (fVar 0) (fC (.str (Str.ofString "rest")))) (fC (.int 0)))) (fSeq (fSet 3 (fBin gMod (fBin gIx (fVar 0) (fC (.str (Str.ofString "rest")))) (fVar 1)))
  (fSeq (fPut (fVar 0) (fC (.str (Str.ofString "rest"))) (fBin gDiv (fBin gIx (fVar 0) (fC (.str (Str.ofString "rest")))) (fVar 1)))
  (fRet (fVar 3)))) (fNop))
  (fSeq (fSet 4 (fBin gIx (fVar 0) (fC (.str (Str.ofString "spot")))))
  (fSeq (fPut (fVar 0) (fC (.str (Str.ofString "spot"))) (fBin gAdd (fVar 4) (fC (.int 1))))
  (fSeq (fSet 5 (fBin gIx (fVar 0) (fC (.str (Str.ofString "cells")))))
  (fSeq (fSet 6 (fIf (fTest (fBin gGt (fCall gLen (fCons (fVar 5) (fNil))) (fC (.int 0)))) (fBin gIx (fVar 5) (fBin gMod (fVar 4) (fCall gLen (fCons (fVar 5) (fNil))))) (fC (.int 5))))
  (fSeq (fIfS (fAndT (fTest (fBin gLt (fVar 4) (fCall gLen (fCons (fVar 5) (fNil))))) (fTest (fBin gGe (fVar 6) (fBin gPow (fC (.int 10)) (fC (.int 18)))))) (fSeq (fPut (fVar 0) (fC (.str (Str.ofString "rest"))) (fBin gDiv (fVar 6) (fVar 1)))
  (fRet (fBin gMod (fVar 6) (fVar 1)))) (fNop))
  (fSeq (fSet 7 (fBin gMod (fBin gPow (fBin gAdd (fBin gAdd (fBin gMod (fVar 6) (fC (.int 2147483629))) (fBin gMul (fC (.int 6007)) (fVar 2))) (fC (.int 11))) (fC (.int 5))) (fC (.int 2147483647))))
  (fRet (fBin gMod (fBin gDiv (fBin gMod (fBin gPow (fBin gAdd (fVar 7) (fBin gMul (fBin gMul (fC (.int 4099)) (fVar 2)) (fVar 2))) (fC (.int 5))) (fC (.int 2147483587))) (fC (.int 32))) (fVar 1)))))))))))
def TakeS (φ : Phi) : Prop := ∀ (t : Tap) (r : Sto) (m : Int), t.Wf → t.calls < 1000000 → 1 ≤ m → m < 2 ^ 64 → Fl r → Ok (φ [.loc 0, .int m] (tapOb t :: r)) fun d s' => ∃ (x : Int) (t' : Tap), d = .int x ∧ 0 ≤ x ∧ x < m ∧ s' = tapOb t' :: r ∧ t'.Wf ∧ t'.calls = t.calls + 1
theorem belows_ints (n : Nat) : ∀ zs : List Int, belows n (zs.map .int) = true
  | [] => rfl
  | z :: r => by
    show (below n (.int z) && belows n (r.map .int)) = true
    rw [belows_ints n r]; rfl
theorem Fl.tap {t : Tap} {r : Sto} (h : Fl r) : Fl (tapOb t :: r) := fun o ho => by
  rcases List.mem_cons.mp ho with z | z
  · subst z
    simp only [tapOb, belowO, List.all_cons, List.all_nil, below, belows_ints, Bool.and_true]
  · exact h o z
theorem take_spec : TakeS (fDef 2 8 bTake) := by
  intro t r m hw hc hm hm2 hf
  have fin : ∀ {t' : Tap} {x : Int} {T : Dv → Sto → Prop}, T (.int x) (tapOb t' :: r) → Ok (gcZ (r.length + 1) (.int x) (tapOb t' :: r)) T := fun h => ok_gc0 (b := _ :: r) rfl hf.tap rfl h
  rw [ok_def]
  refine ⟨rfl, ?_⟩
  unfold bTake
  have hmp : 0 < m := by omega
  have hw1 := hw.c0
  simp only [ok_ok, kDrop_ap, kRet_ap, kSet_ap, kCons2_ap, kCons_ap, kTup_ap, kLst_ap, kVal_ap, kNew_ap, kBin2_ap, kBin_ap, kUn_ap, kCall_ap, kCallL_ap, kNotT_ap, kAndT_ap, kOrT_ap, kIf_ap, kIfS_ap, kAnd_ap, kOr_ap, kNot_ap, kMt2_ap, kMt_ap, kPut4_ap, kPut3_ap, kPut2_ap, kPut_ap, kExt2_ap, kExt_ap, kAsg2_ap, kAsg_ap, kFor_ap, kLc_ap, kSl3_ap, kSl2_ap, kSl_ap, kGs_ap, ok_seq, sq_next, sq_ret, sq_brk, sq_cont, ok_nop, ok_brk, ok_cont, ok_drop, ok_ret, ok_retN, ok_set, ok_var0, ok_varS, ok_c, ok_nil, ok_cons, ok_tup, ok_lst, ok_val, ok_new, ok_bin, ok_un, ok_call, ok_callL, ok_test, tst_bl, ok_notT, ok_andT, ok_orT, ok_if, ok_ifS, ok_and, ok_or, ok_not, ok_mt, ok_put, ok_extend, pr2_mk, ok_par2, ok_asg, ok_for, ok_lc, ok_yes, ok_noPart, prt_int, ok_part, ok_sl, ok_gNm, ok_gTp, ok_gsN, ok_gsC, rg1_mk, rg2_mk, ok_rng1, ok_rng2, srcK_tup, srcK_ls, ok_src, finK_next, finK_ret, List.set_cons_zero, List.set_cons_succ, List.map_cons, List.map_nil, List.replicate, List.cons_append, List.nil_append, List.length_cons, List.length_nil, Bool.false_eq_true, eq_self, if_true, if_false, Nat.zero_add, tap_calls, add_int, put_calls, tap_rest, gt_int, tap_spot, put_spot, tap_cells, len_ls, decide_eq_true_eq]
  split
  · rename_i h1
    simp only [ok_ok, kDrop_ap, kRet_ap, kSet_ap, kCons2_ap, kCons_ap, kTup_ap, kLst_ap, kVal_ap, kNew_ap, kBin2_ap, kBin_ap, kUn_ap, kCall_ap, kCallL_ap, kNotT_ap, kAndT_ap, kOrT_ap, kIf_ap, kIfS_ap, kAnd_ap, kOr_ap, kNot_ap, kMt2_ap, kMt_ap, kPut4_ap, kPut3_ap, kPut2_ap, kPut_ap, kExt2_ap, kExt_ap, kAsg2_ap, kAsg_ap, kFor_ap, kLc_ap, kSl3_ap, kSl2_ap, kSl_ap, kGs_ap, ok_seq, sq_next, sq_ret, sq_brk, sq_cont, ok_nop, ok_brk, ok_cont, ok_drop, ok_ret, ok_retN, ok_set, ok_var0, ok_varS, ok_c, ok_nil, ok_cons, ok_tup, ok_lst, ok_val, ok_new, ok_bin, ok_un, ok_call, ok_callL, ok_test, tst_bl, ok_notT, ok_andT, ok_orT, ok_if, ok_ifS, ok_and, ok_or, ok_not, ok_mt, ok_put, ok_extend, pr2_mk, ok_par2, ok_asg, ok_for, ok_lc, ok_yes, ok_noPart, prt_int, ok_part, ok_sl, ok_gNm, ok_gTp, ok_gsN, ok_gsC, rg1_mk, rg2_mk, ok_rng1, ok_rng2, srcK_tup, srcK_ls, ok_src, finK_next, finK_ret, List.set_cons_zero, List.set_cons_succ, List.map_cons, List.map_nil, List.replicate, List.cons_append, List.nil_append, List.length_cons, List.length_nil, Bool.false_eq_true, eq_self, if_true, if_false, Nat.zero_add, mod_ok hmp, div_ok hmp hm2, tap_rest, put_rest]
    exact fin ⟨_, _, rfl, Int.emod_nonneg _ (by omega), Int.emod_lt_of_pos _ hmp, rfl, ⟨by show 0 ≤ t.calls + 1; omega, Int.ediv_nonneg hw.r0 (by omega), hw.s0⟩, rfl⟩
  · -- the rest of it, by any cell
    have tail : ∀ (x : Int) (sp : Int), 0 ≤ sp → Ok (fSeq (fSet 7 (fBin gMod (fBin gPow (fBin gAdd (fBin gAdd (fBin gMod (fVar 6) (fC (.int 2147483629))) (fBin gMul (fC (.int 6007)) (fVar 2))) (fC (.int 11))) (fC (.int 5))) (fC (.int 2147483647))))
        (fRet (fBin gMod (fBin gDiv (fBin gMod (fBin gPow (fBin gAdd (fVar 7) (fBin gMul (fBin gMul (fC (.int 4099)) (fVar 2)) (fVar 2))) (fC (.int 5))) (fC (.int 2147483587))) (fC (.int 32))) (fVar 1)))
        [some (Dv.loc 0), some (Dv.int m), some (Dv.int (t.calls + 1)), none, some (Dv.int t.spot), some (Dv.ls (t.cells.map Dv.int)), some (Dv.int x), none] (tapOb { cells := t.cells, spot := sp, rest := t.rest, calls := t.calls + 1 } :: r))
        (finK (r.length + 1) fun d s' => ∃ x t', d = Dv.int x ∧ 0 ≤ x ∧ x < m ∧ s' = tapOb t' :: r ∧ t'.Wf ∧ t'.calls = t.calls + 1) := by
      intro x sp hsp
      have g1 : 0 ≤ x % 2147483629 ∧ x % 2147483629 < 2147483629 := ⟨Int.emod_nonneg _ (by decide), Int.emod_lt_of_pos _ (by decide)⟩
      simp only [ok_ok, kDrop_ap, kRet_ap, kSet_ap, kCons2_ap, kCons_ap, kTup_ap, kLst_ap, kVal_ap, kNew_ap, kBin2_ap, kBin_ap, kUn_ap, kCall_ap, kCallL_ap, kNotT_ap, kAndT_ap, kOrT_ap, kIf_ap, kIfS_ap, kAnd_ap, kOr_ap, kNot_ap, kMt2_ap, kMt_ap, kPut4_ap, kPut3_ap, kPut2_ap, kPut_ap, kExt2_ap, kExt_ap, kAsg2_ap, kAsg_ap, kFor_ap, kLc_ap, kSl3_ap, kSl2_ap, kSl_ap, kGs_ap, ok_seq, sq_next, sq_ret, sq_brk, sq_cont, ok_nop, ok_brk, ok_cont, ok_drop, ok_ret, ok_retN, ok_set, ok_var0, ok_varS, ok_c, ok_nil, ok_cons, ok_tup, ok_lst, ok_val, ok_new, ok_bin, ok_un, ok_call, ok_callL, ok_test, tst_bl, ok_notT, ok_andT, ok_orT, ok_if, ok_ifS, ok_and, ok_or, ok_not, ok_mt, ok_put, ok_extend, pr2_mk, ok_par2, ok_asg, ok_for, ok_lc, ok_yes, ok_noPart, prt_int, ok_part, ok_sl, ok_gNm, ok_gTp, ok_gsN, ok_gsC, rg1_mk, rg2_mk, ok_rng1, ok_rng2, srcK_tup, srcK_ls, ok_src, finK_next, finK_ret, List.set_cons_zero, List.set_cons_succ, List.map_cons, List.map_nil, List.replicate, List.cons_append, List.nil_append, List.length_cons, List.length_nil, Bool.false_eq_true, eq_self, if_true, if_false, Nat.zero_add, mod_ok (show (0 : Int) < 2147483629 by decide), mul_ok (show -(2 ^ 64) < (6007 : Int) ∧ (6007 : Int) < 2 ^ 64 by decide), add_int]
      rw [pow_ok (by decide) (by constructor <;> omega)]
      simp only [ok_ok, kDrop_ap, kRet_ap, kSet_ap, kCons2_ap, kCons_ap, kTup_ap, kLst_ap, kVal_ap, kNew_ap, kBin2_ap, kBin_ap, kUn_ap, kCall_ap, kCallL_ap, kNotT_ap, kAndT_ap, kOrT_ap, kIf_ap, kIfS_ap, kAnd_ap, kOr_ap, kNot_ap, kMt2_ap, kMt_ap, kPut4_ap, kPut3_ap, kPut2_ap, kPut_ap, kExt2_ap, kExt_ap, kAsg2_ap, kAsg_ap, kFor_ap, kLc_ap, kSl3_ap, kSl2_ap, kSl_ap, kGs_ap, ok_seq, sq_next, sq_ret, sq_brk, sq_cont, ok_nop, ok_brk, ok_cont, ok_drop, ok_ret, ok_retN, ok_set, ok_var0, ok_varS, ok_c, ok_nil, ok_cons, ok_tup, ok_lst, ok_val, ok_new, ok_bin, ok_un, ok_call, ok_callL, ok_test, tst_bl, ok_notT, ok_andT, ok_orT, ok_if, ok_ifS, ok_and, ok_or, ok_not, ok_mt, ok_put, ok_extend, pr2_mk, ok_par2, ok_asg, ok_for, ok_lc, ok_yes, ok_noPart, prt_int, ok_part, ok_sl, ok_gNm, ok_gTp, ok_gsN, ok_gsC, rg1_mk, rg2_mk, ok_rng1, ok_rng2, srcK_tup, srcK_ls, ok_src, finK_next, finK_ret, List.set_cons_zero, List.set_cons_succ, List.map_cons, List.map_nil, List.replicate, List.cons_append, List.nil_append, List.length_cons, List.length_nil, Bool.false_eq_true, eq_self, if_true, if_false, Nat.zero_add, mod_ok (show (0 : Int) < 2147483647 by decide), mul_ok (show -(2 ^ 64) < (4099 : Int) ∧ (4099 : Int) < 2 ^ 64 by decide)]
      have g2 : 0 ≤ (x % 2147483629 + 6007 * (t.calls + 1) + 11) ^ (Int.toNat 5) % 2147483647 ∧ (x % 2147483629 + 6007 * (t.calls + 1) + 11) ^ (Int.toNat 5) % 2147483647 < 2147483647 := ⟨Int.emod_nonneg _ (by decide), Int.emod_lt_of_pos _ (by decide)⟩
      generalize (x % 2147483629 + 6007 * (t.calls + 1) + 11) ^ (Int.toNat 5) % 2147483647 = y at g2 ⊢
      rw [mul_ok (by constructor <;> omega)]
      simp only [ok_ok, kDrop_ap, kRet_ap, kSet_ap, kCons2_ap, kCons_ap, kTup_ap, kLst_ap, kVal_ap, kNew_ap, kBin2_ap, kBin_ap, kUn_ap, kCall_ap, kCallL_ap, kNotT_ap, kAndT_ap, kOrT_ap, kIf_ap, kIfS_ap, kAnd_ap, kOr_ap, kNot_ap, kMt2_ap, kMt_ap, kPut4_ap, kPut3_ap, kPut2_ap, kPut_ap, kExt2_ap, kExt_ap, kAsg2_ap, kAsg_ap, kFor_ap, kLc_ap, kSl3_ap, kSl2_ap, kSl_ap, kGs_ap, ok_seq, sq_next, sq_ret, sq_brk, sq_cont, ok_nop, ok_brk, ok_cont, ok_drop, ok_ret, ok_retN, ok_set, ok_var0, ok_varS, ok_c, ok_nil, ok_cons, ok_tup, ok_lst, ok_val, ok_new, ok_bin, ok_un, ok_call, ok_callL, ok_test, tst_bl, ok_notT, ok_andT, ok_orT, ok_if, ok_ifS, ok_and, ok_or, ok_not, ok_mt, ok_put, ok_extend, pr2_mk, ok_par2, ok_asg, ok_for, ok_lc, ok_yes, ok_noPart, prt_int, ok_part, ok_sl, ok_gNm, ok_gTp, ok_gsN, ok_gsC, rg1_mk, rg2_mk, ok_rng1, ok_rng2, srcK_tup, srcK_ls, ok_src, finK_next, finK_ret, List.set_cons_zero, List.set_cons_succ, List.map_cons, List.map_nil, List.replicate, List.cons_append, List.nil_append, List.length_cons, List.length_nil, Bool.false_eq_true, eq_self, if_true, if_false, Nat.zero_add, add_int]
      have g3 : 0 ≤ 4099 * (t.calls + 1) * (t.calls + 1) ∧ 4099 * (t.calls + 1) * (t.calls + 1) ≤ 4099 * 1000000 * 1000000 := by
        refine ⟨Int.mul_nonneg (by omega) (by omega), ?_⟩
        exact Int.mul_le_mul (by omega) (by omega) (by omega) (by decide)
      generalize 4099 * (t.calls + 1) * (t.calls + 1) = z at g3 ⊢
      rw [pow_ok (by decide) (by constructor <;> omega)]
      simp only [ok_ok, kDrop_ap, kRet_ap, kSet_ap, kCons2_ap, kCons_ap, kTup_ap, kLst_ap, kVal_ap, kNew_ap, kBin2_ap, kBin_ap, kUn_ap, kCall_ap, kCallL_ap, kNotT_ap, kAndT_ap, kOrT_ap, kIf_ap, kIfS_ap, kAnd_ap, kOr_ap, kNot_ap, kMt2_ap, kMt_ap, kPut4_ap, kPut3_ap, kPut2_ap, kPut_ap, kExt2_ap, kExt_ap, kAsg2_ap, kAsg_ap, kFor_ap, kLc_ap, kSl3_ap, kSl2_ap, kSl_ap, kGs_ap, ok_seq, sq_next, sq_ret, sq_brk, sq_cont, ok_nop, ok_brk, ok_cont, ok_drop, ok_ret, ok_retN, ok_set, ok_var0, ok_varS, ok_c, ok_nil, ok_cons, ok_tup, ok_lst, ok_val, ok_new, ok_bin, ok_un, ok_call, ok_callL, ok_test, tst_bl, ok_notT, ok_andT, ok_orT, ok_if, ok_ifS, ok_and, ok_or, ok_not, ok_mt, ok_put, ok_extend, pr2_mk, ok_par2, ok_asg, ok_for, ok_lc, ok_yes, ok_noPart, prt_int, ok_part, ok_sl, ok_gNm, ok_gTp, ok_gsN, ok_gsC, rg1_mk, rg2_mk, ok_rng1, ok_rng2, srcK_tup, srcK_ls, ok_src, finK_next, finK_ret, List.set_cons_zero, List.set_cons_succ, List.map_cons, List.map_nil, List.replicate, List.cons_append, List.nil_append, List.length_cons, List.length_nil, Bool.false_eq_true, eq_self, if_true, if_false, Nat.zero_add, mod_ok (show (0 : Int) < 2147483587 by decide), div_ok (show (0 : Int) < 32 by decide) (by decide), mod_ok hmp]
      exact fin ⟨_, _, rfl, Int.emod_nonneg _ (by omega), Int.emod_lt_of_pos _ hmp, rfl, ⟨by show 0 ≤ t.calls + 1; omega, hw.r0, hsp⟩, rfl⟩
    have mid : ∀ (x : Int), Ok (fSeq (fIfS (fAndT (fTest (fBin gLt (fVar 4) (fCall gLen (fCons (fVar 5) (fNil))))) (fTest (fBin gGe (fVar 6) (fBin gPow (fC (.int 10)) (fC (.int 18)))))) (fSeq (fPut (fVar 0) (fC (.str (Str.ofString "rest"))) (fBin gDiv (fVar 6) (fVar 1)))
  (fRet (fBin gMod (fVar 6) (fVar 1)))) (fNop)) (fSeq (fSet 7 (fBin gMod (fBin gPow (fBin gAdd (fBin gAdd (fBin gMod (fVar 6) (fC (.int 2147483629))) (fBin gMul (fC (.int 6007)) (fVar 2))) (fC (.int 11))) (fC (.int 5))) (fC (.int 2147483647))))
        (fRet (fBin gMod (fBin gDiv (fBin gMod (fBin gPow (fBin gAdd (fVar 7) (fBin gMul (fBin gMul (fC (.int 4099)) (fVar 2)) (fVar 2))) (fC (.int 5))) (fC (.int 2147483587))) (fC (.int 32))) (fVar 1))))
        [some (Dv.loc 0), some (Dv.int m), some (Dv.int (t.calls + 1)), none, some (Dv.int t.spot), some (Dv.ls (t.cells.map Dv.int)), some (Dv.int x), none] (tapOb { cells := t.cells, spot := t.spot + 1, rest := t.rest, calls := t.calls + 1 } :: r))
        (finK (r.length + 1) fun d s' => ∃ x t', d = Dv.int x ∧ 0 ≤ x ∧ x < m ∧ s' = tapOb t' :: r ∧ t'.Wf ∧ t'.calls = t.calls + 1) := by
      intro x
      have tl := tail x (t.spot + 1) (by have := hw.s0; omega)
      rw [ok_seq]
      simp only [ok_ok, kDrop_ap, kRet_ap, kSet_ap, kCons2_ap, kCons_ap, kTup_ap, kLst_ap, kVal_ap, kNew_ap, kBin2_ap, kBin_ap, kUn_ap, kCall_ap, kCallL_ap, kNotT_ap, kAndT_ap, kOrT_ap, kIf_ap, kIfS_ap, kAnd_ap, kOr_ap, kNot_ap, kMt2_ap, kMt_ap, kPut4_ap, kPut3_ap, kPut2_ap, kPut_ap, kExt2_ap, kExt_ap, kAsg2_ap, kAsg_ap, kFor_ap, kLc_ap, kSl3_ap, kSl2_ap, kSl_ap, kGs_ap, ok_seq, sq_next, sq_ret, sq_brk, sq_cont, ok_nop, ok_brk, ok_cont, ok_drop, ok_ret, ok_retN, ok_set, ok_var0, ok_varS, ok_c, ok_nil, ok_cons, ok_tup, ok_lst, ok_val, ok_new, ok_bin, ok_un, ok_call, ok_callL, ok_test, tst_bl, ok_notT, ok_andT, ok_orT, ok_if, ok_ifS, ok_and, ok_or, ok_not, ok_mt, ok_put, ok_extend, pr2_mk, ok_par2, ok_asg, ok_for, ok_lc, ok_yes, ok_noPart, prt_int, ok_part, ok_sl, ok_gNm, ok_gTp, ok_gsN, ok_gsC, rg1_mk, rg2_mk, ok_rng1, ok_rng2, srcK_tup, srcK_ls, ok_src, finK_next, finK_ret, List.set_cons_zero, List.set_cons_succ, List.map_cons, List.map_nil, List.replicate, List.cons_append, List.nil_append, List.length_cons, List.length_nil, Bool.false_eq_true, eq_self, if_true, if_false, Nat.zero_add, len_ls, lt_int, pow_ok (show (0 : Int) ≤ 18 ∧ (18 : Int) ≤ 1000000 by decide) (show -(2 ^ 64) < (10 : Int) ∧ (10 : Int) < 2 ^ 64 by decide), ge_int, decide_eq_true_eq]
      split
      · split
        · rename_i h2
          simp only [ok_ok, kDrop_ap, kRet_ap, kSet_ap, kCons2_ap, kCons_ap, kTup_ap, kLst_ap, kVal_ap, kNew_ap, kBin2_ap, kBin_ap, kUn_ap, kCall_ap, kCallL_ap, kNotT_ap, kAndT_ap, kOrT_ap, kIf_ap, kIfS_ap, kAnd_ap, kOr_ap, kNot_ap, kMt2_ap, kMt_ap, kPut4_ap, kPut3_ap, kPut2_ap, kPut_ap, kExt2_ap, kExt_ap, kAsg2_ap, kAsg_ap, kFor_ap, kLc_ap, kSl3_ap, kSl2_ap, kSl_ap, kGs_ap, ok_seq, sq_next, sq_ret, sq_brk, sq_cont, ok_nop, ok_brk, ok_cont, ok_drop, ok_ret, ok_retN, ok_set, ok_var0, ok_varS, ok_c, ok_nil, ok_cons, ok_tup, ok_lst, ok_val, ok_new, ok_bin, ok_un, ok_call, ok_callL, ok_test, tst_bl, ok_notT, ok_andT, ok_orT, ok_if, ok_ifS, ok_and, ok_or, ok_not, ok_mt, ok_put, ok_extend, pr2_mk, ok_par2, ok_asg, ok_for, ok_lc, ok_yes, ok_noPart, prt_int, ok_part, ok_sl, ok_gNm, ok_gTp, ok_gsN, ok_gsC, rg1_mk, rg2_mk, ok_rng1, ok_rng2, srcK_tup, srcK_ls, ok_src, finK_next, finK_ret, List.set_cons_zero, List.set_cons_succ, List.map_cons, List.map_nil, List.replicate, List.cons_append, List.nil_append, List.length_cons, List.length_nil, Bool.false_eq_true, eq_self, if_true, if_false, Nat.zero_add, div_ok hmp hm2, put_rest, mod_ok hmp]
          refine fin ⟨_, _, rfl, Int.emod_nonneg _ (by omega), Int.emod_lt_of_pos _ hmp, rfl, ⟨by show 0 ≤ t.calls + 1; omega, Int.ediv_nonneg ?_ (by omega), by show 0 ≤ t.spot + 1; have := hw.s0; omega⟩, rfl⟩
          have : (10 : Int) ^ (Int.toNat 18) = 1000000000000000000 := by decide
          omega
        · simp only [ok_ok, kDrop_ap, kRet_ap, kSet_ap, kCons2_ap, kCons_ap, kTup_ap, kLst_ap, kVal_ap, kNew_ap, kBin2_ap, kBin_ap, kUn_ap, kCall_ap, kCallL_ap, kNotT_ap, kAndT_ap, kOrT_ap, kIf_ap, kIfS_ap, kAnd_ap, kOr_ap, kNot_ap, kMt2_ap, kMt_ap, kPut4_ap, kPut3_ap, kPut2_ap, kPut_ap, kExt2_ap, kExt_ap, kAsg2_ap, kAsg_ap, kFor_ap, kLc_ap, kSl3_ap, kSl2_ap, kSl_ap, kGs_ap, ok_seq, sq_next, sq_ret, sq_brk, sq_cont, ok_nop, ok_brk, ok_cont, ok_drop, ok_ret, ok_retN, ok_set, ok_var0, ok_varS, ok_c, ok_nil, ok_cons, ok_tup, ok_lst, ok_val, ok_new, ok_bin, ok_un, ok_call, ok_callL, ok_test, tst_bl, ok_notT, ok_andT, ok_orT, ok_if, ok_ifS, ok_and, ok_or, ok_not, ok_mt, ok_put, ok_extend, pr2_mk, ok_par2, ok_asg, ok_for, ok_lc, ok_yes, ok_noPart, prt_int, ok_part, ok_sl, ok_gNm, ok_gTp, ok_gsN, ok_gsC, rg1_mk, rg2_mk, ok_rng1, ok_rng2, srcK_tup, srcK_ls, ok_src, finK_next, finK_ret, List.set_cons_zero, List.set_cons_succ, List.map_cons, List.map_nil, List.replicate, List.cons_append, List.nil_append, List.length_cons, List.length_nil, Bool.false_eq_true, eq_self, if_true, if_false, Nat.zero_add] at tl; exact tl
      · simp only [ok_ok, kDrop_ap, kRet_ap, kSet_ap, kCons2_ap, kCons_ap, kTup_ap, kLst_ap, kVal_ap, kNew_ap, kBin2_ap, kBin_ap, kUn_ap, kCall_ap, kCallL_ap, kNotT_ap, kAndT_ap, kOrT_ap, kIf_ap, kIfS_ap, kAnd_ap, kOr_ap, kNot_ap, kMt2_ap, kMt_ap, kPut4_ap, kPut3_ap, kPut2_ap, kPut_ap, kExt2_ap, kExt_ap, kAsg2_ap, kAsg_ap, kFor_ap, kLc_ap, kSl3_ap, kSl2_ap, kSl_ap, kGs_ap, ok_seq, sq_next, sq_ret, sq_brk, sq_cont, ok_nop, ok_brk, ok_cont, ok_drop, ok_ret, ok_retN, ok_set, ok_var0, ok_varS, ok_c, ok_nil, ok_cons, ok_tup, ok_lst, ok_val, ok_new, ok_bin, ok_un, ok_call, ok_callL, ok_test, tst_bl, ok_notT, ok_andT, ok_orT, ok_if, ok_ifS, ok_and, ok_or, ok_not, ok_mt, ok_put, ok_extend, pr2_mk, ok_par2, ok_asg, ok_for, ok_lc, ok_yes, ok_noPart, prt_int, ok_part, ok_sl, ok_gNm, ok_gTp, ok_gsN, ok_gsC, rg1_mk, rg2_mk, ok_rng1, ok_rng2, srcK_tup, srcK_ls, ok_src, finK_next, finK_ret, List.set_cons_zero, List.set_cons_succ, List.map_cons, List.map_nil, List.replicate, List.cons_append, List.nil_append, List.length_cons, List.length_nil, Bool.false_eq_true, eq_self, if_true, if_false, Nat.zero_add] at tl; exact tl
    split
    · rename_i h1 h2
      have hl : 0 < (t.cells.length : Int) := by simpa using h2
      simp only [ok_ok, kDrop_ap, kRet_ap, kSet_ap, kCons2_ap, kCons_ap, kTup_ap, kLst_ap, kVal_ap, kNew_ap, kBin2_ap, kBin_ap, kUn_ap, kCall_ap, kCallL_ap, kNotT_ap, kAndT_ap, kOrT_ap, kIf_ap, kIfS_ap, kAnd_ap, kOr_ap, kNot_ap, kMt2_ap, kMt_ap, kPut4_ap, kPut3_ap, kPut2_ap, kPut_ap, kExt2_ap, kExt_ap, kAsg2_ap, kAsg_ap, kFor_ap, kLc_ap, kSl3_ap, kSl2_ap, kSl_ap, kGs_ap, ok_seq, sq_next, sq_ret, sq_brk, sq_cont, ok_nop, ok_brk, ok_cont, ok_drop, ok_ret, ok_retN, ok_set, ok_var0, ok_varS, ok_c, ok_nil, ok_cons, ok_tup, ok_lst, ok_val, ok_new, ok_bin, ok_un, ok_call, ok_callL, ok_test, tst_bl, ok_notT, ok_andT, ok_orT, ok_if, ok_ifS, ok_and, ok_or, ok_not, ok_mt, ok_put, ok_extend, pr2_mk, ok_par2, ok_asg, ok_for, ok_lc, ok_yes, ok_noPart, prt_int, ok_part, ok_sl, ok_gNm, ok_gTp, ok_gsN, ok_gsC, rg1_mk, rg2_mk, ok_rng1, ok_rng2, srcK_tup, srcK_ls, ok_src, finK_next, finK_ret, List.set_cons_zero, List.set_cons_succ, List.map_cons, List.map_nil, List.replicate, List.cons_append, List.nil_append, List.length_cons, List.length_nil, Bool.false_eq_true, eq_self, if_true, if_false, Nat.zero_add, mod_ok h2]
      have e1 : 0 ≤ t.spot % ((t.cells.map Dv.int).length : Int) := Int.emod_nonneg _ (by omega)
      have e2 : t.spot % ((t.cells.map Dv.int).length : Int) < (t.cells.map Dv.int).length := Int.emod_lt_of_pos _ (by omega)
      have e3 : (t.spot % ((t.cells.map Dv.int).length : Int)).toNat < t.cells.length := by rw [List.length_map] at *; omega
      rw [ix_ls (d := .int t.cells[(t.spot % ((t.cells.map Dv.int).length : Int)).toNat]) e1 (by rw [List.getElem?_map, List.getElem?_eq_getElem e3]; rfl)]
      exact mid _
    · have tl := mid 5
      simp only [ok_ok, kDrop_ap, kRet_ap, kSet_ap, kCons2_ap, kCons_ap, kTup_ap, kLst_ap, kVal_ap, kNew_ap, kBin2_ap, kBin_ap, kUn_ap, kCall_ap, kCallL_ap, kNotT_ap, kAndT_ap, kOrT_ap, kIf_ap, kIfS_ap, kAnd_ap, kOr_ap, kNot_ap, kMt2_ap, kMt_ap, kPut4_ap, kPut3_ap, kPut2_ap, kPut_ap, kExt2_ap, kExt_ap, kAsg2_ap, kAsg_ap, kFor_ap, kLc_ap, kSl3_ap, kSl2_ap, kSl_ap, kGs_ap, ok_seq, sq_next, sq_ret, sq_brk, sq_cont, ok_nop, ok_brk, ok_cont, ok_drop, ok_ret, ok_retN, ok_set, ok_var0, ok_varS, ok_c, ok_nil, ok_cons, ok_tup, ok_lst, ok_val, ok_new, ok_bin, ok_un, ok_call, ok_callL, ok_test, tst_bl, ok_notT, ok_andT, ok_orT, ok_if, ok_ifS, ok_and, ok_or, ok_not, ok_mt, ok_put, ok_extend, pr2_mk, ok_par2, ok_asg, ok_for, ok_lc, ok_yes, ok_noPart, prt_int, ok_part, ok_sl, ok_gNm, ok_gTp, ok_gsN, ok_gsC, rg1_mk, rg2_mk, ok_rng1, ok_rng2, srcK_tup, srcK_ls, ok_src, finK_next, finK_ret, List.set_cons_zero, List.set_cons_succ, List.map_cons, List.map_nil, List.replicate, List.cons_append, List.nil_append, List.length_cons, List.length_nil, Bool.false_eq_true, eq_self, if_true, if_false, Nat.zero_add, len_ls] at tl
      exact tl
end Z

namespace Z
open PySem PySem.Spec PyProof.Rows L2

/-! ### places of the store behind a base -/
theorem st_get {t : Ob} {r l : Sto} {k : Nat} : (t :: (r ++ l))[r.length + (k + 1)]? = l[k]? := by
  rw [show r.length + (k + 1) = (r.length + k) + 1 by omega, List.getElem?_cons_succ, List.getElem?_append_right (by omega), Nat.add_sub_cancel_left]
theorem st_set {t o : Ob} {r l : Sto} {k : Nat} : (t :: (r ++ l)).set (r.length + (k + 1)) o = t :: (r ++ l.set k o) := by
  rw [show r.length + (k + 1) = (r.length + k) + 1 by omega, List.set_cons_succ, List.set_append_right _ _ (by omega), Nat.add_sub_cancel_left]
theorem st_get1 {t o : Ob} {r l : Sto} : (t :: (r ++ o :: l))[r.length + 1]? = some o := st_get (k := 0)
theorem st_set1 {t o o' : Ob} {r l : Sto} : (t :: (r ++ o :: l)).set (r.length + 1) o' = t :: (r ++ o' :: l) := st_set (k := 0)
theorem st_get2 {t o o2 : Ob} {r l : Sto} : (t :: (r ++ o :: o2 :: l))[r.length + 2]? = some o2 := st_get (k := 1)
theorem st_set2 {t o o2 o' : Ob} {r l : Sto} : (t :: (r ++ o :: o2 :: l)).set (r.length + 2) o' = t :: (r ++ o :: o' :: l) := st_set (k := 1)
theorem isL_loc {n : Nat} {ds : List Dv} {s : Sto} (h : s[n]? = some (.lst ds)) : isL (.loc n) s = true := by
  show (match s[n]? with | some (.lst _) => true | _ => false) = true
  rw [h]
theorem append_loc {n : Nat} {ds : List Dv} {d : Dv} {s : Sto} (h : s[n]? = some (.lst ds)) (hl : ds.length < 16777216) : gAppend (.loc n) [d] s = .ok .non (s.set n (.lst (ds ++ [d]))) := by
  show (match s[n]? with | some (.lst ds) => _ | _ => _) = _
  rw [h]
  show Rs.iff (decide (ds.length < 16777216)) _ = _
  rw [decide_eq_true hl]; rfl
theorem extend_loc {n : Nat} {ds es : List Dv} {s : Sto} (h : s[n]? = some (.lst ds)) (hl : ds.length + es.length ≤ 16777216) : gExtend (.loc n) [.ls es] s = .ok .non (s.set n (.lst (ds ++ es))) := by
  show (match s[n]? with | some (.lst ds) => _ | _ => _) = _
  rw [h]
  show Rs.iff (decide (ds.length + es.length ≤ 16777216)) _ = _
  rw [decide_eq_true hl]; rfl
theorem ixN_nat {n : Nat} {i : Int} (h0 : 0 ≤ i) (h : i < n) : ixN n i = some i.toNat := by
  unfold ixN; rw [if_pos h0, if_pos h]
theorem popAt_loc {n : Nat} {ds : List Dv} {i : Int} {d : Dv} {s : Sto} (h : s[n]? = some (.lst ds)) (h0 : 0 ≤ i) (h1 : i < 1000000) (hd : ds[i.toNat]? = some d) : gPopAt (.loc n) [.int i] s = .ok d (s.set n (.lst (ds.eraseIdx i.toNat))) := by
  show (match s[n]? with | some (.lst ds) => (match ixN ds.length i with | some j => (match ds[j]? with | some d => Rs.iff (inRng i) (.ok d (s.set n (.lst (ds.eraseIdx j)))) | none => .bad) | none => .bad) | _ => .bad) = _
  rw [h]
  have hl := (List.getElem?_eq_some_iff.mp hd).1
  show (match ixN ds.length i with | some j => (match ds[j]? with | some d => Rs.iff (inRng i) (Rs.ok d (s.set n (.lst (ds.eraseIdx j)))) | none => .bad) | none => .bad) = _
  rw [ixN_nat h0 (by omega)]
  show (match ds[i.toNat]? with | some d => Rs.iff (inRng i) (Rs.ok d (s.set n (.lst (ds.eraseIdx i.toNat)))) | none => .bad) = _
  rw [hd]
  show Rs.iff (inRng i) _ = _
  have : inRng i = true := by
    unfold inRng
    rw [Bool.and_eq_true, decide_eq_true_eq, decide_eq_true_eq]
    constructor <;> omega
  rw [this]; rfl
theorem len_loc {n : Nat} {ds : List Dv} {s : Sto} (h : s[n]? = some (.lst ds)) : gLen [.loc n] s = .ok (.int ds.length) s := by
  show (match (match s[n]? with | some (.lst ds) => some ds | _ => none) with | some ds => Rs.ok (Dv.int ds.length) s | none => .bad) = _
  rw [h]
theorem tuple_ls {ds : List Dv} {s : Sto} : gTuple [.ls ds] s = .ok (.tup ds) s := rfl
theorem tuple_tup {ds : List Dv} {s : Sto} : gTuple [.tup ds] s = .ok (.tup ds) s := rfl
theorem tuple_loc {n : Nat} {ds : List Dv} {s : Sto} (h : s[n]? = some (.lst ds)) : gTuple [.loc n] s = .ok (.tup ds) s := by
  show (match (match s[n]? with | some (.lst ds) => some ds | _ => none) with | some ds => Rs.ok (Dv.tup ds) s | none => .bad) = _
  rw [h]
theorem belows_strs (n : Nat) : ∀ zs : List Str, belows n (zs.map .str) = true
  | [] => rfl
  | z :: r => by
    show (below n (.str z) && belows n (r.map .str)) = true
    rw [belows_strs n r]; rfl
theorem below_tup {n : Nat} {ds : List Dv} (h : belows n ds = true) : below n (.tup ds) = true := by simpa [below] using h
theorem below_ls {n : Nat} {ds : List Dv} (h : belows n ds = true) : below n (.ls ds) = true := by simpa [below] using h
theorem belows_cons {n : Nat} {d : Dv} {ds : List Dv} (h : below n d = true) (h2 : belows n ds = true) : belows n (d :: ds) = true := by simp [belows, h, h2]
theorem belows_app {n : Nat} : ∀ {ds es : List Dv}, belows n ds = true → belows n es = true → belows n (ds ++ es) = true
  | [], _, _, h => h
  | d :: ds, es, h, h2 => by
    simp only [belows, Bool.and_eq_true, List.cons_append] at h ⊢
    exact ⟨h.1, belows_app h.2 h2⟩
theorem belows_all {n : Nat} : ∀ {ds : List Dv}, (∀ d ∈ ds, below n d = true) → belows n ds = true
  | [], _ => rfl
  | d :: ds, h => belows_cons (h d List.mem_cons_self) (belows_all fun x hx => h x (List.mem_cons_of_mem _ hx))
theorem Fl.app {r l : Sto} (h : Fl r) (h2 : Fl l) : Fl (r ++ l) := fun o ho => (List.mem_append.mp ho).elim (h o) (h2 o)
theorem Fl.one {ds : List Dv} (h : belows 0 ds = true) : Fl [.lst ds] := fun o ho => by rw [List.mem_singleton.mp ho]; exact h
theorem Fl.nil : Fl [] := fun o ho => by cases ho
theorem Fl.two {ds es : List Dv} (h : belows 0 ds = true) (h2 : belows 0 es = true) : Fl [.lst ds, .lst es] := fun o ho => by
  rcases List.mem_cons.mp ho with z | z
  · rw [z]; exact h
  · rw [List.mem_singleton.mp z]; exact h2
theorem inRng_small {i : Int} (h0 : -1000000000 ≤ i) (h1 : i < 1000000000) : inRng i = true := by
  unfold inRng
  rw [Bool.and_eq_true, decide_eq_true_eq, decide_eq_true_eq]
  constructor <;> omega
theorem str_get {xs : List Str} {j : Nat} (h : j < xs.length) : (xs.map Dv.str)[j]? = some (.str xs[j]) := by rw [List.getElem?_map, List.getElem?_eq_getElem h]; rfl
/-- the end of a def whose locals are let go -/
theorem fin_tap {t : Tap} {r l : Sto} {d : Dv} {T : Dv → Sto → Prop} (hf : Fl r) (hd : below 0 d = true) (h : T d (tapOb t :: r)) : Ok (gcZ (r.length + 1) d (tapOb t :: (r ++ l))) T :=
  ok_gc (b := tapOb t :: r) rfl hf.tap (below_mono (Nat.zero_le _) hd) h
theorem fin_tap0 {t : Tap} {r : Sto} {d : Dv} {T : Dv → Sto → Prop} (hf : Fl r) (hd : below 0 d = true) (h : T d (tapOb t :: r)) : Ok (gcZ (r.length + 1) d (tapOb t :: r)) T :=
  ok_gc0 (b := tapOb t :: r) rfl hf.tap (below_mono (Nat.zero_le _) hd) h

theorem map_erase {α β : Type} (f : α → β) : ∀ (l : List α) (i : Nat), (l.map f).eraseIdx i = (l.eraseIdx i).map f
  | [], _ => rfl
  | _ :: _, 0 => rfl
  | x :: l, i + 1 => by
    show f x :: (l.map f).eraseIdx i = f x :: (l.eraseIdx i).map f
    rw [map_erase f l i]
theorem erase_perm {α : Type} : ∀ (l : List α) (i : Nat) (h : i < l.length), (l[i] :: l.eraseIdx i).Perm l
  | x :: l, 0, _ => List.Perm.refl _
  | x :: l, i + 1, h => by
    show (l[i]'(by simpa using h) :: x :: l.eraseIdx i).Perm (x :: l)
    exact (List.Perm.swap x _ _).trans ((erase_perm l i (by simpa using h)).cons x)

/-! ### some names -/
def pool10 : List Str := [Str.ofString "a", Str.ofString "ab", Str.ofString "abc", Str.ofString "b", Str.ofString "bell", Str.ofString "told", Str.ofString "x", Str.ofString "zz", Str.ofString "zzzzzzzz", Str.ofString "as"]
theorem pool10_nd : pool10.Nodup := by decide +kernel
def bLots (φt : Phi) : Fn Ct :=
  fSeq (fSet 2 (fNew (fLst (fCons (fC (.str (Str.ofString "a"))) (fCons (fC (.str (Str.ofString "ab"))) (fCons (fC (.str (Str.ofString "abc"))) (fCons (fC (.str (Str.ofString "b"))) (fCons (fC (.str (Str.ofString "bell"))) (fCons (fC (.str (Str.ofString "told"))) (fCons (fC (.str (Str.ofString "x"))) (fCons (fC (.str (Str.ofString "zz"))) (fCons (fC (.str (Str.ofString "zzzzzzzz"))) (fCons (fC (.str (Str.ofString "as"))) (fNil))))))))))))))
  (fRet (fCall gTuple (fCons (fVal (fLc (fRng1 (fCons (fVar 1) (fNil))) [3] (gNm 3) (fYes) (fMt isL gPopAt (fVar 2) (fCons (fCall φt (fCons (fVar 0) (fCons (fCall gLen (fCons (fVar 2) (fNil))) (fNil)))) (fNil))))) (fNil))))
def LotsS (φ : Phi) : Prop := ∀ (t : Tap) (r : Sto) (m : Int), t.Wf → t.calls + m ≤ 1000000 → 0 ≤ m → m ≤ 10 → Fl r → Ok (φ [.loc 0, .int m] (tapOb t :: r)) fun d s' => ∃ (xs : List Str) (t' : Tap), d = .tup (xs.map .str) ∧ (xs.length : Int) = m ∧ xs.Nodup ∧ (∀ x ∈ xs, x ∈ pool10) ∧
  s' = tapOb t' :: r ∧ t'.Wf ∧ t.calls ≤ t'.calls ∧ t'.calls ≤ t.calls + m
theorem lots_spec {φt : Phi} (ht : TakeS φt) : LotsS (fDef 2 4 (bLots φt)) := by
  intro t r m hw hc hm0 hm hf
  rw [ok_def]
  refine ⟨rfl, ?_⟩
  unfold bLots
  simp only [ok_ok, kDrop_ap, kRet_ap, kSet_ap, kCons2_ap, kCons_ap, kTup_ap, kLst_ap, kVal_ap, kNew_ap, kBin2_ap, kBin_ap, kUn_ap, kCall_ap, kCallL_ap, kNotT_ap, kAndT_ap, kOrT_ap, kIf_ap, kIfS_ap, kAnd_ap, kOr_ap, kNot_ap, kMt2_ap, kMt_ap, kPut4_ap, kPut3_ap, kPut2_ap, kPut_ap, kExt2_ap, kExt_ap, kAsg2_ap, kAsg_ap, kFor_ap, kLc_ap, kSl3_ap, kSl2_ap, kSl_ap, kGs_ap, ok_seq, sq_next, sq_ret, sq_brk, sq_cont, ok_nop, ok_brk, ok_cont, ok_drop, ok_ret, ok_retN, ok_set, ok_var0, ok_varS, ok_c, ok_nil, ok_cons, ok_tup, ok_lst, ok_val, ok_new, ok_bin, ok_un, ok_call, ok_callL, ok_test, tst_bl, ok_notT, ok_andT, ok_orT, ok_if, ok_ifS, ok_and, ok_or, ok_not, ok_mt, ok_put, ok_extend, pr2_mk, ok_par2, ok_asg, ok_for, ok_lc, ok_yes, ok_noPart, prt_int, ok_part, ok_sl, ok_gNm, ok_gTp, ok_gsN, ok_gsC, rg1_mk, rg2_mk, ok_rng1, ok_rng2, srcK_tup, srcK_ls, ok_src, finK_next, finK_ret, List.set_cons_zero, List.set_cons_succ, List.map_cons, List.map_nil, List.replicate, List.cons_append, List.nil_append, List.length_cons, List.length_nil, Bool.false_eq_true, eq_self, if_true, if_false, Nat.zero_add]
  refine ⟨by decide, ?_⟩
  refine ⟨inRng_small (by omega) (by omega), ?_⟩
  simp only [ok_ok, kDrop_ap, kRet_ap, kSet_ap, kCons2_ap, kCons_ap, kTup_ap, kLst_ap, kVal_ap, kNew_ap, kBin2_ap, kBin_ap, kUn_ap, kCall_ap, kCallL_ap, kNotT_ap, kAndT_ap, kOrT_ap, kIf_ap, kIfS_ap, kAnd_ap, kOr_ap, kNot_ap, kMt2_ap, kMt_ap, kPut4_ap, kPut3_ap, kPut2_ap, kPut_ap, kExt2_ap, kExt_ap, kAsg2_ap, kAsg_ap, kFor_ap, kLc_ap, kSl3_ap, kSl2_ap, kSl_ap, kGs_ap, ok_seq, sq_next, sq_ret, sq_brk, sq_cont, ok_nop, ok_brk, ok_cont, ok_drop, ok_ret, ok_retN, ok_set, ok_var0, ok_varS, ok_c, ok_nil, ok_cons, ok_tup, ok_lst, ok_val, ok_new, ok_bin, ok_un, ok_call, ok_callL, ok_test, tst_bl, ok_notT, ok_andT, ok_orT, ok_if, ok_ifS, ok_and, ok_or, ok_not, ok_mt, ok_put, ok_extend, pr2_mk, ok_par2, ok_asg, ok_for, ok_lc, ok_yes, ok_noPart, prt_int, ok_part, ok_sl, ok_gNm, ok_gTp, ok_gsN, ok_gsC, rg1_mk, rg2_mk, ok_rng1, ok_rng2, srcK_tup, srcK_ls, ok_src, finK_next, finK_ret, List.set_cons_zero, List.set_cons_succ, List.map_cons, List.map_nil, List.replicate, List.cons_append, List.nil_append, List.length_cons, List.length_nil, Bool.false_eq_true, eq_self, if_true, if_false, Nat.zero_add, rngD_len]
  refine ⟨decide_eq_true (by omega), ?_⟩
  refine ok_lcI (fun i acc s => ∃ (t' : Tap) (xs pool : List Str), acc = xs.map .str ∧ s = tapOb t' :: (r ++ [.lst (pool.map .str)]) ∧ xs.length = i ∧ (xs ++ pool).Perm pool10 ∧ t'.Wf ∧ t'.calls = t.calls + i)
    (fun _ _ _ _ => rfl) (fun i d acc s hd h => ?_) (fun acc s h => ?_) ⟨t, [], pool10, rfl, rfl, rfl, List.Perm.refl _, hw, by simp⟩
  · obtain ⟨t', xs, pool, rfl, rfl, rfl, hp, hw', hc'⟩ := h
    obtain ⟨hi, rfl⟩ := rngD_get hd
    have hpl : xs.length + pool.length = 10 := by rw [← List.length_append, hp.length_eq]; rfl
    have hl : (tapOb t' :: (r ++ [Ob.lst (pool.map .str)]))[r.length + 1]? = some (.lst (pool.map .str)) := st_get1
    simp only [ok_ok, kDrop_ap, kRet_ap, kSet_ap, kCons2_ap, kCons_ap, kTup_ap, kLst_ap, kVal_ap, kNew_ap, kBin2_ap, kBin_ap, kUn_ap, kCall_ap, kCallL_ap, kNotT_ap, kAndT_ap, kOrT_ap, kIf_ap, kIfS_ap, kAnd_ap, kOr_ap, kNot_ap, kMt2_ap, kMt_ap, kPut4_ap, kPut3_ap, kPut2_ap, kPut_ap, kExt2_ap, kExt_ap, kAsg2_ap, kAsg_ap, kFor_ap, kLc_ap, kSl3_ap, kSl2_ap, kSl_ap, kGs_ap, ok_seq, sq_next, sq_ret, sq_brk, sq_cont, ok_nop, ok_brk, ok_cont, ok_drop, ok_ret, ok_retN, ok_set, ok_var0, ok_varS, ok_c, ok_nil, ok_cons, ok_tup, ok_lst, ok_val, ok_new, ok_bin, ok_un, ok_call, ok_callL, ok_test, tst_bl, ok_notT, ok_andT, ok_orT, ok_if, ok_ifS, ok_and, ok_or, ok_not, ok_mt, ok_put, ok_extend, pr2_mk, ok_par2, ok_asg, ok_for, ok_lc, ok_yes, ok_noPart, prt_int, ok_part, ok_sl, ok_gNm, ok_gTp, ok_gsN, ok_gsC, rg1_mk, rg2_mk, ok_rng1, ok_rng2, srcK_tup, srcK_ls, ok_src, finK_next, finK_ret, List.set_cons_zero, List.set_cons_succ, List.map_cons, List.map_nil, List.replicate, List.cons_append, List.nil_append, List.length_cons, List.length_nil, Bool.false_eq_true, eq_self, if_true, if_false, Nat.zero_add, wipeZ]
    refine ⟨isL_loc hl, ?_⟩
    simp only [ok_ok, kDrop_ap, kRet_ap, kSet_ap, kCons2_ap, kCons_ap, kTup_ap, kLst_ap, kVal_ap, kNew_ap, kBin2_ap, kBin_ap, kUn_ap, kCall_ap, kCallL_ap, kNotT_ap, kAndT_ap, kOrT_ap, kIf_ap, kIfS_ap, kAnd_ap, kOr_ap, kNot_ap, kMt2_ap, kMt_ap, kPut4_ap, kPut3_ap, kPut2_ap, kPut_ap, kExt2_ap, kExt_ap, kAsg2_ap, kAsg_ap, kFor_ap, kLc_ap, kSl3_ap, kSl2_ap, kSl_ap, kGs_ap, ok_seq, sq_next, sq_ret, sq_brk, sq_cont, ok_nop, ok_brk, ok_cont, ok_drop, ok_ret, ok_retN, ok_set, ok_var0, ok_varS, ok_c, ok_nil, ok_cons, ok_tup, ok_lst, ok_val, ok_new, ok_bin, ok_un, ok_call, ok_callL, ok_test, tst_bl, ok_notT, ok_andT, ok_orT, ok_if, ok_ifS, ok_and, ok_or, ok_not, ok_mt, ok_put, ok_extend, pr2_mk, ok_par2, ok_asg, ok_for, ok_lc, ok_yes, ok_noPart, prt_int, ok_part, ok_sl, ok_gNm, ok_gTp, ok_gsN, ok_gsC, rg1_mk, rg2_mk, ok_rng1, ok_rng2, srcK_tup, srcK_ls, ok_src, finK_next, finK_ret, List.set_cons_zero, List.set_cons_succ, List.map_cons, List.map_nil, List.replicate, List.cons_append, List.nil_append, List.length_cons, List.length_nil, Bool.false_eq_true, eq_self, if_true, if_false, Nat.zero_add, len_loc hl]
    refine (ht t' (r ++ [.lst (pool.map .str)]) ((pool.map Dv.str).length : Int) hw' (by omega) (by rw [List.length_map]; omega) (by rw [List.length_map]; omega) (hf.app (.one (belows_strs _ _)))).mono ?_
    rintro d s ⟨x, t2, rfl, hx0, hx1, rfl, hw2, hc2⟩
    rw [List.length_map] at hx1
    have hxn : x.toNat < pool.length := by omega
    simp only [ok_ok, kDrop_ap, kRet_ap, kSet_ap, kCons2_ap, kCons_ap, kTup_ap, kLst_ap, kVal_ap, kNew_ap, kBin2_ap, kBin_ap, kUn_ap, kCall_ap, kCallL_ap, kNotT_ap, kAndT_ap, kOrT_ap, kIf_ap, kIfS_ap, kAnd_ap, kOr_ap, kNot_ap, kMt2_ap, kMt_ap, kPut4_ap, kPut3_ap, kPut2_ap, kPut_ap, kExt2_ap, kExt_ap, kAsg2_ap, kAsg_ap, kFor_ap, kLc_ap, kSl3_ap, kSl2_ap, kSl_ap, kGs_ap, ok_seq, sq_next, sq_ret, sq_brk, sq_cont, ok_nop, ok_brk, ok_cont, ok_drop, ok_ret, ok_retN, ok_set, ok_var0, ok_varS, ok_c, ok_nil, ok_cons, ok_tup, ok_lst, ok_val, ok_new, ok_bin, ok_un, ok_call, ok_callL, ok_test, tst_bl, ok_notT, ok_andT, ok_orT, ok_if, ok_ifS, ok_and, ok_or, ok_not, ok_mt, ok_put, ok_extend, pr2_mk, ok_par2, ok_asg, ok_for, ok_lc, ok_yes, ok_noPart, prt_int, ok_part, ok_sl, ok_gNm, ok_gTp, ok_gsN, ok_gsC, rg1_mk, rg2_mk, ok_rng1, ok_rng2, srcK_tup, srcK_ls, ok_src, finK_next, finK_ret, List.set_cons_zero, List.set_cons_succ, List.map_cons, List.map_nil, List.replicate, List.cons_append, List.nil_append, List.length_cons, List.length_nil, Bool.false_eq_true, eq_self, if_true, if_false, Nat.zero_add]
    rw [popAt_loc (d := .str pool[x.toNat]) (ds := pool.map .str) st_get1 hx0 (by omega) (str_get hxn), ok_ok, st_set1]
    refine ⟨t2, xs ++ [pool[x.toNat]], pool.eraseIdx x.toNat, by simp, by rw [map_erase], by simp, ?_, hw2, by rw [hc2, hc']; push_cast; omega⟩
    rw [List.append_assoc]
    refine List.Perm.trans (List.Perm.append_left _ ?_) hp
    show (pool[x.toNat] :: pool.eraseIdx x.toNat).Perm pool
    exact erase_perm pool x.toNat hxn
  · obtain ⟨t', xs, pool, rfl, rfl, hxl, hp, hw', hc'⟩ := h
    rw [rngD_len] at hxl hc'
    have hnd : (xs ++ pool).Nodup := hp.nodup_iff.mpr pool10_nd
    simp only [ok_ok, kDrop_ap, kRet_ap, kSet_ap, kCons2_ap, kCons_ap, kTup_ap, kLst_ap, kVal_ap, kNew_ap, kBin2_ap, kBin_ap, kUn_ap, kCall_ap, kCallL_ap, kNotT_ap, kAndT_ap, kOrT_ap, kIf_ap, kIfS_ap, kAnd_ap, kOr_ap, kNot_ap, kMt2_ap, kMt_ap, kPut4_ap, kPut3_ap, kPut2_ap, kPut_ap, kExt2_ap, kExt_ap, kAsg2_ap, kAsg_ap, kFor_ap, kLc_ap, kSl3_ap, kSl2_ap, kSl_ap, kGs_ap, ok_seq, sq_next, sq_ret, sq_brk, sq_cont, ok_nop, ok_brk, ok_cont, ok_drop, ok_ret, ok_retN, ok_set, ok_var0, ok_varS, ok_c, ok_nil, ok_cons, ok_tup, ok_lst, ok_val, ok_new, ok_bin, ok_un, ok_call, ok_callL, ok_test, tst_bl, ok_notT, ok_andT, ok_orT, ok_if, ok_ifS, ok_and, ok_or, ok_not, ok_mt, ok_put, ok_extend, pr2_mk, ok_par2, ok_asg, ok_for, ok_lc, ok_yes, ok_noPart, prt_int, ok_part, ok_sl, ok_gNm, ok_gTp, ok_gsN, ok_gsC, rg1_mk, rg2_mk, ok_rng1, ok_rng2, srcK_tup, srcK_ls, ok_src, finK_next, finK_ret, List.set_cons_zero, List.set_cons_succ, List.map_cons, List.map_nil, List.replicate, List.cons_append, List.nil_append, List.length_cons, List.length_nil, Bool.false_eq_true, eq_self, if_true, if_false, Nat.zero_add, tuple_ls]
    refine fin_tap hf (below_tup (belows_strs _ _)) ⟨xs, t', rfl, by omega, (List.nodup_append.mp hnd).1, fun x hx => hp.mem_iff.mp (List.mem_append.mpr (.inl hx)), rfl, hw', by omega, by omega⟩
end Z

namespace Z
open PySem PySem.Spec PyProof.Rows L2

/-! ### sorted texts -/
def srtS (xs : List Str) : List Str := xs.mergeSort (PySem.W.dataLe false fun x => .str x)
theorem srtS_perm (xs : List Str) : (srtS xs).Perm xs := List.mergeSort_perm _ _
theorem sortD_map {α : Type} (f : α → Dv) (g : α → PyData) (xs : List α) : sortD (xs.map f) (xs.map g) = (xs.mergeSort (PySem.W.dataLe false g)).map f := by
  unfold sortD
  rw [show (xs.map f).zip (xs.map g) = xs.map fun x => (f x, g x) by induction xs with | nil => rfl | cons x l ih => simp [ih]]
  rw [← List.map_mergeSort (r := PySem.W.dataLe false g) (f := fun x => (f x, g x)) (fun _ _ _ _ => rfl), List.map_map]
  rfl
theorem mapM_map {α β γ : Type} {f : α → β} {g : β → Option γ} {h : α → γ} : ∀ {xs : List α}, (∀ x ∈ xs, g (f x) = some (h x)) → (xs.map f).mapM g = some (xs.map h)
  | [], _ => rfl
  | x :: l, hh => by
    rw [List.map_cons, List.mapM_cons, hh x List.mem_cons_self, mapM_map (xs := l) fun y hy => hh y (List.mem_cons_of_mem _ hy)]
    rfl
theorem sorted_of {α : Type} {d : Dv} {s : Sto} {xs : List α} {f : α → Dv} {g : α → PyData} (hd : seqOf s d = some (xs.map f)) (hf : ∀ x ∈ xs, pyOf s (f x) = some (g x)) (ha : alikeB (xs.map g) = true) (hb : sortB (xs.map g) = true) :
    gSorted [d] s = .ok ((xs.mergeSort (PySem.W.dataLe false g)).map f) s := by
  show (match seqOf s d with | some ds => (match ds.mapM (pyOf s) with | some ps => Rs.iff (alikeB ps && sortB ps) (.ok (sortD ds ps) s) | none => .bad) | none => .bad) = _
  rw [hd]
  show (match (xs.map f).mapM (pyOf s) with | some ps => Rs.iff (alikeB ps && sortB ps) (Rs.ok (sortD (xs.map f) ps) s) | none => .bad) = _
  rw [mapM_map hf]
  show Rs.iff (alikeB (xs.map g) && sortB (xs.map g)) (Rs.ok (sortD (xs.map f) (xs.map g)) s) = _
  rw [ha, hb, sortD_map]; rfl
theorem alike_strs (xs : List Str) : alikeB (xs.map PyData.str) = true := by
  refine List.all_eq_true.mpr fun d hd => List.all_eq_true.mpr fun e he => ?_
  obtain ⟨x, _, rfl⟩ := List.mem_map.mp hd
  obtain ⟨y, _, rfl⟩ := List.mem_map.mp he
  simp [PySem.W.alike]
theorem sortB_strs (xs : List Str) : sortB (xs.map PyData.str) = true := by
  refine Bool.or_eq_true_iff.mpr (.inr (List.all_eq_true.mpr fun d hd => ?_))
  obtain ⟨x, _, rfl⟩ := List.mem_map.mp hd
  rfl
theorem sorted_ls {xs : List Str} {s : Sto} : gSorted [.ls (xs.map .str)] s = .ok ((srtS xs).map .str) s := sorted_of (g := .str) rfl (fun x _ => rfl) (alike_strs xs) (sortB_strs xs)
theorem sorted_tup {xs : List Str} {s : Sto} : gSorted [.tup (xs.map .str)] s = .ok ((srtS xs).map .str) s := sorted_of (g := .str) rfl (fun x _ => rfl) (alike_strs xs) (sortB_strs xs)
theorem cut_take {ds : List Dv} {k : Int} (h : 0 ≤ k) : cutD ds none (some k) = ds.take k.toNat := by
  unfold cutD
  have e : HT.sIx ds.length ds.length (some k) = min k.toNat ds.length := by
    have := HT.sIx_nat ds.length ds.length k.toNat
    rwa [Int.toNat_of_nonneg h] at this
  rw [e]
  show (ds.drop 0).take (min k.toNat ds.length - 0) = _
  rw [List.drop_zero, Nat.sub_zero, List.take_eq_take_iff]; omega
theorem pool10_ok : ∀ x ∈ pool10, PyData.strOk x = true := by decide +kernel
theorem eq_nil {xs : List Str} {s : Sto} (hs : ∀ x ∈ xs, PyData.strOk x = true) : gEq (.ls (xs.map .str)) (.ls []) s = .ok (.bl xs.isEmpty) s := by
  have h1 : pyOf s (.ls (xs.map .str)) = some (.list (xs.map .str)) := by
    show ((xs.map Dv.str).mapM (py s 39)).map _ = _
    rw [mapM_map (g := py s 39) (f := Dv.str) (h := PyData.str) (xs := xs) fun x _ => rfl]; rfl
  have h2 : pyOf s (.ls []) = some (.list []) := rfl
  have h3 : SeqAt.shaped (.list (xs.map .str)) = true := by
    have a : ∀ xs : List Str, (∀ x ∈ xs, PyData.strOk x = true) → PyData.canLayAll0 (xs.map .str) = true ∧ PyData.depthAll (xs.map .str) = 0 := by
      intro xs
      induction xs with
      | nil => exact fun _ => ⟨by simp [PyData.canLayAll0], by simp [PyData.depthAll]⟩
      | cons x l ih =>
        intro h
        have ih := ih fun y hy => h y (List.mem_cons_of_mem _ hy)
        exact ⟨by simp [PyData.canLayAll0, PyData.canLay0, ih.1, h x List.mem_cons_self], by simpa [PyData.depthAll, PyData.depth] using ih.2⟩
    simp [SeqAt.shaped, PyData.canLay0, PyData.depth, (a xs hs).1, (a xs hs).2]
  have h4 : SeqAt.shaped (.list []) = true := by simp [SeqAt.shaped, PyData.canLay0, PyData.canLayAll0, PyData.depth, PyData.depthAll]
  show (match pyOf s (.ls (xs.map .str)), pyOf s (.ls []) with | some p, some q => Rs.iff (SeqAt.shaped p && SeqAt.shaped q) (Rs.ok (Dv.bl (PyData.eqv p q)) s) | _, _ => .bad) = _
  rw [h1, h2]
  show Rs.iff (SeqAt.shaped (.list (xs.map .str)) && SeqAt.shaped (.list [])) _ = _
  rw [h3, h4]
  cases xs with
  | nil => simp [Rs.iff, PyData.eqv, PyData.eqvAll]
  | cons x l => simp [Rs.iff, PyData.eqv, PyData.eqvAll]

/-! ### some of the names -/
def bOthers (φt : Phi) : Fn Ct :=
  fRet (fCall gTuple (fCons (fVal (fCallL gSorted (fCons (fSl (fVal (fLc (fSrc (fVar 1)) [4] (gNm 4) (fAndT (fTest (fBin gNe (fVar 4) (fVar 2))) (fTest (fBin gEq (fCall φt (fCons (fVar 0) (fCons (fC (.int 2)) (fNil)))) (fC (.int 0))))) (fVar 4))) (fNoPart) (fPart (fVar 3))) (fNil)))) (fNil)))
def OthersS (φ : Phi) : Prop := ∀ (t : Tap) (r : Sto) (lots : List Str) (name : Str) (most : Int), t.Wf → t.calls + lots.length ≤ 1000000 → lots.length ≤ 1000 → 0 ≤ most → Fl r →
  Ok (φ [.loc 0, .tup (lots.map .str), .str name, .int most] (tapOb t :: r)) fun d s' => ∃ (ws : List Str) (t' : Tap), d = .tup ((srtS ws).map .str) ∧ ws.Sublist lots ∧ name ∉ ws ∧ (ws.length : Int) ≤ most ∧
  s' = tapOb t' :: r ∧ t'.Wf ∧ t.calls ≤ t'.calls ∧ t'.calls ≤ t.calls + lots.length
theorem take_succ' {α : Type} {l : List α} {i : Nat} {x : α} (h : l[i]? = some x) : l.take (i + 1) = l.take i ++ [x] := by
  rw [List.take_succ, h]; rfl
theorem others_spec {φt : Phi} (ht : TakeS φt) : OthersS (fDef 4 5 (bOthers φt)) := by
  intro t r lots name most hw hc hl hm hf
  rw [ok_def]
  refine ⟨rfl, ?_⟩
  unfold bOthers
  simp only [ok_ok, kDrop_ap, kRet_ap, kSet_ap, kCons2_ap, kCons_ap, kTup_ap, kLst_ap, kVal_ap, kNew_ap, kBin2_ap, kBin_ap, kUn_ap, kCall_ap, kCallL_ap, kNotT_ap, kAndT_ap, kOrT_ap, kIf_ap, kIfS_ap, kAnd_ap, kOr_ap, kNot_ap, kMt2_ap, kMt_ap, kPut4_ap, kPut3_ap, kPut2_ap, kPut_ap, kExt2_ap, kExt_ap, kAsg2_ap, kAsg_ap, kFor_ap, kLc_ap, kSl3_ap, kSl2_ap, kSl_ap, kGs_ap, ok_seq, sq_next, sq_ret, sq_brk, sq_cont, ok_nop, ok_brk, ok_cont, ok_drop, ok_ret, ok_retN, ok_set, ok_var0, ok_varS, ok_c, ok_nil, ok_cons, ok_tup, ok_lst, ok_val, ok_new, ok_bin, ok_un, ok_call, ok_callL, ok_test, tst_bl, ok_notT, ok_andT, ok_orT, ok_if, ok_ifS, ok_and, ok_or, ok_not, ok_mt, ok_put, ok_extend, pr2_mk, ok_par2, ok_asg, ok_for, ok_lc, ok_yes, ok_noPart, prt_int, ok_part, ok_sl, ok_gNm, ok_gTp, ok_gsN, ok_gsC, rg1_mk, rg2_mk, ok_rng1, ok_rng2, srcK_tup, srcK_ls, ok_src, finK_next, finK_ret, List.set_cons_zero, List.set_cons_succ, List.map_cons, List.map_nil, List.replicate, List.cons_append, List.nil_append, List.length_cons, List.length_nil, Bool.false_eq_true, eq_self, if_true, if_false, Nat.zero_add]
  refine ⟨decide_eq_true (by rw [List.length_map]; omega), ?_⟩
  refine ok_lcI (fun i acc s => ∃ (t' : Tap) (ws : List Str), acc = ws.map .str ∧ s = tapOb t' :: r ∧ ws.Sublist (lots.take i) ∧ name ∉ ws ∧ t'.Wf ∧ t.calls ≤ t'.calls ∧ t'.calls ≤ t.calls + i)
    (fun _ _ _ _ => rfl) (fun i d acc s hd h => ?_) (fun acc s h => ?_) ⟨t, [], rfl, rfl, List.nil_sublist _, List.not_mem_nil, hw, by omega, by omega⟩
  · obtain ⟨t', ws, rfl, rfl, hs, hn, hw', hc1, hc2⟩ := h
    have hi : i < lots.length := by have := (List.getElem?_eq_some_iff.mp hd).1; rwa [List.length_map] at this
    rw [List.getElem?_map, List.getElem?_eq_getElem hi] at hd
    cases hd
    have hs' : ws.Sublist (lots.take (i + 1)) := by rw [take_succ' (List.getElem?_eq_getElem hi)]; exact hs.trans (List.sublist_append_left _ _)
    simp only [ok_ok, kDrop_ap, kRet_ap, kSet_ap, kCons2_ap, kCons_ap, kTup_ap, kLst_ap, kVal_ap, kNew_ap, kBin2_ap, kBin_ap, kUn_ap, kCall_ap, kCallL_ap, kNotT_ap, kAndT_ap, kOrT_ap, kIf_ap, kIfS_ap, kAnd_ap, kOr_ap, kNot_ap, kMt2_ap, kMt_ap, kPut4_ap, kPut3_ap, kPut2_ap, kPut_ap, kExt2_ap, kExt_ap, kAsg2_ap, kAsg_ap, kFor_ap, kLc_ap, kSl3_ap, kSl2_ap, kSl_ap, kGs_ap, ok_seq, sq_next, sq_ret, sq_brk, sq_cont, ok_nop, ok_brk, ok_cont, ok_drop, ok_ret, ok_retN, ok_set, ok_var0, ok_varS, ok_c, ok_nil, ok_cons, ok_tup, ok_lst, ok_val, ok_new, ok_bin, ok_un, ok_call, ok_callL, ok_test, tst_bl, ok_notT, ok_andT, ok_orT, ok_if, ok_ifS, ok_and, ok_or, ok_not, ok_mt, ok_put, ok_extend, pr2_mk, ok_par2, ok_asg, ok_for, ok_lc, ok_yes, ok_noPart, prt_int, ok_part, ok_sl, ok_gNm, ok_gTp, ok_gsN, ok_gsC, rg1_mk, rg2_mk, ok_rng1, ok_rng2, srcK_tup, srcK_ls, ok_src, finK_next, finK_ret, List.set_cons_zero, List.set_cons_succ, List.map_cons, List.map_nil, List.replicate, List.cons_append, List.nil_append, List.length_cons, List.length_nil, Bool.false_eq_true, eq_self, if_true, if_false, Nat.zero_add, wipeZ, ne_str]
    split
    · rename_i hne
      have hne : lots[i] ≠ name := by simpa using hne
      refine (ht t' r 2 hw' (by omega) (by omega) (by omega) hf).mono ?_
      rintro d s ⟨x, t2, rfl, hx0, hx1, rfl, hw2, hc2'⟩
      simp only [ok_ok, kDrop_ap, kRet_ap, kSet_ap, kCons2_ap, kCons_ap, kTup_ap, kLst_ap, kVal_ap, kNew_ap, kBin2_ap, kBin_ap, kUn_ap, kCall_ap, kCallL_ap, kNotT_ap, kAndT_ap, kOrT_ap, kIf_ap, kIfS_ap, kAnd_ap, kOr_ap, kNot_ap, kMt2_ap, kMt_ap, kPut4_ap, kPut3_ap, kPut2_ap, kPut_ap, kExt2_ap, kExt_ap, kAsg2_ap, kAsg_ap, kFor_ap, kLc_ap, kSl3_ap, kSl2_ap, kSl_ap, kGs_ap, ok_seq, sq_next, sq_ret, sq_brk, sq_cont, ok_nop, ok_brk, ok_cont, ok_drop, ok_ret, ok_retN, ok_set, ok_var0, ok_varS, ok_c, ok_nil, ok_cons, ok_tup, ok_lst, ok_val, ok_new, ok_bin, ok_un, ok_call, ok_callL, ok_test, tst_bl, ok_notT, ok_andT, ok_orT, ok_if, ok_ifS, ok_and, ok_or, ok_not, ok_mt, ok_put, ok_extend, pr2_mk, ok_par2, ok_asg, ok_for, ok_lc, ok_yes, ok_noPart, prt_int, ok_part, ok_sl, ok_gNm, ok_gTp, ok_gsN, ok_gsC, rg1_mk, rg2_mk, ok_rng1, ok_rng2, srcK_tup, srcK_ls, ok_src, finK_next, finK_ret, List.set_cons_zero, List.set_cons_succ, List.map_cons, List.map_nil, List.replicate, List.cons_append, List.nil_append, List.length_cons, List.length_nil, Bool.false_eq_true, eq_self, if_true, if_false, Nat.zero_add, eq_int]
      split
      · refine ⟨t2, ws ++ [lots[i]], by simp, rfl, ?_, ?_, hw2, by omega, by push_cast; omega⟩
        · rw [take_succ' (List.getElem?_eq_getElem hi)]; exact hs.append (List.Sublist.refl _)
        · intro hm
          rcases List.mem_append.mp hm with z | z
          · exact hn z
          · exact hne (List.mem_singleton.mp z).symm
      · exact ⟨t2, ws, rfl, rfl, hs', hn, hw2, by omega, by push_cast; omega⟩
    · exact ⟨t', ws, rfl, rfl, hs', hn, hw', by omega, by push_cast; omega⟩
  · obtain ⟨t', ws, rfl, rfl, hs, hn, hw', hc1, hc2⟩ := h
    rw [List.length_map] at hs hc2
    rw [List.take_length] at hs
    have e : gSl (.ls (ws.map .str)) none (some most) (tapOb t' :: r) = .ok (.ls ((ws.take most.toNat).map .str)) (tapOb t' :: r) := by
      show Rs.ok (Dv.ls (cutD _ _ _)) _ = _
      rw [cut_take hm, List.map_take]
    simp only [ok_ok, kDrop_ap, kRet_ap, kSet_ap, kCons2_ap, kCons_ap, kTup_ap, kLst_ap, kVal_ap, kNew_ap, kBin2_ap, kBin_ap, kUn_ap, kCall_ap, kCallL_ap, kNotT_ap, kAndT_ap, kOrT_ap, kIf_ap, kIfS_ap, kAnd_ap, kOr_ap, kNot_ap, kMt2_ap, kMt_ap, kPut4_ap, kPut3_ap, kPut2_ap, kPut_ap, kExt2_ap, kExt_ap, kAsg2_ap, kAsg_ap, kFor_ap, kLc_ap, kSl3_ap, kSl2_ap, kSl_ap, kGs_ap, ok_seq, sq_next, sq_ret, sq_brk, sq_cont, ok_nop, ok_brk, ok_cont, ok_drop, ok_ret, ok_retN, ok_set, ok_var0, ok_varS, ok_c, ok_nil, ok_cons, ok_tup, ok_lst, ok_val, ok_new, ok_bin, ok_un, ok_call, ok_callL, ok_test, tst_bl, ok_notT, ok_andT, ok_orT, ok_if, ok_ifS, ok_and, ok_or, ok_not, ok_mt, ok_put, ok_extend, pr2_mk, ok_par2, ok_asg, ok_for, ok_lc, ok_yes, ok_noPart, prt_int, ok_part, ok_sl, ok_gNm, ok_gTp, ok_gsN, ok_gsC, rg1_mk, rg2_mk, ok_rng1, ok_rng2, srcK_tup, srcK_ls, ok_src, finK_next, finK_ret, List.set_cons_zero, List.set_cons_succ, List.map_cons, List.map_nil, List.replicate, List.cons_append, List.nil_append, List.length_cons, List.length_nil, Bool.false_eq_true, eq_self, if_true, if_false, Nat.zero_add, e, sorted_ls, tuple_ls]
    refine fin_tap0 hf (below_tup (belows_strs _ _)) ⟨ws.take most.toNat, t', rfl, (List.take_sublist _ _).trans hs, fun hm => hn (List.mem_of_mem_take hm), ?_, rfl, hw', hc1, hc2⟩
    rw [List.length_take]; omega
def bNames (φt : Phi) : Fn Ct :=
  fSeq (fSet 2 (fVal (fLc (fSrc (fVar 1)) [3] (gNm 3) (fTest (fBin gEq (fCall φt (fCons (fVar 0) (fCons (fC (.int 2)) (fNil)))) (fC (.int 0)))) (fVar 3))))
  (fSeq (fIfS (fTest (fBin gEq (fVar 2) (fVal (fLst (fNil))))) (fSet 2 (fVal (fLst (fCons (fBin gIx (fVar 1) (fCall φt (fCons (fVar 0) (fCons (fCall gLen (fCons (fVar 1) (fNil))) (fNil))))) (fNil))))) (fNop))
  (fRet (fCall gTuple (fCons (fVal (fCallL gSorted (fCons (fVar 2) (fNil)))) (fNil)))))
def NamesS (φ : Phi) : Prop := ∀ (t : Tap) (r : Sto) (lots : List Str), (∀ x ∈ lots, x ∈ pool10) → t.Wf → t.calls + lots.length + 1 ≤ 1000000 → lots.length ≤ 1000 → 1 ≤ lots.length → Fl r →
  Ok (φ [.loc 0, .tup (lots.map .str)] (tapOb t :: r)) fun d s' => ∃ (ws : List Str) (t' : Tap), d = .tup ((srtS ws).map .str) ∧ ws.Sublist lots ∧ ws ≠ [] ∧
  s' = tapOb t' :: r ∧ t'.Wf ∧ t.calls ≤ t'.calls ∧ t'.calls ≤ t.calls + lots.length + 1
theorem names_spec {φt : Phi} (ht : TakeS φt) : NamesS (fDef 2 4 (bNames φt)) := by
  intro t r lots hp hw hc hl hl1 hf
  rw [ok_def]
  refine ⟨rfl, ?_⟩
  unfold bNames
  simp only [ok_ok, kDrop_ap, kRet_ap, kSet_ap, kCons2_ap, kCons_ap, kTup_ap, kLst_ap, kVal_ap, kNew_ap, kBin2_ap, kBin_ap, kUn_ap, kCall_ap, kCallL_ap, kNotT_ap, kAndT_ap, kOrT_ap, kIf_ap, kIfS_ap, kAnd_ap, kOr_ap, kNot_ap, kMt2_ap, kMt_ap, kPut4_ap, kPut3_ap, kPut2_ap, kPut_ap, kExt2_ap, kExt_ap, kAsg2_ap, kAsg_ap, kFor_ap, kLc_ap, kSl3_ap, kSl2_ap, kSl_ap, kGs_ap, ok_seq, sq_next, sq_ret, sq_brk, sq_cont, ok_nop, ok_brk, ok_cont, ok_drop, ok_ret, ok_retN, ok_set, ok_var0, ok_varS, ok_c, ok_nil, ok_cons, ok_tup, ok_lst, ok_val, ok_new, ok_bin, ok_un, ok_call, ok_callL, ok_test, tst_bl, ok_notT, ok_andT, ok_orT, ok_if, ok_ifS, ok_and, ok_or, ok_not, ok_mt, ok_put, ok_extend, pr2_mk, ok_par2, ok_asg, ok_for, ok_lc, ok_yes, ok_noPart, prt_int, ok_part, ok_sl, ok_gNm, ok_gTp, ok_gsN, ok_gsC, rg1_mk, rg2_mk, ok_rng1, ok_rng2, srcK_tup, srcK_ls, ok_src, finK_next, finK_ret, List.set_cons_zero, List.set_cons_succ, List.map_cons, List.map_nil, List.replicate, List.cons_append, List.nil_append, List.length_cons, List.length_nil, Bool.false_eq_true, eq_self, if_true, if_false, Nat.zero_add]
  refine ⟨decide_eq_true (by rw [List.length_map]; omega), ?_⟩
  refine ok_lcI (fun i acc s => ∃ (t' : Tap) (ws : List Str), acc = ws.map .str ∧ s = tapOb t' :: r ∧ ws.Sublist (lots.take i) ∧ t'.Wf ∧ t.calls ≤ t'.calls ∧ t'.calls ≤ t.calls + i)
    (fun _ _ _ _ => rfl) (fun i d acc s hd h => ?_) (fun acc s h => ?_) ⟨t, [], rfl, rfl, List.nil_sublist _, hw, by omega, by omega⟩
  · obtain ⟨t', ws, rfl, rfl, hs, hw', hc1, hc2⟩ := h
    have hi : i < lots.length := by have := (List.getElem?_eq_some_iff.mp hd).1; rwa [List.length_map] at this
    rw [List.getElem?_map, List.getElem?_eq_getElem hi] at hd
    cases hd
    have hs' : ws.Sublist (lots.take (i + 1)) := by rw [take_succ' (List.getElem?_eq_getElem hi)]; exact hs.trans (List.sublist_append_left _ _)
    simp only [ok_ok, kDrop_ap, kRet_ap, kSet_ap, kCons2_ap, kCons_ap, kTup_ap, kLst_ap, kVal_ap, kNew_ap, kBin2_ap, kBin_ap, kUn_ap, kCall_ap, kCallL_ap, kNotT_ap, kAndT_ap, kOrT_ap, kIf_ap, kIfS_ap, kAnd_ap, kOr_ap, kNot_ap, kMt2_ap, kMt_ap, kPut4_ap, kPut3_ap, kPut2_ap, kPut_ap, kExt2_ap, kExt_ap, kAsg2_ap, kAsg_ap, kFor_ap, kLc_ap, kSl3_ap, kSl2_ap, kSl_ap, kGs_ap, ok_seq, sq_next, sq_ret, sq_brk, sq_cont, ok_nop, ok_brk, ok_cont, ok_drop, ok_ret, ok_retN, ok_set, ok_var0, ok_varS, ok_c, ok_nil, ok_cons, ok_tup, ok_lst, ok_val, ok_new, ok_bin, ok_un, ok_call, ok_callL, ok_test, tst_bl, ok_notT, ok_andT, ok_orT, ok_if, ok_ifS, ok_and, ok_or, ok_not, ok_mt, ok_put, ok_extend, pr2_mk, ok_par2, ok_asg, ok_for, ok_lc, ok_yes, ok_noPart, prt_int, ok_part, ok_sl, ok_gNm, ok_gTp, ok_gsN, ok_gsC, rg1_mk, rg2_mk, ok_rng1, ok_rng2, srcK_tup, srcK_ls, ok_src, finK_next, finK_ret, List.set_cons_zero, List.set_cons_succ, List.map_cons, List.map_nil, List.replicate, List.cons_append, List.nil_append, List.length_cons, List.length_nil, Bool.false_eq_true, eq_self, if_true, if_false, Nat.zero_add, wipeZ]
    refine (ht t' r 2 hw' (by omega) (by omega) (by omega) hf).mono ?_
    rintro d s ⟨x, t2, rfl, hx0, hx1, rfl, hw2, hc2'⟩
    simp only [ok_ok, kDrop_ap, kRet_ap, kSet_ap, kCons2_ap, kCons_ap, kTup_ap, kLst_ap, kVal_ap, kNew_ap, kBin2_ap, kBin_ap, kUn_ap, kCall_ap, kCallL_ap, kNotT_ap, kAndT_ap, kOrT_ap, kIf_ap, kIfS_ap, kAnd_ap, kOr_ap, kNot_ap, kMt2_ap, kMt_ap, kPut4_ap, kPut3_ap, kPut2_ap, kPut_ap, kExt2_ap, kExt_ap, kAsg2_ap, kAsg_ap, kFor_ap, kLc_ap, kSl3_ap, kSl2_ap, kSl_ap, kGs_ap, ok_seq, sq_next, sq_ret, sq_brk, sq_cont, ok_nop, ok_brk, ok_cont, ok_drop, ok_ret, ok_retN, ok_set, ok_var0, ok_varS, ok_c, ok_nil, ok_cons, ok_tup, ok_lst, ok_val, ok_new, ok_bin, ok_un, ok_call, ok_callL, ok_test, tst_bl, ok_notT, ok_andT, ok_orT, ok_if, ok_ifS, ok_and, ok_or, ok_not, ok_mt, ok_put, ok_extend, pr2_mk, ok_par2, ok_asg, ok_for, ok_lc, ok_yes, ok_noPart, prt_int, ok_part, ok_sl, ok_gNm, ok_gTp, ok_gsN, ok_gsC, rg1_mk, rg2_mk, ok_rng1, ok_rng2, srcK_tup, srcK_ls, ok_src, finK_next, finK_ret, List.set_cons_zero, List.set_cons_succ, List.map_cons, List.map_nil, List.replicate, List.cons_append, List.nil_append, List.length_cons, List.length_nil, Bool.false_eq_true, eq_self, if_true, if_false, Nat.zero_add, eq_int]
    split
    · refine ⟨t2, ws ++ [lots[i]], by simp, rfl, ?_, hw2, by omega, by push_cast; omega⟩
      rw [take_succ' (List.getElem?_eq_getElem hi)]; exact hs.append (List.Sublist.refl _)
    · exact ⟨t2, ws, rfl, rfl, hs', hw2, by omega, by push_cast; omega⟩
  · obtain ⟨t', ws, rfl, rfl, hs, hw', hc1, hc2⟩ := h
    rw [List.length_map] at hs hc2
    rw [List.take_length] at hs
    simp only [ok_ok, kDrop_ap, kRet_ap, kSet_ap, kCons2_ap, kCons_ap, kTup_ap, kLst_ap, kVal_ap, kNew_ap, kBin2_ap, kBin_ap, kUn_ap, kCall_ap, kCallL_ap, kNotT_ap, kAndT_ap, kOrT_ap, kIf_ap, kIfS_ap, kAnd_ap, kOr_ap, kNot_ap, kMt2_ap, kMt_ap, kPut4_ap, kPut3_ap, kPut2_ap, kPut_ap, kExt2_ap, kExt_ap, kAsg2_ap, kAsg_ap, kFor_ap, kLc_ap, kSl3_ap, kSl2_ap, kSl_ap, kGs_ap, ok_seq, sq_next, sq_ret, sq_brk, sq_cont, ok_nop, ok_brk, ok_cont, ok_drop, ok_ret, ok_retN, ok_set, ok_var0, ok_varS, ok_c, ok_nil, ok_cons, ok_tup, ok_lst, ok_val, ok_new, ok_bin, ok_un, ok_call, ok_callL, ok_test, tst_bl, ok_notT, ok_andT, ok_orT, ok_if, ok_ifS, ok_and, ok_or, ok_not, ok_mt, ok_put, ok_extend, pr2_mk, ok_par2, ok_asg, ok_for, ok_lc, ok_yes, ok_noPart, prt_int, ok_part, ok_sl, ok_gNm, ok_gTp, ok_gsN, ok_gsC, rg1_mk, rg2_mk, ok_rng1, ok_rng2, srcK_tup, srcK_ls, ok_src, finK_next, finK_ret, List.set_cons_zero, List.set_cons_succ, List.map_cons, List.map_nil, List.replicate, List.cons_append, List.nil_append, List.length_cons, List.length_nil, Bool.false_eq_true, eq_self, if_true, if_false, Nat.zero_add]
    refine ⟨by decide, ?_⟩
    simp only [ok_ok, kDrop_ap, kRet_ap, kSet_ap, kCons2_ap, kCons_ap, kTup_ap, kLst_ap, kVal_ap, kNew_ap, kBin2_ap, kBin_ap, kUn_ap, kCall_ap, kCallL_ap, kNotT_ap, kAndT_ap, kOrT_ap, kIf_ap, kIfS_ap, kAnd_ap, kOr_ap, kNot_ap, kMt2_ap, kMt_ap, kPut4_ap, kPut3_ap, kPut2_ap, kPut_ap, kExt2_ap, kExt_ap, kAsg2_ap, kAsg_ap, kFor_ap, kLc_ap, kSl3_ap, kSl2_ap, kSl_ap, kGs_ap, ok_seq, sq_next, sq_ret, sq_brk, sq_cont, ok_nop, ok_brk, ok_cont, ok_drop, ok_ret, ok_retN, ok_set, ok_var0, ok_varS, ok_c, ok_nil, ok_cons, ok_tup, ok_lst, ok_val, ok_new, ok_bin, ok_un, ok_call, ok_callL, ok_test, tst_bl, ok_notT, ok_andT, ok_orT, ok_if, ok_ifS, ok_and, ok_or, ok_not, ok_mt, ok_put, ok_extend, pr2_mk, ok_par2, ok_asg, ok_for, ok_lc, ok_yes, ok_noPart, prt_int, ok_part, ok_sl, ok_gNm, ok_gTp, ok_gsN, ok_gsC, rg1_mk, rg2_mk, ok_rng1, ok_rng2, srcK_tup, srcK_ls, ok_src, finK_next, finK_ret, List.set_cons_zero, List.set_cons_succ, List.map_cons, List.map_nil, List.replicate, List.cons_append, List.nil_append, List.length_cons, List.length_nil, Bool.false_eq_true, eq_self, if_true, if_false, Nat.zero_add, eq_nil fun x hx => pool10_ok x (hp x (hs.subset hx))]
    split
    · simp only [ok_ok, kDrop_ap, kRet_ap, kSet_ap, kCons2_ap, kCons_ap, kTup_ap, kLst_ap, kVal_ap, kNew_ap, kBin2_ap, kBin_ap, kUn_ap, kCall_ap, kCallL_ap, kNotT_ap, kAndT_ap, kOrT_ap, kIf_ap, kIfS_ap, kAnd_ap, kOr_ap, kNot_ap, kMt2_ap, kMt_ap, kPut4_ap, kPut3_ap, kPut2_ap, kPut_ap, kExt2_ap, kExt_ap, kAsg2_ap, kAsg_ap, kFor_ap, kLc_ap, kSl3_ap, kSl2_ap, kSl_ap, kGs_ap, ok_seq, sq_next, sq_ret, sq_brk, sq_cont, ok_nop, ok_brk, ok_cont, ok_drop, ok_ret, ok_retN, ok_set, ok_var0, ok_varS, ok_c, ok_nil, ok_cons, ok_tup, ok_lst, ok_val, ok_new, ok_bin, ok_un, ok_call, ok_callL, ok_test, tst_bl, ok_notT, ok_andT, ok_orT, ok_if, ok_ifS, ok_and, ok_or, ok_not, ok_mt, ok_put, ok_extend, pr2_mk, ok_par2, ok_asg, ok_for, ok_lc, ok_yes, ok_noPart, prt_int, ok_part, ok_sl, ok_gNm, ok_gTp, ok_gsN, ok_gsC, rg1_mk, rg2_mk, ok_rng1, ok_rng2, srcK_tup, srcK_ls, ok_src, finK_next, finK_ret, List.set_cons_zero, List.set_cons_succ, List.map_cons, List.map_nil, List.replicate, List.cons_append, List.nil_append, List.length_cons, List.length_nil, Bool.false_eq_true, eq_self, if_true, if_false, Nat.zero_add, len_tup]
      refine (ht t' r ((lots.map Dv.str).length : Int) hw' (by omega) (by rw [List.length_map]; omega) (by rw [List.length_map]; omega) hf).mono ?_
      rintro d s ⟨x, t2, rfl, hx0, hx1, rfl, hw2, hc2'⟩
      rw [List.length_map] at hx1
      have hxn : x.toNat < lots.length := by omega
      simp only [ok_ok, kDrop_ap, kRet_ap, kSet_ap, kCons2_ap, kCons_ap, kTup_ap, kLst_ap, kVal_ap, kNew_ap, kBin2_ap, kBin_ap, kUn_ap, kCall_ap, kCallL_ap, kNotT_ap, kAndT_ap, kOrT_ap, kIf_ap, kIfS_ap, kAnd_ap, kOr_ap, kNot_ap, kMt2_ap, kMt_ap, kPut4_ap, kPut3_ap, kPut2_ap, kPut_ap, kExt2_ap, kExt_ap, kAsg2_ap, kAsg_ap, kFor_ap, kLc_ap, kSl3_ap, kSl2_ap, kSl_ap, kGs_ap, ok_seq, sq_next, sq_ret, sq_brk, sq_cont, ok_nop, ok_brk, ok_cont, ok_drop, ok_ret, ok_retN, ok_set, ok_var0, ok_varS, ok_c, ok_nil, ok_cons, ok_tup, ok_lst, ok_val, ok_new, ok_bin, ok_un, ok_call, ok_callL, ok_test, tst_bl, ok_notT, ok_andT, ok_orT, ok_if, ok_ifS, ok_and, ok_or, ok_not, ok_mt, ok_put, ok_extend, pr2_mk, ok_par2, ok_asg, ok_for, ok_lc, ok_yes, ok_noPart, prt_int, ok_part, ok_sl, ok_gNm, ok_gTp, ok_gsN, ok_gsC, rg1_mk, rg2_mk, ok_rng1, ok_rng2, srcK_tup, srcK_ls, ok_src, finK_next, finK_ret, List.set_cons_zero, List.set_cons_succ, List.map_cons, List.map_nil, List.replicate, List.cons_append, List.nil_append, List.length_cons, List.length_nil, Bool.false_eq_true, eq_self, if_true, if_false, Nat.zero_add, ix_tup hx0 (str_get hxn)]
      refine ⟨rfl, ?_⟩
      have e : gSorted [.ls [Dv.str lots[x.toNat]]] (tapOb t2 :: r) = .ok ((srtS [lots[x.toNat]]).map .str) (tapOb t2 :: r) := sorted_ls (xs := [lots[x.toNat]])
      rw [e]
      simp only [ok_ok, kDrop_ap, kRet_ap, kSet_ap, kCons2_ap, kCons_ap, kTup_ap, kLst_ap, kVal_ap, kNew_ap, kBin2_ap, kBin_ap, kUn_ap, kCall_ap, kCallL_ap, kNotT_ap, kAndT_ap, kOrT_ap, kIf_ap, kIfS_ap, kAnd_ap, kOr_ap, kNot_ap, kMt2_ap, kMt_ap, kPut4_ap, kPut3_ap, kPut2_ap, kPut_ap, kExt2_ap, kExt_ap, kAsg2_ap, kAsg_ap, kFor_ap, kLc_ap, kSl3_ap, kSl2_ap, kSl_ap, kGs_ap, ok_seq, sq_next, sq_ret, sq_brk, sq_cont, ok_nop, ok_brk, ok_cont, ok_drop, ok_ret, ok_retN, ok_set, ok_var0, ok_varS, ok_c, ok_nil, ok_cons, ok_tup, ok_lst, ok_val, ok_new, ok_bin, ok_un, ok_call, ok_callL, ok_test, tst_bl, ok_notT, ok_andT, ok_orT, ok_if, ok_ifS, ok_and, ok_or, ok_not, ok_mt, ok_put, ok_extend, pr2_mk, ok_par2, ok_asg, ok_for, ok_lc, ok_yes, ok_noPart, prt_int, ok_part, ok_sl, ok_gNm, ok_gTp, ok_gsN, ok_gsC, rg1_mk, rg2_mk, ok_rng1, ok_rng2, srcK_tup, srcK_ls, ok_src, finK_next, finK_ret, List.set_cons_zero, List.set_cons_succ, List.map_cons, List.map_nil, List.replicate, List.cons_append, List.nil_append, List.length_cons, List.length_nil, Bool.false_eq_true, eq_self, if_true, if_false, Nat.zero_add, tuple_ls]
      refine fin_tap0 hf (below_tup (belows_strs _ _)) ⟨[lots[x.toNat]], t2, rfl, List.singleton_sublist.mpr (List.getElem_mem _), List.cons_ne_nil _ _, rfl, hw2, by omega, by omega⟩
    · rename_i hne
      simp only [ok_ok, kDrop_ap, kRet_ap, kSet_ap, kCons2_ap, kCons_ap, kTup_ap, kLst_ap, kVal_ap, kNew_ap, kBin2_ap, kBin_ap, kUn_ap, kCall_ap, kCallL_ap, kNotT_ap, kAndT_ap, kOrT_ap, kIf_ap, kIfS_ap, kAnd_ap, kOr_ap, kNot_ap, kMt2_ap, kMt_ap, kPut4_ap, kPut3_ap, kPut2_ap, kPut_ap, kExt2_ap, kExt_ap, kAsg2_ap, kAsg_ap, kFor_ap, kLc_ap, kSl3_ap, kSl2_ap, kSl_ap, kGs_ap, ok_seq, sq_next, sq_ret, sq_brk, sq_cont, ok_nop, ok_brk, ok_cont, ok_drop, ok_ret, ok_retN, ok_set, ok_var0, ok_varS, ok_c, ok_nil, ok_cons, ok_tup, ok_lst, ok_val, ok_new, ok_bin, ok_un, ok_call, ok_callL, ok_test, tst_bl, ok_notT, ok_andT, ok_orT, ok_if, ok_ifS, ok_and, ok_or, ok_not, ok_mt, ok_put, ok_extend, pr2_mk, ok_par2, ok_asg, ok_for, ok_lc, ok_yes, ok_noPart, prt_int, ok_part, ok_sl, ok_gNm, ok_gTp, ok_gsN, ok_gsC, rg1_mk, rg2_mk, ok_rng1, ok_rng2, srcK_tup, srcK_ls, ok_src, finK_next, finK_ret, List.set_cons_zero, List.set_cons_succ, List.map_cons, List.map_nil, List.replicate, List.cons_append, List.nil_append, List.length_cons, List.length_nil, Bool.false_eq_true, eq_self, if_true, if_false, Nat.zero_add, sorted_ls, tuple_ls]
      exact fin_tap0 hf (below_tup (belows_strs _ _)) ⟨ws, t', rfl, hs, fun z => hne (by rw [z]; rfl), rfl, hw', hc1, by omega⟩
end Z

namespace Z
open PySem PySem.Spec PyProof.Rows L2

/-! ### words -/
def lettersS : Str := Str.ofString "abcdefghijklmnopqrstuvwxyz"
def isLet (c : Nat) : Bool := decide (c ∈ lettersS.cps.toList)
def isWordS (z : Str) : Bool := decide (1 ≤ z.length) && decide (z.length ≤ 8) && z.cps.toList.all isLet
theorem pool10_word : ∀ x ∈ pool10, isWordS x = true := by decide +kernel
theorem let_small : ∀ c ∈ lettersS.cps.toList, c < 0x110000 := by decide +kernel
theorem word_ok {x : Str} (h : isWordS x = true) : PyData.strOk x = true ∧ x.cps.size ≤ 8 := by
  unfold isWordS at h
  simp only [Bool.and_eq_true, decide_eq_true_eq] at h
  refine ⟨?_, h.1.2⟩
  show x.cps.all (· < 0x110000) = true
  rw [Array.all_eq_true_iff_forall_mem]
  intro c hc
  have := List.all_eq_true.mp h.2 c (Array.mem_toList_iff.mpr hc)
  exact decide_eq_true (let_small c (of_decide_eq_true this))

/-! ### a count -/
structure Pil where
  name : Str
  many : Int
  slip : Int
  others : List Str
def encS (xs : List Str) : Dv := .tup (xs.map .str)
def encP (p : Pil) : Dv := .tup [.str p.name, .int p.many, .int p.slip, encS p.others]
structure Cnt where
  lots : List Str
  piles : List Pil
  doubts : List (List Str)
def encC (c : Cnt) : Dv := .tup [encS c.lots, .tup (c.piles.map encP), .tup (c.doubts.map encS)]
structure PilOk (lots : List Str) (p : Pil) : Prop where
  name : p.name ∈ lots
  many0 : 0 ≤ p.many
  many1 : p.many ≤ 1000000
  slip0 : 0 ≤ p.slip
  slip1 : p.slip ≤ 10000
  others : p.others = [] ∨ ∃ ws : List Str, p.others = srtS ws ∧ ws.Sublist lots ∧ p.name ∉ ws ∧ ws.length ≤ 2
structure CntOk (c : Cnt) : Prop where
  len2 : 2 ≤ c.lots.length
  len6 : c.lots.length ≤ 6
  nd : c.lots.Nodup
  pool : ∀ x ∈ c.lots, isWordS x = true
  piles : ∀ p ∈ c.piles, PilOk c.lots p
  npiles : c.piles.length ≤ 10
  few : (c.piles.filter fun p => !p.others.isEmpty).length ≤ 3
  doubts : ∀ d ∈ c.doubts, ∃ ws : List Str, d = srtS ws ∧ ws.Sublist c.lots ∧ ws ≠ []
  ndoubts : c.doubts.length ≤ 12
theorem belows_map {α : Type} {n : Nat} {f : α → Dv} (h : ∀ a, below n (f a) = true) (xs : List α) : belows n (xs.map f) = true := belows_all fun d hd => by
  obtain ⟨a, _, rfl⟩ := List.mem_map.mp hd
  exact h a
theorem below_encS (n : Nat) (xs : List Str) : below n (encS xs) = true := below_tup (belows_strs n xs)
theorem below_encP (n : Nat) (p : Pil) : below n (encP p) = true := below_tup (belows_cons rfl (belows_cons rfl (belows_cons rfl (belows_cons (below_encS n _) rfl))))
theorem below_encC (n : Nat) (c : Cnt) : below n (encC c) = true := below_tup (belows_cons (below_encS n _) (belows_cons (below_tup (belows_map (below_encP n) _)) (belows_cons (below_tup (belows_map (below_encS n) _)) rfl)))
def bCount (φt φl φo φn : Phi) : Fn Ct :=
  fSeq (fSet 1 (fCall φl (fCons (fVar 0) (fCons (fBin gAdd (fC (.int 2)) (fCall φt (fCons (fVar 0) (fCons (fC (.int 5)) (fNil))))) (fNil)))))
  (fSeq (fPar2 2 3 (fCons (fNew (fLst (fNil))) (fCons (fC (.int 0)) (fNil))))
  (fSeq (fFor (fRng1 (fCons (fBin gIx (fVal (fLst (fCons (fCall φt (fCons (fVar 0) (fCons (fC (.int 4)) (fNil)))) (fCons (fCall φt (fCons (fVar 0) (fCons (fC (.int 11)) (fNil)))) (fNil))))) (fCall φt (fCons (fVar 0) (fCons (fC (.int 2)) (fNil))))) (fNil))) (gNm 4) (fSeq (fSet 5 (fBin gIx (fVar 1) (fCall φt (fCons (fVar 0) (fCons (fCall gLen (fCons (fVar 1) (fNil))) (fNil))))))
  (fSeq (fSet 6 (fBin gIx (fVal (fLst (fCons (fC (.int 0)) (fCons (fCall φt (fCons (fVar 0) (fCons (fC (.int 5)) (fNil)))) (fCons (fCall φt (fCons (fVar 0) (fCons (fC (.int 100)) (fNil)))) (fCons (fCall φt (fCons (fVar 0) (fCons (fBin gAdd (fBin gPow (fC (.int 10)) (fC (.int 6))) (fC (.int 1))) (fNil)))) (fNil))))))) (fCall φt (fCons (fVar 0) (fCons (fC (.int 4)) (fNil))))))
  (fSeq (fSet 7 (fBin gIx (fVal (fLst (fCons (fC (.int 0)) (fCons (fC (.int 1)) (fCons (fCall φt (fCons (fVar 0) (fCons (fC (.int 4)) (fNil)))) (fCons (fCall φt (fCons (fVar 0) (fCons (fBin gAdd (fBin gPow (fC (.int 10)) (fC (.int 4))) (fC (.int 1))) (fNil)))) (fNil))))))) (fCall φt (fCons (fVar 0) (fCons (fC (.int 4)) (fNil))))))
  (fSeq (fSet 8 (fTup (fNil)))
  (fSeq (fIfS (fAndT (fTest (fBin gLt (fVar 3) (fC (.int 3)))) (fTest (fBin gEq (fCall φt (fCons (fVar 0) (fCons (fC (.int 3)) (fNil)))) (fC (.int 0))))) (fSeq (fSet 8 (fCall φo (fCons (fVar 0) (fCons (fVar 1) (fCons (fVar 5) (fCons (fC (.int 2)) (fNil)))))))
  (fSet 3 (fBin gAdd (fVar 3) (fC (.int 1))))) (fNop))
  (fDrop (fMt isL gAppend (fVar 2) (fCons (fTup (fCons (fVar 5) (fCons (fVar 6) (fCons (fVar 7) (fCons (fVar 8) (fNil)))))) (fNil))))))))))
  (fSeq (fSet 9 (fNew (fLst (fNil))))
  (fSeq (fFor (fRng1 (fCons (fBin gIx (fVal (fLst (fCons (fCall φt (fCons (fVar 0) (fCons (fC (.int 4)) (fNil)))) (fCons (fCall φt (fCons (fVar 0) (fCons (fC (.int 13)) (fNil)))) (fNil))))) (fCall φt (fCons (fVar 0) (fCons (fC (.int 2)) (fNil))))) (fNil))) (gNm 4) (fDrop (fMt isL gAppend (fVar 9) (fCons (fCall φn (fCons (fVar 0) (fCons (fVar 1) (fNil)))) (fNil)))))
  (fRet (fTup (fCons (fVar 1) (fCons (fCall gTuple (fCons (fVar 2) (fNil))) (fCons (fCall gTuple (fCons (fVar 9) (fNil))) (fNil))))))))))
def CountS (φ : Phi) : Prop := ∀ (t : Tap) (r : Sto), t.Wf → t.calls + 1000 ≤ 1000000 → Fl r →
  Ok (φ [.loc 0] (tapOb t :: r)) fun d s' => ∃ (c : Cnt) (t' : Tap), d = encC c ∧ CntOk c ∧ s' = tapOb t' :: r ∧ t'.Wf ∧ t.calls ≤ t'.calls ∧ t'.calls ≤ t.calls + 1000
theorem len2 {r : Sto} {a : Ob} : (r ++ [a]).length + 1 = r.length + 2 := by simp
theorem app2 {r : Sto} {a b : Ob} : r ++ [a] ++ [b] = r ++ [a, b] := by simp
/-- one of two ints, drawn -/
theorem pick2 {a b x : Int} (h0 : 0 ≤ x) (h1 : x < 2) : ∃ y, (∀ s : Sto, gIx (.ls [.int a, .int b]) (.int x) s = .ok (.int y) s) ∧ (y = a ∨ y = b) := by
  have : x = 0 ∨ x = 1 := by omega
  rcases this with rfl | rfl
  · exact ⟨a, fun _ => rfl, .inl rfl⟩
  · exact ⟨b, fun _ => rfl, .inr rfl⟩
theorem pick4 {a b c d x : Int} (h0 : 0 ≤ x) (h1 : x < 4) : ∃ y, (∀ s : Sto, gIx (.ls [.int a, .int b, .int c, .int d]) (.int x) s = .ok (.int y) s) ∧ (y = a ∨ y = b ∨ y = c ∨ y = d) := by
  have : x = 0 ∨ x = 1 ∨ x = 2 ∨ x = 3 := by omega
  rcases this with rfl | rfl | rfl | rfl
  · exact ⟨a, fun _ => rfl, .inl rfl⟩
  · exact ⟨b, fun _ => rfl, .inr (.inl rfl)⟩
  · exact ⟨c, fun _ => rfl, .inr (.inr (.inl rfl))⟩
  · exact ⟨d, fun _ => rfl, .inr (.inr (.inr rfl))⟩
theorem count_spec {φt φl φo φn : Phi} (ht : TakeS φt) (hl : LotsS φl) (ho : OthersS φo) (hn : NamesS φn) : CountS (fDef 1 10 (bCount φt φl φo φn)) := by
  intro t r hw hc hf
  rw [ok_def]
  refine ⟨rfl, ?_⟩
  unfold bCount
  simp only [ok_ok, kDrop_ap, kRet_ap, kSet_ap, kCons2_ap, kCons_ap, kTup_ap, kLst_ap, kVal_ap, kNew_ap, kBin2_ap, kBin_ap, kUn_ap, kCall_ap, kCallL_ap, kNotT_ap, kAndT_ap, kOrT_ap, kIf_ap, kIfS_ap, kAnd_ap, kOr_ap, kNot_ap, kMt2_ap, kMt_ap, kPut4_ap, kPut3_ap, kPut2_ap, kPut_ap, kExt2_ap, kExt_ap, kAsg2_ap, kAsg_ap, kFor_ap, kLc_ap, kSl3_ap, kSl2_ap, kSl_ap, kGs_ap, ok_seq, sq_next, sq_ret, sq_brk, sq_cont, ok_nop, ok_brk, ok_cont, ok_drop, ok_ret, ok_retN, ok_set, ok_var0, ok_varS, ok_c, ok_nil, ok_cons, ok_tup, ok_lst, ok_val, ok_new, ok_bin, ok_un, ok_call, ok_callL, ok_test, tst_bl, ok_notT, ok_andT, ok_orT, ok_if, ok_ifS, ok_and, ok_or, ok_not, ok_mt, ok_put, ok_extend, pr2_mk, ok_par2, ok_asg, ok_for, ok_lc, ok_yes, ok_noPart, prt_int, ok_part, ok_sl, ok_gNm, ok_gTp, ok_gsN, ok_gsC, rg1_mk, rg2_mk, ok_rng1, ok_rng2, srcK_tup, srcK_ls, ok_src, finK_next, finK_ret, List.set_cons_zero, List.set_cons_succ, List.map_cons, List.map_nil, List.replicate, List.cons_append, List.nil_append, List.length_cons, List.length_nil, Bool.false_eq_true, eq_self, if_true, if_false, Nat.zero_add]
  refine (ht t r 5 hw (by omega) (by omega) (by omega) hf).mono ?_
  rintro d s ⟨x, t1, rfl, hx0, hx1, rfl, hw1, hc1⟩
  simp only [ok_ok, kDrop_ap, kRet_ap, kSet_ap, kCons2_ap, kCons_ap, kTup_ap, kLst_ap, kVal_ap, kNew_ap, kBin2_ap, kBin_ap, kUn_ap, kCall_ap, kCallL_ap, kNotT_ap, kAndT_ap, kOrT_ap, kIf_ap, kIfS_ap, kAnd_ap, kOr_ap, kNot_ap, kMt2_ap, kMt_ap, kPut4_ap, kPut3_ap, kPut2_ap, kPut_ap, kExt2_ap, kExt_ap, kAsg2_ap, kAsg_ap, kFor_ap, kLc_ap, kSl3_ap, kSl2_ap, kSl_ap, kGs_ap, ok_seq, sq_next, sq_ret, sq_brk, sq_cont, ok_nop, ok_brk, ok_cont, ok_drop, ok_ret, ok_retN, ok_set, ok_var0, ok_varS, ok_c, ok_nil, ok_cons, ok_tup, ok_lst, ok_val, ok_new, ok_bin, ok_un, ok_call, ok_callL, ok_test, tst_bl, ok_notT, ok_andT, ok_orT, ok_if, ok_ifS, ok_and, ok_or, ok_not, ok_mt, ok_put, ok_extend, pr2_mk, ok_par2, ok_asg, ok_for, ok_lc, ok_yes, ok_noPart, prt_int, ok_part, ok_sl, ok_gNm, ok_gTp, ok_gsN, ok_gsC, rg1_mk, rg2_mk, ok_rng1, ok_rng2, srcK_tup, srcK_ls, ok_src, finK_next, finK_ret, List.set_cons_zero, List.set_cons_succ, List.map_cons, List.map_nil, List.replicate, List.cons_append, List.nil_append, List.length_cons, List.length_nil, Bool.false_eq_true, eq_self, if_true, if_false, Nat.zero_add, add_int]
  refine (hl t1 r (2 + x) hw1 (by omega) (by omega) (by omega) hf).mono ?_
  rintro d s ⟨lots, t2, rfl, hll, hnd, hpool, rfl, hw2, hc2, hc2'⟩
  have hlen : 2 ≤ lots.length ∧ lots.length ≤ 6 := by omega
  simp only [ok_ok, kDrop_ap, kRet_ap, kSet_ap, kCons2_ap, kCons_ap, kTup_ap, kLst_ap, kVal_ap, kNew_ap, kBin2_ap, kBin_ap, kUn_ap, kCall_ap, kCallL_ap, kNotT_ap, kAndT_ap, kOrT_ap, kIf_ap, kIfS_ap, kAnd_ap, kOr_ap, kNot_ap, kMt2_ap, kMt_ap, kPut4_ap, kPut3_ap, kPut2_ap, kPut_ap, kExt2_ap, kExt_ap, kAsg2_ap, kAsg_ap, kFor_ap, kLc_ap, kSl3_ap, kSl2_ap, kSl_ap, kGs_ap, ok_seq, sq_next, sq_ret, sq_brk, sq_cont, ok_nop, ok_brk, ok_cont, ok_drop, ok_ret, ok_retN, ok_set, ok_var0, ok_varS, ok_c, ok_nil, ok_cons, ok_tup, ok_lst, ok_val, ok_new, ok_bin, ok_un, ok_call, ok_callL, ok_test, tst_bl, ok_notT, ok_andT, ok_orT, ok_if, ok_ifS, ok_and, ok_or, ok_not, ok_mt, ok_put, ok_extend, pr2_mk, ok_par2, ok_asg, ok_for, ok_lc, ok_yes, ok_noPart, prt_int, ok_part, ok_sl, ok_gNm, ok_gTp, ok_gsN, ok_gsC, rg1_mk, rg2_mk, ok_rng1, ok_rng2, srcK_tup, srcK_ls, ok_src, finK_next, finK_ret, List.set_cons_zero, List.set_cons_succ, List.map_cons, List.map_nil, List.replicate, List.cons_append, List.nil_append, List.length_cons, List.length_nil, Bool.false_eq_true, eq_self, if_true, if_false, Nat.zero_add]
  refine ⟨rfl, ?_⟩
  refine (ht t2 (r ++ [.lst []]) 4 hw2 (by omega) (by omega) (by omega) (hf.app (.one rfl))).mono ?_
  rintro d s ⟨x1, t3, rfl, h10, h11, rfl, hw3, hc3⟩
  simp only [ok_ok, kDrop_ap, kRet_ap, kSet_ap, kCons2_ap, kCons_ap, kTup_ap, kLst_ap, kVal_ap, kNew_ap, kBin2_ap, kBin_ap, kUn_ap, kCall_ap, kCallL_ap, kNotT_ap, kAndT_ap, kOrT_ap, kIf_ap, kIfS_ap, kAnd_ap, kOr_ap, kNot_ap, kMt2_ap, kMt_ap, kPut4_ap, kPut3_ap, kPut2_ap, kPut_ap, kExt2_ap, kExt_ap, kAsg2_ap, kAsg_ap, kFor_ap, kLc_ap, kSl3_ap, kSl2_ap, kSl_ap, kGs_ap, ok_seq, sq_next, sq_ret, sq_brk, sq_cont, ok_nop, ok_brk, ok_cont, ok_drop, ok_ret, ok_retN, ok_set, ok_var0, ok_varS, ok_c, ok_nil, ok_cons, ok_tup, ok_lst, ok_val, ok_new, ok_bin, ok_un, ok_call, ok_callL, ok_test, tst_bl, ok_notT, ok_andT, ok_orT, ok_if, ok_ifS, ok_and, ok_or, ok_not, ok_mt, ok_put, ok_extend, pr2_mk, ok_par2, ok_asg, ok_for, ok_lc, ok_yes, ok_noPart, prt_int, ok_part, ok_sl, ok_gNm, ok_gTp, ok_gsN, ok_gsC, rg1_mk, rg2_mk, ok_rng1, ok_rng2, srcK_tup, srcK_ls, ok_src, finK_next, finK_ret, List.set_cons_zero, List.set_cons_succ, List.map_cons, List.map_nil, List.replicate, List.cons_append, List.nil_append, List.length_cons, List.length_nil, Bool.false_eq_true, eq_self, if_true, if_false, Nat.zero_add]
  refine (ht t3 (r ++ [.lst []]) 11 hw3 (by omega) (by omega) (by omega) (hf.app (.one rfl))).mono ?_
  rintro d s ⟨x2, t4, rfl, h20, h21, rfl, hw4, hc4⟩
  simp only [ok_ok, kDrop_ap, kRet_ap, kSet_ap, kCons2_ap, kCons_ap, kTup_ap, kLst_ap, kVal_ap, kNew_ap, kBin2_ap, kBin_ap, kUn_ap, kCall_ap, kCallL_ap, kNotT_ap, kAndT_ap, kOrT_ap, kIf_ap, kIfS_ap, kAnd_ap, kOr_ap, kNot_ap, kMt2_ap, kMt_ap, kPut4_ap, kPut3_ap, kPut2_ap, kPut_ap, kExt2_ap, kExt_ap, kAsg2_ap, kAsg_ap, kFor_ap, kLc_ap, kSl3_ap, kSl2_ap, kSl_ap, kGs_ap, ok_seq, sq_next, sq_ret, sq_brk, sq_cont, ok_nop, ok_brk, ok_cont, ok_drop, ok_ret, ok_retN, ok_set, ok_var0, ok_varS, ok_c, ok_nil, ok_cons, ok_tup, ok_lst, ok_val, ok_new, ok_bin, ok_un, ok_call, ok_callL, ok_test, tst_bl, ok_notT, ok_andT, ok_orT, ok_if, ok_ifS, ok_and, ok_or, ok_not, ok_mt, ok_put, ok_extend, pr2_mk, ok_par2, ok_asg, ok_for, ok_lc, ok_yes, ok_noPart, prt_int, ok_part, ok_sl, ok_gNm, ok_gTp, ok_gsN, ok_gsC, rg1_mk, rg2_mk, ok_rng1, ok_rng2, srcK_tup, srcK_ls, ok_src, finK_next, finK_ret, List.set_cons_zero, List.set_cons_succ, List.map_cons, List.map_nil, List.replicate, List.cons_append, List.nil_append, List.length_cons, List.length_nil, Bool.false_eq_true, eq_self, if_true, if_false, Nat.zero_add]
  refine ⟨rfl, ?_⟩
  refine (ht t4 (r ++ [.lst []]) 2 hw4 (by omega) (by omega) (by omega) (hf.app (.one rfl))).mono ?_
  rintro d s ⟨x3, t5, rfl, h30, h31, rfl, hw5, hc5⟩
  obtain ⟨y, ey, hy⟩ := pick2 (a := x1) (b := x2) h30 h31
  simp only [ok_ok, kDrop_ap, kRet_ap, kSet_ap, kCons2_ap, kCons_ap, kTup_ap, kLst_ap, kVal_ap, kNew_ap, kBin2_ap, kBin_ap, kUn_ap, kCall_ap, kCallL_ap, kNotT_ap, kAndT_ap, kOrT_ap, kIf_ap, kIfS_ap, kAnd_ap, kOr_ap, kNot_ap, kMt2_ap, kMt_ap, kPut4_ap, kPut3_ap, kPut2_ap, kPut_ap, kExt2_ap, kExt_ap, kAsg2_ap, kAsg_ap, kFor_ap, kLc_ap, kSl3_ap, kSl2_ap, kSl_ap, kGs_ap, ok_seq, sq_next, sq_ret, sq_brk, sq_cont, ok_nop, ok_brk, ok_cont, ok_drop, ok_ret, ok_retN, ok_set, ok_var0, ok_varS, ok_c, ok_nil, ok_cons, ok_tup, ok_lst, ok_val, ok_new, ok_bin, ok_un, ok_call, ok_callL, ok_test, tst_bl, ok_notT, ok_andT, ok_orT, ok_if, ok_ifS, ok_and, ok_or, ok_not, ok_mt, ok_put, ok_extend, pr2_mk, ok_par2, ok_asg, ok_for, ok_lc, ok_yes, ok_noPart, prt_int, ok_part, ok_sl, ok_gNm, ok_gTp, ok_gsN, ok_gsC, rg1_mk, rg2_mk, ok_rng1, ok_rng2, srcK_tup, srcK_ls, ok_src, finK_next, finK_ret, List.set_cons_zero, List.set_cons_succ, List.map_cons, List.map_nil, List.replicate, List.cons_append, List.nil_append, List.length_cons, List.length_nil, Bool.false_eq_true, eq_self, if_true, if_false, Nat.zero_add, ey]
  have hy01 : 0 ≤ y ∧ y ≤ 10 := by omega
  refine ⟨inRng_small (by omega) (by omega), ?_⟩
  have hy02 : y.toNat ≤ 10 := by omega
  clear hy ey h30 h31 h20 h21 h10 h11
  have hle5 : t5.calls ≤ t.calls + 20 := by omega
  have hge5 : t.calls ≤ t5.calls := by omega
  clear hc1 hc2 hc2' hc3 hc4 hc5 hw1 hw2 hw3 hw4 hw
  refine ok_loop (fun i env s => ∃ (t' : Tap) (ps : List Pil) (few : Int) (v4 v5 v6 v7 v8 : Option Dv), env = [some (.loc 0), some (.tup (lots.map .str)), some (.loc (r.length + 1)), some (.int few), v4, v5, v6, v7, v8, none] ∧ s = tapOb t' :: (r ++ [.lst (ps.map encP)]) ∧
      ps.length = i ∧ (∀ p ∈ ps, PilOk lots p) ∧ ((ps.filter fun p => !p.others.isEmpty).length : Int) ≤ few ∧ few ≤ 3 ∧ t'.Wf ∧ t.calls ≤ t'.calls ∧ t'.calls ≤ t.calls + 20 + 20 * i)
    (fun _ _ _ _ => rfl) (fun i d env s hd h => ?_) (fun env s h => ?_) ⟨t5, [], 0, _, _, _, _, _, rfl, rfl, rfl, fun p hp => absurd hp List.not_mem_nil, by decide, by decide, hw5, hge5, by omega⟩
  · obtain ⟨t6, ps, few, v4, v5, v6, v7, v8, rfl, rfl, rfl, hps, hfew, hfew3, hw6, hge6, hle6⟩ := h
    obtain ⟨hi, rfl⟩ := rngD_get hd
    rw [show (0 : Int) + (ps.length : Int) = ps.length by omega] at *
    have hfr : ∀ ps : List Pil, Fl (r ++ [Ob.lst (ps.map encP)]) := fun ps => hf.app (.one (belows_map (below_encP 0) ps))
    simp only [ok_ok, kDrop_ap, kRet_ap, kSet_ap, kCons2_ap, kCons_ap, kTup_ap, kLst_ap, kVal_ap, kNew_ap, kBin2_ap, kBin_ap, kUn_ap, kCall_ap, kCallL_ap, kNotT_ap, kAndT_ap, kOrT_ap, kIf_ap, kIfS_ap, kAnd_ap, kOr_ap, kNot_ap, kMt2_ap, kMt_ap, kPut4_ap, kPut3_ap, kPut2_ap, kPut_ap, kExt2_ap, kExt_ap, kAsg2_ap, kAsg_ap, kFor_ap, kLc_ap, kSl3_ap, kSl2_ap, kSl_ap, kGs_ap, ok_seq, sq_next, sq_ret, sq_brk, sq_cont, ok_nop, ok_brk, ok_cont, ok_drop, ok_ret, ok_retN, ok_set, ok_var0, ok_varS, ok_c, ok_nil, ok_cons, ok_tup, ok_lst, ok_val, ok_new, ok_bin, ok_un, ok_call, ok_callL, ok_test, tst_bl, ok_notT, ok_andT, ok_orT, ok_if, ok_ifS, ok_and, ok_or, ok_not, ok_mt, ok_put, ok_extend, pr2_mk, ok_par2, ok_asg, ok_for, ok_lc, ok_yes, ok_noPart, prt_int, ok_part, ok_sl, ok_gNm, ok_gTp, ok_gsN, ok_gsC, rg1_mk, rg2_mk, ok_rng1, ok_rng2, srcK_tup, srcK_ls, ok_src, finK_next, finK_ret, List.set_cons_zero, List.set_cons_succ, List.map_cons, List.map_nil, List.replicate, List.cons_append, List.nil_append, List.length_cons, List.length_nil, Bool.false_eq_true, eq_self, if_true, if_false, Nat.zero_add, len_tup]
    refine (ht t6 _ ((lots.map Dv.str).length : Int) hw6 (by omega) (by rw [List.length_map]; omega) (by rw [List.length_map]; omega) (hfr ps)).mono ?_
    rintro d s ⟨x, t7, rfl, hx0, hx1, rfl, hw7, hc7⟩
    rw [List.length_map] at hx1
    have hxn : x.toNat < lots.length := by omega
    simp only [ok_ok, kDrop_ap, kRet_ap, kSet_ap, kCons2_ap, kCons_ap, kTup_ap, kLst_ap, kVal_ap, kNew_ap, kBin2_ap, kBin_ap, kUn_ap, kCall_ap, kCallL_ap, kNotT_ap, kAndT_ap, kOrT_ap, kIf_ap, kIfS_ap, kAnd_ap, kOr_ap, kNot_ap, kMt2_ap, kMt_ap, kPut4_ap, kPut3_ap, kPut2_ap, kPut_ap, kExt2_ap, kExt_ap, kAsg2_ap, kAsg_ap, kFor_ap, kLc_ap, kSl3_ap, kSl2_ap, kSl_ap, kGs_ap, ok_seq, sq_next, sq_ret, sq_brk, sq_cont, ok_nop, ok_brk, ok_cont, ok_drop, ok_ret, ok_retN, ok_set, ok_var0, ok_varS, ok_c, ok_nil, ok_cons, ok_tup, ok_lst, ok_val, ok_new, ok_bin, ok_un, ok_call, ok_callL, ok_test, tst_bl, ok_notT, ok_andT, ok_orT, ok_if, ok_ifS, ok_and, ok_or, ok_not, ok_mt, ok_put, ok_extend, pr2_mk, ok_par2, ok_asg, ok_for, ok_lc, ok_yes, ok_noPart, prt_int, ok_part, ok_sl, ok_gNm, ok_gTp, ok_gsN, ok_gsC, rg1_mk, rg2_mk, ok_rng1, ok_rng2, srcK_tup, srcK_ls, ok_src, finK_next, finK_ret, List.set_cons_zero, List.set_cons_succ, List.map_cons, List.map_nil, List.replicate, List.cons_append, List.nil_append, List.length_cons, List.length_nil, Bool.false_eq_true, eq_self, if_true, if_false, Nat.zero_add, ix_tup hx0 (str_get hxn)]
    refine (ht t7 _ 5 hw7 (by omega) (by omega) (by omega) (hfr ps)).mono ?_
    rintro d s ⟨x1, t8, rfl, h10, h11, rfl, hw8, hc8⟩
    simp only [ok_ok, kDrop_ap, kRet_ap, kSet_ap, kCons2_ap, kCons_ap, kTup_ap, kLst_ap, kVal_ap, kNew_ap, kBin2_ap, kBin_ap, kUn_ap, kCall_ap, kCallL_ap, kNotT_ap, kAndT_ap, kOrT_ap, kIf_ap, kIfS_ap, kAnd_ap, kOr_ap, kNot_ap, kMt2_ap, kMt_ap, kPut4_ap, kPut3_ap, kPut2_ap, kPut_ap, kExt2_ap, kExt_ap, kAsg2_ap, kAsg_ap, kFor_ap, kLc_ap, kSl3_ap, kSl2_ap, kSl_ap, kGs_ap, ok_seq, sq_next, sq_ret, sq_brk, sq_cont, ok_nop, ok_brk, ok_cont, ok_drop, ok_ret, ok_retN, ok_set, ok_var0, ok_varS, ok_c, ok_nil, ok_cons, ok_tup, ok_lst, ok_val, ok_new, ok_bin, ok_un, ok_call, ok_callL, ok_test, tst_bl, ok_notT, ok_andT, ok_orT, ok_if, ok_ifS, ok_and, ok_or, ok_not, ok_mt, ok_put, ok_extend, pr2_mk, ok_par2, ok_asg, ok_for, ok_lc, ok_yes, ok_noPart, prt_int, ok_part, ok_sl, ok_gNm, ok_gTp, ok_gsN, ok_gsC, rg1_mk, rg2_mk, ok_rng1, ok_rng2, srcK_tup, srcK_ls, ok_src, finK_next, finK_ret, List.set_cons_zero, List.set_cons_succ, List.map_cons, List.map_nil, List.replicate, List.cons_append, List.nil_append, List.length_cons, List.length_nil, Bool.false_eq_true, eq_self, if_true, if_false, Nat.zero_add]
    refine (ht t8 _ 100 hw8 (by omega) (by omega) (by omega) (hfr ps)).mono ?_
    rintro d s ⟨x2, t9, rfl, h20, h21, rfl, hw9, hc9⟩
    simp only [ok_ok, kDrop_ap, kRet_ap, kSet_ap, kCons2_ap, kCons_ap, kTup_ap, kLst_ap, kVal_ap, kNew_ap, kBin2_ap, kBin_ap, kUn_ap, kCall_ap, kCallL_ap, kNotT_ap, kAndT_ap, kOrT_ap, kIf_ap, kIfS_ap, kAnd_ap, kOr_ap, kNot_ap, kMt2_ap, kMt_ap, kPut4_ap, kPut3_ap, kPut2_ap, kPut_ap, kExt2_ap, kExt_ap, kAsg2_ap, kAsg_ap, kFor_ap, kLc_ap, kSl3_ap, kSl2_ap, kSl_ap, kGs_ap, ok_seq, sq_next, sq_ret, sq_brk, sq_cont, ok_nop, ok_brk, ok_cont, ok_drop, ok_ret, ok_retN, ok_set, ok_var0, ok_varS, ok_c, ok_nil, ok_cons, ok_tup, ok_lst, ok_val, ok_new, ok_bin, ok_un, ok_call, ok_callL, ok_test, tst_bl, ok_notT, ok_andT, ok_orT, ok_if, ok_ifS, ok_and, ok_or, ok_not, ok_mt, ok_put, ok_extend, pr2_mk, ok_par2, ok_asg, ok_for, ok_lc, ok_yes, ok_noPart, prt_int, ok_part, ok_sl, ok_gNm, ok_gTp, ok_gsN, ok_gsC, rg1_mk, rg2_mk, ok_rng1, ok_rng2, srcK_tup, srcK_ls, ok_src, finK_next, finK_ret, List.set_cons_zero, List.set_cons_succ, List.map_cons, List.map_nil, List.replicate, List.cons_append, List.nil_append, List.length_cons, List.length_nil, Bool.false_eq_true, eq_self, if_true, if_false, Nat.zero_add, pow_ok (show (0 : Int) ≤ 6 ∧ (6 : Int) ≤ 1000000 by decide) (show -(2 ^ 64) < (10 : Int) ∧ (10 : Int) < 2 ^ 64 by decide), add_int]
    rw [show (10 : Int) ^ (Int.toNat 6) + 1 = 1000001 by decide]
    refine (ht t9 _ 1000001 hw9 (by omega) (by omega) (by omega) (hfr ps)).mono ?_
    rintro d s ⟨x3, t10, rfl, h30, h31, rfl, hw10, hc10⟩
    simp only [ok_ok, kDrop_ap, kRet_ap, kSet_ap, kCons2_ap, kCons_ap, kTup_ap, kLst_ap, kVal_ap, kNew_ap, kBin2_ap, kBin_ap, kUn_ap, kCall_ap, kCallL_ap, kNotT_ap, kAndT_ap, kOrT_ap, kIf_ap, kIfS_ap, kAnd_ap, kOr_ap, kNot_ap, kMt2_ap, kMt_ap, kPut4_ap, kPut3_ap, kPut2_ap, kPut_ap, kExt2_ap, kExt_ap, kAsg2_ap, kAsg_ap, kFor_ap, kLc_ap, kSl3_ap, kSl2_ap, kSl_ap, kGs_ap, ok_seq, sq_next, sq_ret, sq_brk, sq_cont, ok_nop, ok_brk, ok_cont, ok_drop, ok_ret, ok_retN, ok_set, ok_var0, ok_varS, ok_c, ok_nil, ok_cons, ok_tup, ok_lst, ok_val, ok_new, ok_bin, ok_un, ok_call, ok_callL, ok_test, tst_bl, ok_notT, ok_andT, ok_orT, ok_if, ok_ifS, ok_and, ok_or, ok_not, ok_mt, ok_put, ok_extend, pr2_mk, ok_par2, ok_asg, ok_for, ok_lc, ok_yes, ok_noPart, prt_int, ok_part, ok_sl, ok_gNm, ok_gTp, ok_gsN, ok_gsC, rg1_mk, rg2_mk, ok_rng1, ok_rng2, srcK_tup, srcK_ls, ok_src, finK_next, finK_ret, List.set_cons_zero, List.set_cons_succ, List.map_cons, List.map_nil, List.replicate, List.cons_append, List.nil_append, List.length_cons, List.length_nil, Bool.false_eq_true, eq_self, if_true, if_false, Nat.zero_add]
    refine ⟨rfl, ?_⟩
    refine (ht t10 _ 4 hw10 (by omega) (by omega) (by omega) (hfr ps)).mono ?_
    rintro d s ⟨x4, t11, rfl, h40, h41, rfl, hw11, hc11⟩
    obtain ⟨many, em, hmany⟩ := pick4 (a := 0) (b := x1) (c := x2) (d := x3) h40 h41
    simp only [ok_ok, kDrop_ap, kRet_ap, kSet_ap, kCons2_ap, kCons_ap, kTup_ap, kLst_ap, kVal_ap, kNew_ap, kBin2_ap, kBin_ap, kUn_ap, kCall_ap, kCallL_ap, kNotT_ap, kAndT_ap, kOrT_ap, kIf_ap, kIfS_ap, kAnd_ap, kOr_ap, kNot_ap, kMt2_ap, kMt_ap, kPut4_ap, kPut3_ap, kPut2_ap, kPut_ap, kExt2_ap, kExt_ap, kAsg2_ap, kAsg_ap, kFor_ap, kLc_ap, kSl3_ap, kSl2_ap, kSl_ap, kGs_ap, ok_seq, sq_next, sq_ret, sq_brk, sq_cont, ok_nop, ok_brk, ok_cont, ok_drop, ok_ret, ok_retN, ok_set, ok_var0, ok_varS, ok_c, ok_nil, ok_cons, ok_tup, ok_lst, ok_val, ok_new, ok_bin, ok_un, ok_call, ok_callL, ok_test, tst_bl, ok_notT, ok_andT, ok_orT, ok_if, ok_ifS, ok_and, ok_or, ok_not, ok_mt, ok_put, ok_extend, pr2_mk, ok_par2, ok_asg, ok_for, ok_lc, ok_yes, ok_noPart, prt_int, ok_part, ok_sl, ok_gNm, ok_gTp, ok_gsN, ok_gsC, rg1_mk, rg2_mk, ok_rng1, ok_rng2, srcK_tup, srcK_ls, ok_src, finK_next, finK_ret, List.set_cons_zero, List.set_cons_succ, List.map_cons, List.map_nil, List.replicate, List.cons_append, List.nil_append, List.length_cons, List.length_nil, Bool.false_eq_true, eq_self, if_true, if_false, Nat.zero_add, em]
    refine (ht t11 _ 4 hw11 (by omega) (by omega) (by omega) (hfr ps)).mono ?_
    rintro d s ⟨y1, t12, rfl, g10, g11, rfl, hw12, hc12⟩
    simp only [ok_ok, kDrop_ap, kRet_ap, kSet_ap, kCons2_ap, kCons_ap, kTup_ap, kLst_ap, kVal_ap, kNew_ap, kBin2_ap, kBin_ap, kUn_ap, kCall_ap, kCallL_ap, kNotT_ap, kAndT_ap, kOrT_ap, kIf_ap, kIfS_ap, kAnd_ap, kOr_ap, kNot_ap, kMt2_ap, kMt_ap, kPut4_ap, kPut3_ap, kPut2_ap, kPut_ap, kExt2_ap, kExt_ap, kAsg2_ap, kAsg_ap, kFor_ap, kLc_ap, kSl3_ap, kSl2_ap, kSl_ap, kGs_ap, ok_seq, sq_next, sq_ret, sq_brk, sq_cont, ok_nop, ok_brk, ok_cont, ok_drop, ok_ret, ok_retN, ok_set, ok_var0, ok_varS, ok_c, ok_nil, ok_cons, ok_tup, ok_lst, ok_val, ok_new, ok_bin, ok_un, ok_call, ok_callL, ok_test, tst_bl, ok_notT, ok_andT, ok_orT, ok_if, ok_ifS, ok_and, ok_or, ok_not, ok_mt, ok_put, ok_extend, pr2_mk, ok_par2, ok_asg, ok_for, ok_lc, ok_yes, ok_noPart, prt_int, ok_part, ok_sl, ok_gNm, ok_gTp, ok_gsN, ok_gsC, rg1_mk, rg2_mk, ok_rng1, ok_rng2, srcK_tup, srcK_ls, ok_src, finK_next, finK_ret, List.set_cons_zero, List.set_cons_succ, List.map_cons, List.map_nil, List.replicate, List.cons_append, List.nil_append, List.length_cons, List.length_nil, Bool.false_eq_true, eq_self, if_true, if_false, Nat.zero_add, pow_ok (show (0 : Int) ≤ 4 ∧ (4 : Int) ≤ 1000000 by decide) (show -(2 ^ 64) < (10 : Int) ∧ (10 : Int) < 2 ^ 64 by decide), add_int]
    rw [show (10 : Int) ^ (Int.toNat 4) + 1 = 10001 by decide]
    refine (ht t12 _ 10001 hw12 (by omega) (by omega) (by omega) (hfr ps)).mono ?_
    rintro d s ⟨y2, t13, rfl, g20, g21, rfl, hw13, hc13⟩
    simp only [ok_ok, kDrop_ap, kRet_ap, kSet_ap, kCons2_ap, kCons_ap, kTup_ap, kLst_ap, kVal_ap, kNew_ap, kBin2_ap, kBin_ap, kUn_ap, kCall_ap, kCallL_ap, kNotT_ap, kAndT_ap, kOrT_ap, kIf_ap, kIfS_ap, kAnd_ap, kOr_ap, kNot_ap, kMt2_ap, kMt_ap, kPut4_ap, kPut3_ap, kPut2_ap, kPut_ap, kExt2_ap, kExt_ap, kAsg2_ap, kAsg_ap, kFor_ap, kLc_ap, kSl3_ap, kSl2_ap, kSl_ap, kGs_ap, ok_seq, sq_next, sq_ret, sq_brk, sq_cont, ok_nop, ok_brk, ok_cont, ok_drop, ok_ret, ok_retN, ok_set, ok_var0, ok_varS, ok_c, ok_nil, ok_cons, ok_tup, ok_lst, ok_val, ok_new, ok_bin, ok_un, ok_call, ok_callL, ok_test, tst_bl, ok_notT, ok_andT, ok_orT, ok_if, ok_ifS, ok_and, ok_or, ok_not, ok_mt, ok_put, ok_extend, pr2_mk, ok_par2, ok_asg, ok_for, ok_lc, ok_yes, ok_noPart, prt_int, ok_part, ok_sl, ok_gNm, ok_gTp, ok_gsN, ok_gsC, rg1_mk, rg2_mk, ok_rng1, ok_rng2, srcK_tup, srcK_ls, ok_src, finK_next, finK_ret, List.set_cons_zero, List.set_cons_succ, List.map_cons, List.map_nil, List.replicate, List.cons_append, List.nil_append, List.length_cons, List.length_nil, Bool.false_eq_true, eq_self, if_true, if_false, Nat.zero_add]
    refine ⟨rfl, ?_⟩
    refine (ht t13 _ 4 hw13 (by omega) (by omega) (by omega) (hfr ps)).mono ?_
    rintro d s ⟨y3, t14, rfl, g30, g31, rfl, hw14, hc14⟩
    obtain ⟨slip, es, hslip⟩ := pick4 (a := 0) (b := 1) (c := y1) (d := y2) g30 g31
    simp only [ok_ok, kDrop_ap, kRet_ap, kSet_ap, kCons2_ap, kCons_ap, kTup_ap, kLst_ap, kVal_ap, kNew_ap, kBin2_ap, kBin_ap, kUn_ap, kCall_ap, kCallL_ap, kNotT_ap, kAndT_ap, kOrT_ap, kIf_ap, kIfS_ap, kAnd_ap, kOr_ap, kNot_ap, kMt2_ap, kMt_ap, kPut4_ap, kPut3_ap, kPut2_ap, kPut_ap, kExt2_ap, kExt_ap, kAsg2_ap, kAsg_ap, kFor_ap, kLc_ap, kSl3_ap, kSl2_ap, kSl_ap, kGs_ap, ok_seq, sq_next, sq_ret, sq_brk, sq_cont, ok_nop, ok_brk, ok_cont, ok_drop, ok_ret, ok_retN, ok_set, ok_var0, ok_varS, ok_c, ok_nil, ok_cons, ok_tup, ok_lst, ok_val, ok_new, ok_bin, ok_un, ok_call, ok_callL, ok_test, tst_bl, ok_notT, ok_andT, ok_orT, ok_if, ok_ifS, ok_and, ok_or, ok_not, ok_mt, ok_put, ok_extend, pr2_mk, ok_par2, ok_asg, ok_for, ok_lc, ok_yes, ok_noPart, prt_int, ok_part, ok_sl, ok_gNm, ok_gTp, ok_gsN, ok_gsC, rg1_mk, rg2_mk, ok_rng1, ok_rng2, srcK_tup, srcK_ls, ok_src, finK_next, finK_ret, List.set_cons_zero, List.set_cons_succ, List.map_cons, List.map_nil, List.replicate, List.cons_append, List.nil_append, List.length_cons, List.length_nil, Bool.false_eq_true, eq_self, if_true, if_false, Nat.zero_add, es]
    refine ⟨rfl, ?_⟩
    have hm01 : 0 ≤ many ∧ many ≤ 1000000 := by omega
    have hs01 : 0 ≤ slip ∧ slip ≤ 10000 := by omega
    -- the end of a turn
    have turn : ∀ (t' : Tap) (zs : List Str) (few' : Int), PilOk lots ⟨lots[x.toNat], many, slip, zs⟩ → (if zs = [] then few ≤ few' else few + 1 ≤ few') → few' ≤ 3 → t'.Wf → t.calls ≤ t'.calls → t'.calls ≤ t.calls + 20 + 20 * (ps.length : Int) + 20 →
        ∀ v4 : Option Dv, ∃ (t'' : Tap) (ps' : List Pil) (few2 : Int) (w4 w5 w6 w7 w8 : Option Dv), [some (.loc 0), some (.tup (lots.map Dv.str)), some (.loc (r.length + 1)), some (.int few'), v4, some (.str lots[x.toNat]), some (.int many), some (.int slip), some (encS zs), none] =
          [some (.loc 0), some (.tup (lots.map Dv.str)), some (.loc (r.length + 1)), some (.int few2), w4, w5, w6, w7, w8, none] ∧ tapOb t' :: (r ++ [Ob.lst (ps.map encP ++ [.tup [.str lots[x.toNat], .int many, .int slip, encS zs]])]) = tapOb t'' :: (r ++ [.lst (ps'.map encP)]) ∧
          ps'.length = ps.length + 1 ∧ (∀ p ∈ ps', PilOk lots p) ∧ ((ps'.filter fun p => !p.others.isEmpty).length : Int) ≤ few2 ∧ few2 ≤ 3 ∧ t''.Wf ∧ t.calls ≤ t''.calls ∧ t''.calls ≤ t.calls + 20 + 20 * ((ps.length + 1 : Nat) : Int) := by
      intro t' zs few' hok hff h3 hw' h1 h2 v4
      refine ⟨t', ps ++ [⟨lots[x.toNat], many, slip, zs⟩], few', v4, _, _, _, _, rfl, by simp [encP], by simp, fun p hp => ?_, ?_, h3, hw', h1, by push_cast; omega⟩
      · rcases List.mem_append.mp hp with z | z
        · exact hps p z
        · rw [List.mem_singleton.mp z]; exact hok
      · rw [List.filter_append, List.length_append]
        by_cases hz : zs = []
        · rw [if_pos hz] at hff
          subst hz
          show ((_ + 0 : Nat) : Int) ≤ few'
          omega
        · rw [if_neg hz] at hff
          have : ([(⟨lots[x.toNat], many, slip, zs⟩ : Pil)].filter fun p => !p.others.isEmpty).length ≤ 1 := List.length_filter_le _ _
          push_cast
          omega
    have okp : ∀ zs : List Str, (zs = [] ∨ ∃ ws : List Str, zs = srtS ws ∧ ws.Sublist lots ∧ lots[x.toNat] ∉ ws ∧ ws.length ≤ 2) → PilOk lots ⟨lots[x.toNat], many, slip, zs⟩ := fun zs hz => ⟨List.getElem_mem _, hm01.1, hm01.2, hs01.1, hs01.2, hz⟩
    have app : ∀ (t' : Tap) (d : Dv), gAppend (.loc (r.length + 1)) [d] (tapOb t' :: (r ++ [Ob.lst (ps.map encP)])) = .ok .non (tapOb t' :: (r ++ [Ob.lst (ps.map encP ++ [d])])) := fun t' d => by
      rw [append_loc st_get1 (by rw [List.length_map]; omega), st_set1]
    have lst : ∀ (t' : Tap), isL (.loc (r.length + 1)) (tapOb t' :: (r ++ [Ob.lst (ps.map encP)])) = true := fun t' => isL_loc st_get1
    simp only [ok_ok, kDrop_ap, kRet_ap, kSet_ap, kCons2_ap, kCons_ap, kTup_ap, kLst_ap, kVal_ap, kNew_ap, kBin2_ap, kBin_ap, kUn_ap, kCall_ap, kCallL_ap, kNotT_ap, kAndT_ap, kOrT_ap, kIf_ap, kIfS_ap, kAnd_ap, kOr_ap, kNot_ap, kMt2_ap, kMt_ap, kPut4_ap, kPut3_ap, kPut2_ap, kPut_ap, kExt2_ap, kExt_ap, kAsg2_ap, kAsg_ap, kFor_ap, kLc_ap, kSl3_ap, kSl2_ap, kSl_ap, kGs_ap, ok_seq, sq_next, sq_ret, sq_brk, sq_cont, ok_nop, ok_brk, ok_cont, ok_drop, ok_ret, ok_retN, ok_set, ok_var0, ok_varS, ok_c, ok_nil, ok_cons, ok_tup, ok_lst, ok_val, ok_new, ok_bin, ok_un, ok_call, ok_callL, ok_test, tst_bl, ok_notT, ok_andT, ok_orT, ok_if, ok_ifS, ok_and, ok_or, ok_not, ok_mt, ok_put, ok_extend, pr2_mk, ok_par2, ok_asg, ok_for, ok_lc, ok_yes, ok_noPart, prt_int, ok_part, ok_sl, ok_gNm, ok_gTp, ok_gsN, ok_gsC, rg1_mk, rg2_mk, ok_rng1, ok_rng2, srcK_tup, srcK_ls, ok_src, finK_next, finK_ret, List.set_cons_zero, List.set_cons_succ, List.map_cons, List.map_nil, List.replicate, List.cons_append, List.nil_append, List.length_cons, List.length_nil, Bool.false_eq_true, eq_self, if_true, if_false, Nat.zero_add, lt_int]
    split
    · rename_i hlt
      have hlt : few < 3 := of_decide_eq_true hlt
      refine (ht t14 _ 3 hw14 (by omega) (by omega) (by omega) (hfr ps)).mono ?_
      rintro d s ⟨z1, t15, rfl, k10, k11, rfl, hw15, hc15⟩
      simp only [ok_ok, kDrop_ap, kRet_ap, kSet_ap, kCons2_ap, kCons_ap, kTup_ap, kLst_ap, kVal_ap, kNew_ap, kBin2_ap, kBin_ap, kUn_ap, kCall_ap, kCallL_ap, kNotT_ap, kAndT_ap, kOrT_ap, kIf_ap, kIfS_ap, kAnd_ap, kOr_ap, kNot_ap, kMt2_ap, kMt_ap, kPut4_ap, kPut3_ap, kPut2_ap, kPut_ap, kExt2_ap, kExt_ap, kAsg2_ap, kAsg_ap, kFor_ap, kLc_ap, kSl3_ap, kSl2_ap, kSl_ap, kGs_ap, ok_seq, sq_next, sq_ret, sq_brk, sq_cont, ok_nop, ok_brk, ok_cont, ok_drop, ok_ret, ok_retN, ok_set, ok_var0, ok_varS, ok_c, ok_nil, ok_cons, ok_tup, ok_lst, ok_val, ok_new, ok_bin, ok_un, ok_call, ok_callL, ok_test, tst_bl, ok_notT, ok_andT, ok_orT, ok_if, ok_ifS, ok_and, ok_or, ok_not, ok_mt, ok_put, ok_extend, pr2_mk, ok_par2, ok_asg, ok_for, ok_lc, ok_yes, ok_noPart, prt_int, ok_part, ok_sl, ok_gNm, ok_gTp, ok_gsN, ok_gsC, rg1_mk, rg2_mk, ok_rng1, ok_rng2, srcK_tup, srcK_ls, ok_src, finK_next, finK_ret, List.set_cons_zero, List.set_cons_succ, List.map_cons, List.map_nil, List.replicate, List.cons_append, List.nil_append, List.length_cons, List.length_nil, Bool.false_eq_true, eq_self, if_true, if_false, Nat.zero_add, eq_int]
      split
      · refine (ho t15 _ lots lots[x.toNat] 2 hw15 (by omega) (by omega) (by omega) (hfr ps)).mono ?_
        rintro d s ⟨ws, t16, rfl, q1, q2, q3, rfl, hw16, hc16, hc16'⟩
        simp only [ok_ok, kDrop_ap, kRet_ap, kSet_ap, kCons2_ap, kCons_ap, kTup_ap, kLst_ap, kVal_ap, kNew_ap, kBin2_ap, kBin_ap, kUn_ap, kCall_ap, kCallL_ap, kNotT_ap, kAndT_ap, kOrT_ap, kIf_ap, kIfS_ap, kAnd_ap, kOr_ap, kNot_ap, kMt2_ap, kMt_ap, kPut4_ap, kPut3_ap, kPut2_ap, kPut_ap, kExt2_ap, kExt_ap, kAsg2_ap, kAsg_ap, kFor_ap, kLc_ap, kSl3_ap, kSl2_ap, kSl_ap, kGs_ap, ok_seq, sq_next, sq_ret, sq_brk, sq_cont, ok_nop, ok_brk, ok_cont, ok_drop, ok_ret, ok_retN, ok_set, ok_var0, ok_varS, ok_c, ok_nil, ok_cons, ok_tup, ok_lst, ok_val, ok_new, ok_bin, ok_un, ok_call, ok_callL, ok_test, tst_bl, ok_notT, ok_andT, ok_orT, ok_if, ok_ifS, ok_and, ok_or, ok_not, ok_mt, ok_put, ok_extend, pr2_mk, ok_par2, ok_asg, ok_for, ok_lc, ok_yes, ok_noPart, prt_int, ok_part, ok_sl, ok_gNm, ok_gTp, ok_gsN, ok_gsC, rg1_mk, rg2_mk, ok_rng1, ok_rng2, srcK_tup, srcK_ls, ok_src, finK_next, finK_ret, List.set_cons_zero, List.set_cons_succ, List.map_cons, List.map_nil, List.replicate, List.cons_append, List.nil_append, List.length_cons, List.length_nil, Bool.false_eq_true, eq_self, if_true, if_false, Nat.zero_add, add_int]
        refine ⟨lst _, rfl, ?_⟩
        simp only [ok_ok, kDrop_ap, kRet_ap, kSet_ap, kCons2_ap, kCons_ap, kTup_ap, kLst_ap, kVal_ap, kNew_ap, kBin2_ap, kBin_ap, kUn_ap, kCall_ap, kCallL_ap, kNotT_ap, kAndT_ap, kOrT_ap, kIf_ap, kIfS_ap, kAnd_ap, kOr_ap, kNot_ap, kMt2_ap, kMt_ap, kPut4_ap, kPut3_ap, kPut2_ap, kPut_ap, kExt2_ap, kExt_ap, kAsg2_ap, kAsg_ap, kFor_ap, kLc_ap, kSl3_ap, kSl2_ap, kSl_ap, kGs_ap, ok_seq, sq_next, sq_ret, sq_brk, sq_cont, ok_nop, ok_brk, ok_cont, ok_drop, ok_ret, ok_retN, ok_set, ok_var0, ok_varS, ok_c, ok_nil, ok_cons, ok_tup, ok_lst, ok_val, ok_new, ok_bin, ok_un, ok_call, ok_callL, ok_test, tst_bl, ok_notT, ok_andT, ok_orT, ok_if, ok_ifS, ok_and, ok_or, ok_not, ok_mt, ok_put, ok_extend, pr2_mk, ok_par2, ok_asg, ok_for, ok_lc, ok_yes, ok_noPart, prt_int, ok_part, ok_sl, ok_gNm, ok_gTp, ok_gsN, ok_gsC, rg1_mk, rg2_mk, ok_rng1, ok_rng2, srcK_tup, srcK_ls, ok_src, finK_next, finK_ret, List.set_cons_zero, List.set_cons_succ, List.map_cons, List.map_nil, List.replicate, List.cons_append, List.nil_append, List.length_cons, List.length_nil, Bool.false_eq_true, eq_self, if_true, if_false, Nat.zero_add, app]
        refine turn t16 (srtS ws) (few + 1) (okp _ (.inr ⟨ws, rfl, q1, q2, by omega⟩)) ?_ (by omega) hw16 (by omega) (by omega) _
        split <;> omega
      · refine ⟨lst _, rfl, ?_⟩
        simp only [ok_ok, kDrop_ap, kRet_ap, kSet_ap, kCons2_ap, kCons_ap, kTup_ap, kLst_ap, kVal_ap, kNew_ap, kBin2_ap, kBin_ap, kUn_ap, kCall_ap, kCallL_ap, kNotT_ap, kAndT_ap, kOrT_ap, kIf_ap, kIfS_ap, kAnd_ap, kOr_ap, kNot_ap, kMt2_ap, kMt_ap, kPut4_ap, kPut3_ap, kPut2_ap, kPut_ap, kExt2_ap, kExt_ap, kAsg2_ap, kAsg_ap, kFor_ap, kLc_ap, kSl3_ap, kSl2_ap, kSl_ap, kGs_ap, ok_seq, sq_next, sq_ret, sq_brk, sq_cont, ok_nop, ok_brk, ok_cont, ok_drop, ok_ret, ok_retN, ok_set, ok_var0, ok_varS, ok_c, ok_nil, ok_cons, ok_tup, ok_lst, ok_val, ok_new, ok_bin, ok_un, ok_call, ok_callL, ok_test, tst_bl, ok_notT, ok_andT, ok_orT, ok_if, ok_ifS, ok_and, ok_or, ok_not, ok_mt, ok_put, ok_extend, pr2_mk, ok_par2, ok_asg, ok_for, ok_lc, ok_yes, ok_noPart, prt_int, ok_part, ok_sl, ok_gNm, ok_gTp, ok_gsN, ok_gsC, rg1_mk, rg2_mk, ok_rng1, ok_rng2, srcK_tup, srcK_ls, ok_src, finK_next, finK_ret, List.set_cons_zero, List.set_cons_succ, List.map_cons, List.map_nil, List.replicate, List.cons_append, List.nil_append, List.length_cons, List.length_nil, Bool.false_eq_true, eq_self, if_true, if_false, Nat.zero_add, app]
        exact turn t15 [] few (okp _ (.inl rfl)) (by rw [if_pos rfl]; omega) hfew3 hw15 (by omega) (by omega) _
    · refine ⟨lst _, rfl, ?_⟩
      simp only [ok_ok, kDrop_ap, kRet_ap, kSet_ap, kCons2_ap, kCons_ap, kTup_ap, kLst_ap, kVal_ap, kNew_ap, kBin2_ap, kBin_ap, kUn_ap, kCall_ap, kCallL_ap, kNotT_ap, kAndT_ap, kOrT_ap, kIf_ap, kIfS_ap, kAnd_ap, kOr_ap, kNot_ap, kMt2_ap, kMt_ap, kPut4_ap, kPut3_ap, kPut2_ap, kPut_ap, kExt2_ap, kExt_ap, kAsg2_ap, kAsg_ap, kFor_ap, kLc_ap, kSl3_ap, kSl2_ap, kSl_ap, kGs_ap, ok_seq, sq_next, sq_ret, sq_brk, sq_cont, ok_nop, ok_brk, ok_cont, ok_drop, ok_ret, ok_retN, ok_set, ok_var0, ok_varS, ok_c, ok_nil, ok_cons, ok_tup, ok_lst, ok_val, ok_new, ok_bin, ok_un, ok_call, ok_callL, ok_test, tst_bl, ok_notT, ok_andT, ok_orT, ok_if, ok_ifS, ok_and, ok_or, ok_not, ok_mt, ok_put, ok_extend, pr2_mk, ok_par2, ok_asg, ok_for, ok_lc, ok_yes, ok_noPart, prt_int, ok_part, ok_sl, ok_gNm, ok_gTp, ok_gsN, ok_gsC, rg1_mk, rg2_mk, ok_rng1, ok_rng2, srcK_tup, srcK_ls, ok_src, finK_next, finK_ret, List.set_cons_zero, List.set_cons_succ, List.map_cons, List.map_nil, List.replicate, List.cons_append, List.nil_append, List.length_cons, List.length_nil, Bool.false_eq_true, eq_self, if_true, if_false, Nat.zero_add, app]
      exact turn t14 [] few (okp _ (.inl rfl)) (by rw [if_pos rfl]; omega) hfew3 hw14 (by omega) (by omega) _
  · obtain ⟨t6, ps, few, v4, v5, v6, v7, v8, rfl, rfl, hpl, hps, hfew, hfew3, hw6, hge6, hle6⟩ := h
    rw [rngD_len] at hpl hle6
    have hle7 : t6.calls ≤ t.calls + 220 := by omega
    clear hle6 hle5 hge5 hw5
    have hpl10 : ps.length ≤ 10 := by omega
    have hfr : ∀ ds : List (List Str), Fl (r ++ [Ob.lst (ps.map encP), Ob.lst (ds.map encS)]) := fun ds => hf.app (.two (belows_map (below_encP 0) ps) (belows_map (below_encS 0) ds))
    simp only [ok_ok, kDrop_ap, kRet_ap, kSet_ap, kCons2_ap, kCons_ap, kTup_ap, kLst_ap, kVal_ap, kNew_ap, kBin2_ap, kBin_ap, kUn_ap, kCall_ap, kCallL_ap, kNotT_ap, kAndT_ap, kOrT_ap, kIf_ap, kIfS_ap, kAnd_ap, kOr_ap, kNot_ap, kMt2_ap, kMt_ap, kPut4_ap, kPut3_ap, kPut2_ap, kPut_ap, kExt2_ap, kExt_ap, kAsg2_ap, kAsg_ap, kFor_ap, kLc_ap, kSl3_ap, kSl2_ap, kSl_ap, kGs_ap, ok_seq, sq_next, sq_ret, sq_brk, sq_cont, ok_nop, ok_brk, ok_cont, ok_drop, ok_ret, ok_retN, ok_set, ok_var0, ok_varS, ok_c, ok_nil, ok_cons, ok_tup, ok_lst, ok_val, ok_new, ok_bin, ok_un, ok_call, ok_callL, ok_test, tst_bl, ok_notT, ok_andT, ok_orT, ok_if, ok_ifS, ok_and, ok_or, ok_not, ok_mt, ok_put, ok_extend, pr2_mk, ok_par2, ok_asg, ok_for, ok_lc, ok_yes, ok_noPart, prt_int, ok_part, ok_sl, ok_gNm, ok_gTp, ok_gsN, ok_gsC, rg1_mk, rg2_mk, ok_rng1, ok_rng2, srcK_tup, srcK_ls, ok_src, finK_next, finK_ret, List.set_cons_zero, List.set_cons_succ, List.map_cons, List.map_nil, List.replicate, List.cons_append, List.nil_append, List.length_cons, List.length_nil, Bool.false_eq_true, eq_self, if_true, if_false, Nat.zero_add, app2, len2]
    refine ⟨rfl, ?_⟩
    refine (ht t6 _ 4 hw6 (by omega) (by omega) (by omega) (hfr [])).mono ?_
    rintro d s ⟨x1, t3, rfl, h10, h11, rfl, hw3, hc3⟩
    simp only [ok_ok, kDrop_ap, kRet_ap, kSet_ap, kCons2_ap, kCons_ap, kTup_ap, kLst_ap, kVal_ap, kNew_ap, kBin2_ap, kBin_ap, kUn_ap, kCall_ap, kCallL_ap, kNotT_ap, kAndT_ap, kOrT_ap, kIf_ap, kIfS_ap, kAnd_ap, kOr_ap, kNot_ap, kMt2_ap, kMt_ap, kPut4_ap, kPut3_ap, kPut2_ap, kPut_ap, kExt2_ap, kExt_ap, kAsg2_ap, kAsg_ap, kFor_ap, kLc_ap, kSl3_ap, kSl2_ap, kSl_ap, kGs_ap, ok_seq, sq_next, sq_ret, sq_brk, sq_cont, ok_nop, ok_brk, ok_cont, ok_drop, ok_ret, ok_retN, ok_set, ok_var0, ok_varS, ok_c, ok_nil, ok_cons, ok_tup, ok_lst, ok_val, ok_new, ok_bin, ok_un, ok_call, ok_callL, ok_test, tst_bl, ok_notT, ok_andT, ok_orT, ok_if, ok_ifS, ok_and, ok_or, ok_not, ok_mt, ok_put, ok_extend, pr2_mk, ok_par2, ok_asg, ok_for, ok_lc, ok_yes, ok_noPart, prt_int, ok_part, ok_sl, ok_gNm, ok_gTp, ok_gsN, ok_gsC, rg1_mk, rg2_mk, ok_rng1, ok_rng2, srcK_tup, srcK_ls, ok_src, finK_next, finK_ret, List.set_cons_zero, List.set_cons_succ, List.map_cons, List.map_nil, List.replicate, List.cons_append, List.nil_append, List.length_cons, List.length_nil, Bool.false_eq_true, eq_self, if_true, if_false, Nat.zero_add]
    refine (ht t3 _ 13 hw3 (by omega) (by omega) (by omega) (hfr [])).mono ?_
    rintro d s ⟨x2, t4, rfl, h20, h21, rfl, hw4, hc4⟩
    simp only [ok_ok, kDrop_ap, kRet_ap, kSet_ap, kCons2_ap, kCons_ap, kTup_ap, kLst_ap, kVal_ap, kNew_ap, kBin2_ap, kBin_ap, kUn_ap, kCall_ap, kCallL_ap, kNotT_ap, kAndT_ap, kOrT_ap, kIf_ap, kIfS_ap, kAnd_ap, kOr_ap, kNot_ap, kMt2_ap, kMt_ap, kPut4_ap, kPut3_ap, kPut2_ap, kPut_ap, kExt2_ap, kExt_ap, kAsg2_ap, kAsg_ap, kFor_ap, kLc_ap, kSl3_ap, kSl2_ap, kSl_ap, kGs_ap, ok_seq, sq_next, sq_ret, sq_brk, sq_cont, ok_nop, ok_brk, ok_cont, ok_drop, ok_ret, ok_retN, ok_set, ok_var0, ok_varS, ok_c, ok_nil, ok_cons, ok_tup, ok_lst, ok_val, ok_new, ok_bin, ok_un, ok_call, ok_callL, ok_test, tst_bl, ok_notT, ok_andT, ok_orT, ok_if, ok_ifS, ok_and, ok_or, ok_not, ok_mt, ok_put, ok_extend, pr2_mk, ok_par2, ok_asg, ok_for, ok_lc, ok_yes, ok_noPart, prt_int, ok_part, ok_sl, ok_gNm, ok_gTp, ok_gsN, ok_gsC, rg1_mk, rg2_mk, ok_rng1, ok_rng2, srcK_tup, srcK_ls, ok_src, finK_next, finK_ret, List.set_cons_zero, List.set_cons_succ, List.map_cons, List.map_nil, List.replicate, List.cons_append, List.nil_append, List.length_cons, List.length_nil, Bool.false_eq_true, eq_self, if_true, if_false, Nat.zero_add]
    refine ⟨rfl, ?_⟩
    refine (ht t4 _ 2 hw4 (by omega) (by omega) (by omega) (hfr [])).mono ?_
    rintro d s ⟨x3, t5, rfl, h30, h31, rfl, hw5, hc5⟩
    obtain ⟨y, ey, hy⟩ := pick2 (a := x1) (b := x2) h30 h31
    simp only [ok_ok, kDrop_ap, kRet_ap, kSet_ap, kCons2_ap, kCons_ap, kTup_ap, kLst_ap, kVal_ap, kNew_ap, kBin2_ap, kBin_ap, kUn_ap, kCall_ap, kCallL_ap, kNotT_ap, kAndT_ap, kOrT_ap, kIf_ap, kIfS_ap, kAnd_ap, kOr_ap, kNot_ap, kMt2_ap, kMt_ap, kPut4_ap, kPut3_ap, kPut2_ap, kPut_ap, kExt2_ap, kExt_ap, kAsg2_ap, kAsg_ap, kFor_ap, kLc_ap, kSl3_ap, kSl2_ap, kSl_ap, kGs_ap, ok_seq, sq_next, sq_ret, sq_brk, sq_cont, ok_nop, ok_brk, ok_cont, ok_drop, ok_ret, ok_retN, ok_set, ok_var0, ok_varS, ok_c, ok_nil, ok_cons, ok_tup, ok_lst, ok_val, ok_new, ok_bin, ok_un, ok_call, ok_callL, ok_test, tst_bl, ok_notT, ok_andT, ok_orT, ok_if, ok_ifS, ok_and, ok_or, ok_not, ok_mt, ok_put, ok_extend, pr2_mk, ok_par2, ok_asg, ok_for, ok_lc, ok_yes, ok_noPart, prt_int, ok_part, ok_sl, ok_gNm, ok_gTp, ok_gsN, ok_gsC, rg1_mk, rg2_mk, ok_rng1, ok_rng2, srcK_tup, srcK_ls, ok_src, finK_next, finK_ret, List.set_cons_zero, List.set_cons_succ, List.map_cons, List.map_nil, List.replicate, List.cons_append, List.nil_append, List.length_cons, List.length_nil, Bool.false_eq_true, eq_self, if_true, if_false, Nat.zero_add, ey]
    have hz01 : 0 ≤ y ∧ y ≤ 12 := by omega
    refine ⟨inRng_small (by omega) (by omega), ?_⟩
    refine ok_loop (fun i env s => ∃ (t' : Tap) (ds : List (List Str)) (v4 : Option Dv), env = [some (.loc 0), some (.tup (lots.map .str)), some (.loc (r.length + 1)), some (.int few), v4, v5, v6, v7, v8, some (.loc (r.length + 2))] ∧ s = tapOb t' :: (r ++ [.lst (ps.map encP), .lst (ds.map encS)]) ∧
        ds.length = i ∧ (∀ d ∈ ds, ∃ ws : List Str, d = srtS ws ∧ ws.Sublist lots ∧ ws ≠ []) ∧ t'.Wf ∧ t.calls ≤ t'.calls ∧ t'.calls ≤ t.calls + 230 + 10 * i)
      (fun _ _ _ _ => rfl) (fun i d env s hd h => ?_) (fun env s h => ?_) ⟨t5, [], _, rfl, rfl, rfl, fun p hp => absurd hp List.not_mem_nil, hw5, by omega, by omega⟩
    · obtain ⟨t8, ds, v4, rfl, rfl, rfl, hds, hw8, hge8, hle8⟩ := h
      obtain ⟨hi, rfl⟩ := rngD_get hd
      have g := st_get2 (t := tapOb t8) (o := Ob.lst (ps.map encP)) (o2 := Ob.lst (ds.map encS)) (r := r) (l := [])
      simp only [ok_ok, kDrop_ap, kRet_ap, kSet_ap, kCons2_ap, kCons_ap, kTup_ap, kLst_ap, kVal_ap, kNew_ap, kBin2_ap, kBin_ap, kUn_ap, kCall_ap, kCallL_ap, kNotT_ap, kAndT_ap, kOrT_ap, kIf_ap, kIfS_ap, kAnd_ap, kOr_ap, kNot_ap, kMt2_ap, kMt_ap, kPut4_ap, kPut3_ap, kPut2_ap, kPut_ap, kExt2_ap, kExt_ap, kAsg2_ap, kAsg_ap, kFor_ap, kLc_ap, kSl3_ap, kSl2_ap, kSl_ap, kGs_ap, ok_seq, sq_next, sq_ret, sq_brk, sq_cont, ok_nop, ok_brk, ok_cont, ok_drop, ok_ret, ok_retN, ok_set, ok_var0, ok_varS, ok_c, ok_nil, ok_cons, ok_tup, ok_lst, ok_val, ok_new, ok_bin, ok_un, ok_call, ok_callL, ok_test, tst_bl, ok_notT, ok_andT, ok_orT, ok_if, ok_ifS, ok_and, ok_or, ok_not, ok_mt, ok_put, ok_extend, pr2_mk, ok_par2, ok_asg, ok_for, ok_lc, ok_yes, ok_noPart, prt_int, ok_part, ok_sl, ok_gNm, ok_gTp, ok_gsN, ok_gsC, rg1_mk, rg2_mk, ok_rng1, ok_rng2, srcK_tup, srcK_ls, ok_src, finK_next, finK_ret, List.set_cons_zero, List.set_cons_succ, List.map_cons, List.map_nil, List.replicate, List.cons_append, List.nil_append, List.length_cons, List.length_nil, Bool.false_eq_true, eq_self, if_true, if_false, Nat.zero_add]
      refine ⟨isL_loc g, ?_⟩
      refine (hn t8 _ lots hpool hw8 (by omega) (by omega) (by omega) (hfr ds)).mono ?_
      rintro d s ⟨ws, t9, rfl, q1, q2, rfl, hw9, hc9, hc9'⟩
      simp only [ok_ok, kDrop_ap, kRet_ap, kSet_ap, kCons2_ap, kCons_ap, kTup_ap, kLst_ap, kVal_ap, kNew_ap, kBin2_ap, kBin_ap, kUn_ap, kCall_ap, kCallL_ap, kNotT_ap, kAndT_ap, kOrT_ap, kIf_ap, kIfS_ap, kAnd_ap, kOr_ap, kNot_ap, kMt2_ap, kMt_ap, kPut4_ap, kPut3_ap, kPut2_ap, kPut_ap, kExt2_ap, kExt_ap, kAsg2_ap, kAsg_ap, kFor_ap, kLc_ap, kSl3_ap, kSl2_ap, kSl_ap, kGs_ap, ok_seq, sq_next, sq_ret, sq_brk, sq_cont, ok_nop, ok_brk, ok_cont, ok_drop, ok_ret, ok_retN, ok_set, ok_var0, ok_varS, ok_c, ok_nil, ok_cons, ok_tup, ok_lst, ok_val, ok_new, ok_bin, ok_un, ok_call, ok_callL, ok_test, tst_bl, ok_notT, ok_andT, ok_orT, ok_if, ok_ifS, ok_and, ok_or, ok_not, ok_mt, ok_put, ok_extend, pr2_mk, ok_par2, ok_asg, ok_for, ok_lc, ok_yes, ok_noPart, prt_int, ok_part, ok_sl, ok_gNm, ok_gTp, ok_gsN, ok_gsC, rg1_mk, rg2_mk, ok_rng1, ok_rng2, srcK_tup, srcK_ls, ok_src, finK_next, finK_ret, List.set_cons_zero, List.set_cons_succ, List.map_cons, List.map_nil, List.replicate, List.cons_append, List.nil_append, List.length_cons, List.length_nil, Bool.false_eq_true, eq_self, if_true, if_false, Nat.zero_add]
      rw [append_loc st_get2 (by rw [List.length_map]; omega), st_set2, ok_ok]
      refine ⟨t9, ds ++ [srtS ws], _, rfl, by simp [encS], by simp, fun p hp => ?_, hw9, by omega, by push_cast; omega⟩
      rcases List.mem_append.mp hp with z | z
      · exact hds p z
      · rw [List.mem_singleton.mp z]; exact ⟨ws, rfl, q1, q2⟩
    · obtain ⟨t8, ds, v4, rfl, rfl, hdl, hds, hw8, hge8, hle8⟩ := h
      rw [rngD_len] at hdl hle8
      have g1 := st_get1 (t := tapOb t8) (o := Ob.lst (ps.map encP)) (r := r) (l := [Ob.lst (ds.map encS)])
      have g2 := st_get2 (t := tapOb t8) (o := Ob.lst (ps.map encP)) (o2 := Ob.lst (ds.map encS)) (r := r) (l := [])
      simp only [ok_ok, kDrop_ap, kRet_ap, kSet_ap, kCons2_ap, kCons_ap, kTup_ap, kLst_ap, kVal_ap, kNew_ap, kBin2_ap, kBin_ap, kUn_ap, kCall_ap, kCallL_ap, kNotT_ap, kAndT_ap, kOrT_ap, kIf_ap, kIfS_ap, kAnd_ap, kOr_ap, kNot_ap, kMt2_ap, kMt_ap, kPut4_ap, kPut3_ap, kPut2_ap, kPut_ap, kExt2_ap, kExt_ap, kAsg2_ap, kAsg_ap, kFor_ap, kLc_ap, kSl3_ap, kSl2_ap, kSl_ap, kGs_ap, ok_seq, sq_next, sq_ret, sq_brk, sq_cont, ok_nop, ok_brk, ok_cont, ok_drop, ok_ret, ok_retN, ok_set, ok_var0, ok_varS, ok_c, ok_nil, ok_cons, ok_tup, ok_lst, ok_val, ok_new, ok_bin, ok_un, ok_call, ok_callL, ok_test, tst_bl, ok_notT, ok_andT, ok_orT, ok_if, ok_ifS, ok_and, ok_or, ok_not, ok_mt, ok_put, ok_extend, pr2_mk, ok_par2, ok_asg, ok_for, ok_lc, ok_yes, ok_noPart, prt_int, ok_part, ok_sl, ok_gNm, ok_gTp, ok_gsN, ok_gsC, rg1_mk, rg2_mk, ok_rng1, ok_rng2, srcK_tup, srcK_ls, ok_src, finK_next, finK_ret, List.set_cons_zero, List.set_cons_succ, List.map_cons, List.map_nil, List.replicate, List.cons_append, List.nil_append, List.length_cons, List.length_nil, Bool.false_eq_true, eq_self, if_true, if_false, Nat.zero_add, tuple_loc g1, tuple_loc g2]
      refine ⟨rfl, ?_⟩
      refine fin_tap hf (below_encC 0 ⟨lots, ps, ds⟩) ⟨⟨lots, ps, ds⟩, t8, rfl, ⟨hlen.1, hlen.2, hnd, fun x hx => pool10_word x (hpool x hx), hps, hpl10, ?_, hds, ?_⟩, rfl, hw8, hge8, ?_⟩
      · show (ps.filter fun p => !p.others.isEmpty).length ≤ 3
        omega
      · show ds.length ≤ 12
        omega
      · omega
end Z

namespace Z
open PySem PySem.Spec PyProof.Rows L2

/-! ### an end's sums -/
theorem bs_get {s l : Sto} {o : Ob} : (s ++ o :: l)[s.length]? = some o := by rw [List.getElem?_append_right (Nat.le_refl _), Nat.sub_self]; rfl
theorem bs_set {s l : Sto} {o o' : Ob} : (s ++ o :: l).set s.length o' = s ++ o' :: l := by rw [List.set_append_right _ _ (Nat.le_refl _), Nat.sub_self]; rfl
theorem fin_base {s l : Sto} {d : Dv} {T : Dv → Sto → Prop} (hf : Fl s) (hd : below 0 d = true) (h : T d s) : Ok (gcZ s.length d (s ++ l)) T := ok_gc rfl hf (below_mono (Nat.zero_le _) hd) h
theorem fin_base0 {s : Sto} {d : Dv} {T : Dv → Sto → Prop} (hf : Fl s) (hd : below 0 d = true) (h : T d s) : Ok (gcZ s.length d s) T := ok_gc0 rfl hf (below_mono (Nat.zero_le _) hd) h
theorem ok_aug_lst {g : Int → Int → Int} {fo fi fv : Fn Dv} {env : En} {s : Sto} {R : Ct → Sto → Prop} {n : Nat} {ds : List Dv} {k v old : Int} (ho : fo env s = .ok (.loc n) s) (hi : fi env s = .ok (.int k) s) (hv : fv env s = .ok (.int v) s)
    (hs : s[n]? = some (.lst ds)) (h0 : 0 ≤ k) (hd : ds[k.toNat]? = some (.int old)) (h : R (.next env) (s.set n (.lst (ds.set k.toNat (.int (g old v)))))) : Ok (fAug g fo fi fv env s) R := by
  unfold fAug
  rw [ho]
  show Ok (if isL (.loc n) s = true then _ else _) R
  rw [if_pos (isL_loc hs)]
  unfold augWay
  rw [hi]
  have hl := (List.getElem?_eq_some_iff.mp hd).1
  have e1 : gIxL (.loc n) (.int k) s = .ok (.int old) s := by
    show (match s[n]? with | some (.lst ds) => (match atI ds k with | some d => Rs.ok d s | none => .bad) | _ => .bad) = _
    rw [hs]
    show (match atI ds k with | some d => Rs.ok d s | none => .bad) = _
    have := atI_nat' hd
    rw [Int.toNat_of_nonneg h0] at this
    rw [this]
  have e2 : ∀ d, gPutL (.loc n) (.int k) d s = .ok () (s.set n (.lst (ds.set k.toNat d))) := fun d => by
    show (match s[n]? with | some (.lst ds) => (match ixN ds.length k with | some j => Rs.ok () (s.set n (.lst (ds.set j d))) | none => .bad) | _ => .bad) = _
    rw [hs]
    show (match ixN ds.length k with | some j => Rs.ok () (s.set n (.lst (ds.set j d))) | none => .bad) = _
    rw [ixN_nat h0 (by omega)]
  show Ok ((gIxL (.loc n) (.int k) s).bind _) R
  rw [e1]
  show Ok ((fv env s).bind _) R
  rw [hv]
  show Ok ((gPutL (.loc n) (.int k) (.int (g old v)) s).bind _) R
  rw [e2]
  exact h
theorem strsOf_map : ∀ xs : List Str, strsOf (xs.map .str) = some xs
  | [] => rfl
  | x :: r => by
    show (strsOf (r.map .str)).map (x :: ·) = _
    rw [strsOf_map r]; rfl
theorem index_tup {xs : List Str} {z : Str} {s : Sto} (h : z ∈ xs) : ∃ k : Nat, gIndexT (.tup (xs.map .str)) [.str z] s = .ok (.int k) s ∧ xs[k]? = some z := by
  cases e : xs.findIdx? (· == z) with
  | none =>
    have := List.findIdx?_eq_none_iff.mp e z h
    simp at this
  | some k =>
    obtain ⟨h1, h2, _⟩ := List.findIdx?_eq_some_iff_getElem.mp e
    refine ⟨k, ?_, by rw [List.getElem?_eq_getElem h1, beq_iff_eq.mp h2]⟩
    show (match strsOf (xs.map .str) with | some zs => (match zs.findIdx? (· == z) with | some j => Rs.ok (Dv.int (j : Nat)) s | none => .bad) | none => .bad) = _
    rw [strsOf_map]
    show (match xs.findIdx? (· == z) with | some j => Rs.ok (Dv.int (j : Nat)) s | none => .bad) = _
    rw [e]
theorem ix_first {d : Dv} {ds : List Dv} {s : Sto} : gIx (.tup (d :: ds)) (.int 0) s = .ok d s := ix_tup (by decide) rfl
theorem ix_second {d e : Dv} {ds : List Dv} {s : Sto} : gIx (.tup (d :: e :: ds)) (.int 1) s = .ok e s := ix_tup (by decide) rfl
theorem ix_third {d e f : Dv} {ds : List Dv} {s : Sto} : gIx (.tup (d :: e :: f :: ds)) (.int 2) s = .ok f s := ix_tup (by decide) rfl
def encL (x : Str × Int) : Dv := .tup [.str x.1, .int x.2]
def encE (laid : List (Str × Int)) (ds : List Str) : Dv := .tup [.tup (laid.map encL), encS ds]
def sumOf (laid : List (Str × Int)) (n : Str) : Int := (laid.map fun x => if x.1 = n then x.2 else 0).sum
def cntOf (ds : List Str) (n : Str) : Int := (ds.map fun x => if x = n then 1 else 0).sum
def tally (lots : List Str) (laid : List (Str × Int)) (ds : List Str) : List Int := lots.map fun n => sumOf laid n + cntOf ds n
theorem set_nodup {α : Type} [DecidableEq α] {β : Type} (g : α → β) : ∀ {l : List α} {k : Nat} {x : α} {w : β}, l.Nodup → l[k]? = some x → (l.map g).set k w = l.map fun n => if n = x then w else g n
  | [], k, x, w, _, h => by simp at h
  | y :: l, 0, x, w, hn, h => by
    simp only [List.getElem?_cons_zero, Option.some.injEq] at h
    subst h
    rw [List.map_cons, List.set_cons_zero, List.map_cons, if_pos rfl]
    congr 1
    refine List.map_congr_left fun z hz => ?_
    rw [if_neg]
    intro e
    subst e
    exact (List.nodup_cons.mp hn).1 hz
  | y :: l, k + 1, x, w, hn, h => by
    rw [List.getElem?_cons_succ] at h
    rw [List.map_cons, List.set_cons_succ, List.map_cons, set_nodup g (List.nodup_cons.mp hn).2 h]
    rw [if_neg]
    intro e
    subst e
    exact (List.nodup_cons.mp hn).1 (List.mem_of_getElem? h)
theorem sumOf_app (l : List (Str × Int)) (x : Str × Int) (n : Str) : sumOf (l ++ [x]) n = sumOf l n + if x.1 = n then x.2 else 0 := by
  simp [sumOf, List.sum_append]
theorem cntOf_app (l : List Str) (x : Str) (n : Str) : cntOf (l ++ [x]) n = cntOf l n + if x = n then 1 else 0 := by
  simp [cntOf, List.sum_append]
def bTally : Fn Ct :=
  fSeq (fSet 2 (fBin gIx (fVar 0) (fC (.int 0))))
  (fSeq (fSet 4 (fNew (fLc (fSrc (fVar 2)) [3] (gNm 3) (fYes) (fC (.int 0)))))
  (fSeq (fFor (fSrc (fBin gIx (fVar 1) (fC (.int 0)))) (gTp 2 (gsCons (gNm 3) (gsCons (gNm 5) (gsNil)))) (fAug (fun i j => i + j) (fVar 4) (fIndex (fVar 2) (fCons (fVar 3) (fNil))) (fVar 5)))
  (fSeq (fFor (fSrc (fBin gIx (fVar 1) (fC (.int 1)))) (gNm 3) (fAug (fun i j => i + j) (fVar 4) (fIndex (fVar 2) (fCons (fVar 3) (fNil))) (fC (.int 1))))
  (fRet (fCall gTuple (fCons (fVar 4) (fNil)))))))
def TallyS (φ : Phi) : Prop := ∀ (s : Sto) (lots : List Str) (more : List Dv) (laid : List (Str × Int)) (ds : List Str), lots.Nodup → lots.length ≤ 1000 → (∀ x ∈ laid, x.1 ∈ lots) → (∀ d ∈ ds, d ∈ lots) → Fl s →
  Ok (φ [.tup (encS lots :: more), encE laid ds] s) fun d s' => d = .tup ((tally lots laid ds).map .int) ∧ s' = s
theorem const_lc {xs : List Dv} {own : List Nat} {i : Nat} {d : Dv} {env : En} {s : Sto} {L : List Dv → Sto → Prop} (h : L (xs.map fun _ => d) s) : Ok (lcZ noChk own (gNm i) fYes (fC d) xs env s) L := by
  refine ok_lcI (fun j acc s' => acc = (xs.take j).map (fun _ => d) ∧ s' = s) (fun _ _ _ _ => rfl) (fun j e acc s' hd h => ?_) (fun acc s' h => ?_) ⟨by simp, rfl⟩
  · obtain ⟨rfl, rfl⟩ := h
    simp only [ok_ok, kDrop_ap, kRet_ap, kSet_ap, kCons2_ap, kCons_ap, kTup_ap, kLst_ap, kVal_ap, kNew_ap, kBin2_ap, kBin_ap, kUn_ap, kCall_ap, kCallL_ap, kNotT_ap, kAndT_ap, kOrT_ap, kIf_ap, kIfS_ap, kAnd_ap, kOr_ap, kNot_ap, kMt2_ap, kMt_ap, kPut4_ap, kPut3_ap, kPut2_ap, kPut_ap, kExt2_ap, kExt_ap, kAsg2_ap, kAsg_ap, kFor_ap, kLc_ap, kSl3_ap, kSl2_ap, kSl_ap, kGs_ap, ok_seq, sq_next, sq_ret, sq_brk, sq_cont, ok_nop, ok_brk, ok_cont, ok_drop, ok_ret, ok_retN, ok_set, ok_var0, ok_varS, ok_c, ok_nil, ok_cons, ok_tup, ok_lst, ok_val, ok_new, ok_bin, ok_un, ok_call, ok_callL, ok_test, tst_bl, ok_notT, ok_andT, ok_orT, ok_if, ok_ifS, ok_and, ok_or, ok_not, ok_mt, ok_put, ok_extend, pr2_mk, ok_par2, ok_asg, ok_for, ok_lc, ok_yes, ok_noPart, prt_int, ok_part, ok_sl, ok_gNm, ok_gTp, ok_gsN, ok_gsC, rg1_mk, rg2_mk, ok_rng1, ok_rng2, srcK_tup, srcK_ls, ok_src, finK_next, finK_ret, List.set_cons_zero, List.set_cons_succ, List.map_cons, List.map_nil, List.replicate, List.cons_append, List.nil_append, List.length_cons, List.length_nil, Bool.false_eq_true, eq_self, if_true, if_false, Nat.zero_add]
    rw [take_succ' hd]
    simp
  · obtain ⟨rfl, rfl⟩ := h
    rw [List.take_length]; exact ‹_›
theorem tally_spec : TallyS (fDef 2 6 bTally) := by
  intro s lots more laid ds hnd hl hla hds hf
  rw [ok_def]
  refine ⟨rfl, ?_⟩
  unfold bTally
  simp only [ok_ok, kDrop_ap, kRet_ap, kSet_ap, kCons2_ap, kCons_ap, kTup_ap, kLst_ap, kVal_ap, kNew_ap, kBin2_ap, kBin_ap, kUn_ap, kCall_ap, kCallL_ap, kNotT_ap, kAndT_ap, kOrT_ap, kIf_ap, kIfS_ap, kAnd_ap, kOr_ap, kNot_ap, kMt2_ap, kMt_ap, kPut4_ap, kPut3_ap, kPut2_ap, kPut_ap, kExt2_ap, kExt_ap, kAsg2_ap, kAsg_ap, kFor_ap, kLc_ap, kSl3_ap, kSl2_ap, kSl_ap, kGs_ap, ok_seq, sq_next, sq_ret, sq_brk, sq_cont, ok_nop, ok_brk, ok_cont, ok_drop, ok_ret, ok_retN, ok_set, ok_var0, ok_varS, ok_c, ok_nil, ok_cons, ok_tup, ok_lst, ok_val, ok_new, ok_bin, ok_un, ok_call, ok_callL, ok_test, tst_bl, ok_notT, ok_andT, ok_orT, ok_if, ok_ifS, ok_and, ok_or, ok_not, ok_mt, ok_put, ok_extend, pr2_mk, ok_par2, ok_asg, ok_for, ok_lc, ok_yes, ok_noPart, prt_int, ok_part, ok_sl, ok_gNm, ok_gTp, ok_gsN, ok_gsC, rg1_mk, rg2_mk, ok_rng1, ok_rng2, srcK_tup, srcK_ls, ok_src, finK_next, finK_ret, List.set_cons_zero, List.set_cons_succ, List.map_cons, List.map_nil, List.replicate, List.cons_append, List.nil_append, List.length_cons, List.length_nil, Bool.false_eq_true, eq_self, if_true, if_false, Nat.zero_add, ix_first, encS]
  refine ⟨decide_eq_true (by rw [List.length_map]; omega), ?_⟩
  refine const_lc ?_
  rw [List.map_map]
  simp only [ok_ok, kDrop_ap, kRet_ap, kSet_ap, kCons2_ap, kCons_ap, kTup_ap, kLst_ap, kVal_ap, kNew_ap, kBin2_ap, kBin_ap, kUn_ap, kCall_ap, kCallL_ap, kNotT_ap, kAndT_ap, kOrT_ap, kIf_ap, kIfS_ap, kAnd_ap, kOr_ap, kNot_ap, kMt2_ap, kMt_ap, kPut4_ap, kPut3_ap, kPut2_ap, kPut_ap, kExt2_ap, kExt_ap, kAsg2_ap, kAsg_ap, kFor_ap, kLc_ap, kSl3_ap, kSl2_ap, kSl_ap, kGs_ap, ok_seq, sq_next, sq_ret, sq_brk, sq_cont, ok_nop, ok_brk, ok_cont, ok_drop, ok_ret, ok_retN, ok_set, ok_var0, ok_varS, ok_c, ok_nil, ok_cons, ok_tup, ok_lst, ok_val, ok_new, ok_bin, ok_un, ok_call, ok_callL, ok_test, tst_bl, ok_notT, ok_andT, ok_orT, ok_if, ok_ifS, ok_and, ok_or, ok_not, ok_mt, ok_put, ok_extend, pr2_mk, ok_par2, ok_asg, ok_for, ok_lc, ok_yes, ok_noPart, prt_int, ok_part, ok_sl, ok_gNm, ok_gTp, ok_gsN, ok_gsC, rg1_mk, rg2_mk, ok_rng1, ok_rng2, srcK_tup, srcK_ls, ok_src, finK_next, finK_ret, List.set_cons_zero, List.set_cons_succ, List.map_cons, List.map_nil, List.replicate, List.cons_append, List.nil_append, List.length_cons, List.length_nil, Bool.false_eq_true, eq_self, if_true, if_false, Nat.zero_add, encE, ix_first]
  -- the places laid
  have look : ∀ (g : Str → Int) (env : En) (v3 v5 : Option Dv) (z : Str), z ∈ lots → ∃ k : Nat, fIndex (fVar 2) (fCons (fVar 3) fNil) [some (.tup (encS lots :: more)), some (encE laid ds), some (.tup (lots.map .str)), some (.str z), some (.loc s.length), v5] (s ++ [.lst (lots.map fun n => .int (g n))]) =
      .ok (.int k) (s ++ [.lst (lots.map fun n => .int (g n))]) ∧ lots[k]? = some z := by
    intro g env v3 v5 z hz
    obtain ⟨k, h1, h2⟩ := index_tup (s := s ++ [.lst (lots.map fun n => .int (g n))]) hz
    exact ⟨k, h1, h2⟩
  refine ok_loop (fun i env s' => ∃ (v3 v5 : Option Dv), env = [some (.tup (encS lots :: more)), some (encE laid ds), some (.tup (lots.map .str)), v3, some (.loc s.length), v5] ∧ s' = s ++ [.lst (lots.map fun n => .int (sumOf (laid.take i) n))])
    (fun _ _ _ _ => rfl) (fun i d env s' hd h => ?_) (fun env s' h => ?_) ⟨_, _, rfl, rfl⟩
  · obtain ⟨v3, v5, rfl, rfl⟩ := h
    have hi : i < laid.length := by have := (List.getElem?_eq_some_iff.mp hd).1; rwa [List.length_map] at this
    rw [List.getElem?_map, List.getElem?_eq_getElem hi] at hd
    cases hd
    simp only [ok_ok, kDrop_ap, kRet_ap, kSet_ap, kCons2_ap, kCons_ap, kTup_ap, kLst_ap, kVal_ap, kNew_ap, kBin2_ap, kBin_ap, kUn_ap, kCall_ap, kCallL_ap, kNotT_ap, kAndT_ap, kOrT_ap, kIf_ap, kIfS_ap, kAnd_ap, kOr_ap, kNot_ap, kMt2_ap, kMt_ap, kPut4_ap, kPut3_ap, kPut2_ap, kPut_ap, kExt2_ap, kExt_ap, kAsg2_ap, kAsg_ap, kFor_ap, kLc_ap, kSl3_ap, kSl2_ap, kSl_ap, kGs_ap, ok_seq, sq_next, sq_ret, sq_brk, sq_cont, ok_nop, ok_brk, ok_cont, ok_drop, ok_ret, ok_retN, ok_set, ok_var0, ok_varS, ok_c, ok_nil, ok_cons, ok_tup, ok_lst, ok_val, ok_new, ok_bin, ok_un, ok_call, ok_callL, ok_test, tst_bl, ok_notT, ok_andT, ok_orT, ok_if, ok_ifS, ok_and, ok_or, ok_not, ok_mt, ok_put, ok_extend, pr2_mk, ok_par2, ok_asg, ok_for, ok_lc, ok_yes, ok_noPart, prt_int, ok_part, ok_sl, ok_gNm, ok_gTp, ok_gsN, ok_gsC, rg1_mk, rg2_mk, ok_rng1, ok_rng2, srcK_tup, srcK_ls, ok_src, finK_next, finK_ret, List.set_cons_zero, List.set_cons_succ, List.map_cons, List.map_nil, List.replicate, List.cons_append, List.nil_append, List.length_cons, List.length_nil, Bool.false_eq_true, eq_self, if_true, if_false, Nat.zero_add, encL]
    refine ⟨rfl, ?_⟩
    obtain ⟨k, h1, h2⟩ := look (sumOf (laid.take i)) [] v3 (some (.int laid[i].2)) laid[i].1 (hla _ (List.getElem_mem _))
    refine ok_aug_lst (n := s.length) (k := (k : Int)) (v := laid[i].2) (old := sumOf (laid.take i) laid[i].1) rfl h1 rfl bs_get (by omega) (by rw [Int.toNat_natCast, List.getElem?_map, h2]; rfl) ?_
    refine ⟨_, _, rfl, ?_⟩
    rw [bs_set, Int.toNat_natCast, set_nodup _ hnd h2]
    congr 3
    refine List.map_congr_left fun n hn => ?_
    rw [take_succ' (List.getElem?_eq_getElem hi), sumOf_app]
    by_cases e : n = laid[i].1
    · rw [if_pos e, if_pos e.symm, e]
    · rw [if_neg e, if_neg fun z => e z.symm]; simp
  · obtain ⟨v3, v5, rfl, rfl⟩ := h
    rw [List.length_map, List.take_length]
    simp only [ok_ok, kDrop_ap, kRet_ap, kSet_ap, kCons2_ap, kCons_ap, kTup_ap, kLst_ap, kVal_ap, kNew_ap, kBin2_ap, kBin_ap, kUn_ap, kCall_ap, kCallL_ap, kNotT_ap, kAndT_ap, kOrT_ap, kIf_ap, kIfS_ap, kAnd_ap, kOr_ap, kNot_ap, kMt2_ap, kMt_ap, kPut4_ap, kPut3_ap, kPut2_ap, kPut_ap, kExt2_ap, kExt_ap, kAsg2_ap, kAsg_ap, kFor_ap, kLc_ap, kSl3_ap, kSl2_ap, kSl_ap, kGs_ap, ok_seq, sq_next, sq_ret, sq_brk, sq_cont, ok_nop, ok_brk, ok_cont, ok_drop, ok_ret, ok_retN, ok_set, ok_var0, ok_varS, ok_c, ok_nil, ok_cons, ok_tup, ok_lst, ok_val, ok_new, ok_bin, ok_un, ok_call, ok_callL, ok_test, tst_bl, ok_notT, ok_andT, ok_orT, ok_if, ok_ifS, ok_and, ok_or, ok_not, ok_mt, ok_put, ok_extend, pr2_mk, ok_par2, ok_asg, ok_for, ok_lc, ok_yes, ok_noPart, prt_int, ok_part, ok_sl, ok_gNm, ok_gTp, ok_gsN, ok_gsC, rg1_mk, rg2_mk, ok_rng1, ok_rng2, srcK_tup, srcK_ls, ok_src, finK_next, finK_ret, List.set_cons_zero, List.set_cons_succ, List.map_cons, List.map_nil, List.replicate, List.cons_append, List.nil_append, List.length_cons, List.length_nil, Bool.false_eq_true, eq_self, if_true, if_false, Nat.zero_add, encE, ix_second, encS]
    refine ok_loop (fun i env s' => ∃ (v3 v5 : Option Dv), env = [some (.tup (encS lots :: more)), some (encE laid ds), some (.tup (lots.map .str)), v3, some (.loc s.length), v5] ∧ s' = s ++ [.lst (lots.map fun n => .int (sumOf laid n + cntOf (ds.take i) n))])
      (fun _ _ _ _ => rfl) (fun i d env s' hd h => ?_) (fun env s' h => ?_) ⟨_, _, rfl, by simp [cntOf]⟩
    · obtain ⟨v3, v5, rfl, rfl⟩ := h
      have hi : i < ds.length := by have := (List.getElem?_eq_some_iff.mp hd).1; rwa [List.length_map] at this
      rw [List.getElem?_map, List.getElem?_eq_getElem hi] at hd
      cases hd
      simp only [ok_ok, kDrop_ap, kRet_ap, kSet_ap, kCons2_ap, kCons_ap, kTup_ap, kLst_ap, kVal_ap, kNew_ap, kBin2_ap, kBin_ap, kUn_ap, kCall_ap, kCallL_ap, kNotT_ap, kAndT_ap, kOrT_ap, kIf_ap, kIfS_ap, kAnd_ap, kOr_ap, kNot_ap, kMt2_ap, kMt_ap, kPut4_ap, kPut3_ap, kPut2_ap, kPut_ap, kExt2_ap, kExt_ap, kAsg2_ap, kAsg_ap, kFor_ap, kLc_ap, kSl3_ap, kSl2_ap, kSl_ap, kGs_ap, ok_seq, sq_next, sq_ret, sq_brk, sq_cont, ok_nop, ok_brk, ok_cont, ok_drop, ok_ret, ok_retN, ok_set, ok_var0, ok_varS, ok_c, ok_nil, ok_cons, ok_tup, ok_lst, ok_val, ok_new, ok_bin, ok_un, ok_call, ok_callL, ok_test, tst_bl, ok_notT, ok_andT, ok_orT, ok_if, ok_ifS, ok_and, ok_or, ok_not, ok_mt, ok_put, ok_extend, pr2_mk, ok_par2, ok_asg, ok_for, ok_lc, ok_yes, ok_noPart, prt_int, ok_part, ok_sl, ok_gNm, ok_gTp, ok_gsN, ok_gsC, rg1_mk, rg2_mk, ok_rng1, ok_rng2, srcK_tup, srcK_ls, ok_src, finK_next, finK_ret, List.set_cons_zero, List.set_cons_succ, List.map_cons, List.map_nil, List.replicate, List.cons_append, List.nil_append, List.length_cons, List.length_nil, Bool.false_eq_true, eq_self, if_true, if_false, Nat.zero_add]
      obtain ⟨k, h1, h2⟩ := look (fun n => sumOf laid n + cntOf (ds.take i) n) [] v3 v5 ds[i] (hds _ (List.getElem_mem _))
      refine ok_aug_lst (n := s.length) (k := (k : Int)) (v := 1) (old := sumOf laid ds[i] + cntOf (ds.take i) ds[i]) rfl h1 rfl bs_get (by omega) (by rw [Int.toNat_natCast, List.getElem?_map, h2]; rfl) ?_
      refine ⟨_, _, rfl, ?_⟩
      rw [bs_set, Int.toNat_natCast, set_nodup _ hnd h2]
      congr 3
      refine List.map_congr_left fun n hn => ?_
      rw [take_succ' (List.getElem?_eq_getElem hi), cntOf_app]
      by_cases e : n = ds[i]
      · rw [if_pos e, if_pos e.symm, e]; congr 1; omega
      · rw [if_neg e, if_neg fun z => e z.symm]; simp
    · obtain ⟨v3, v5, rfl, rfl⟩ := h
      rw [List.length_map, List.take_length]
      simp only [ok_ok, kDrop_ap, kRet_ap, kSet_ap, kCons2_ap, kCons_ap, kTup_ap, kLst_ap, kVal_ap, kNew_ap, kBin2_ap, kBin_ap, kUn_ap, kCall_ap, kCallL_ap, kNotT_ap, kAndT_ap, kOrT_ap, kIf_ap, kIfS_ap, kAnd_ap, kOr_ap, kNot_ap, kMt2_ap, kMt_ap, kPut4_ap, kPut3_ap, kPut2_ap, kPut_ap, kExt2_ap, kExt_ap, kAsg2_ap, kAsg_ap, kFor_ap, kLc_ap, kSl3_ap, kSl2_ap, kSl_ap, kGs_ap, ok_seq, sq_next, sq_ret, sq_brk, sq_cont, ok_nop, ok_brk, ok_cont, ok_drop, ok_ret, ok_retN, ok_set, ok_var0, ok_varS, ok_c, ok_nil, ok_cons, ok_tup, ok_lst, ok_val, ok_new, ok_bin, ok_un, ok_call, ok_callL, ok_test, tst_bl, ok_notT, ok_andT, ok_orT, ok_if, ok_ifS, ok_and, ok_or, ok_not, ok_mt, ok_put, ok_extend, pr2_mk, ok_par2, ok_asg, ok_for, ok_lc, ok_yes, ok_noPart, prt_int, ok_part, ok_sl, ok_gNm, ok_gTp, ok_gsN, ok_gsC, rg1_mk, rg2_mk, ok_rng1, ok_rng2, srcK_tup, srcK_ls, ok_src, finK_next, finK_ret, List.set_cons_zero, List.set_cons_succ, List.map_cons, List.map_nil, List.replicate, List.cons_append, List.nil_append, List.length_cons, List.length_nil, Bool.false_eq_true, eq_self, if_true, if_false, Nat.zero_add, tuple_loc bs_get]
      refine fin_base hf (below_tup (belows_map (fun _ => rfl) _)) ⟨?_, rfl⟩
      rw [tally, List.map_map]; rfl
end Z

namespace Z
open PySem PySem.Spec PyProof.Rows L2

/-! ### data without places: repr -/
mutual
def pd : Dv → PyData
  | .non => .none
  | .bl b => .bool b
  | .int i => .int i
  | .str x => .str x
  | .tup ds => .tuple (pds ds)
  | .ls ds => .list (pds ds)
  | .loc _ => .none
def pds : List Dv → List PyData
  | [] => []
  | d :: r => pd d :: pds r
end
mutual
/-- no places, ints below 10^12, texts in order, not deep -/
def gd : Nat → Dv → Bool
  | 0, _ => false
  | _ + 1, .non => true
  | _ + 1, .bl _ => true
  | _ + 1, .int i => decide (i.natAbs < 10 ^ 12)
  | _ + 1, .str x => PyData.strOk x
  | n + 1, .tup ds => gds n ds
  | n + 1, .ls ds => gds n ds
  | _ + 1, .loc _ => false
def gds : Nat → List Dv → Bool
  | _, [] => true
  | n, d :: r => gd n d && gds n r
end
mutual
def wd : Dv → Nat
  | .int _ => 41
  | .str x => x.cps.size
  | .tup ds => wds ds
  | .ls ds => wds ds
  | _ => 0
def wds : List Dv → Nat
  | [] => 0
  | d :: r => wd d + 1 + wds r
end
mutual
theorem py_gd {s : Sto} : ∀ {n m : Nat} {d : Dv}, gd n d = true → n ≤ m → py s m d = some (pd d)
  | 0, _, _, h, _ => by simp [gd] at h
  | n + 1, 0, _, _, hm => by omega
  | n + 1, m + 1, .non, _, _ => by simp [py, pd]
  | n + 1, m + 1, .bl _, _, _ => by simp [py, pd]
  | n + 1, m + 1, .int _, _, _ => by simp [py, pd]
  | n + 1, m + 1, .str _, _, _ => by simp [py, pd]
  | n + 1, m + 1, .tup ds, h, hm => by
    have h : gds n ds = true := by simpa [gd] using h
    show (ds.mapM (py s m)).map PyData.tuple = _
    rw [pys_gd h (by omega)]; simp [pd]
  | n + 1, m + 1, .ls ds, h, hm => by
    have h : gds n ds = true := by simpa [gd] using h
    show (ds.mapM (py s m)).map PyData.list = _
    rw [pys_gd h (by omega)]; simp [pd]
  | n + 1, m + 1, .loc _, h, _ => by simp [gd] at h
theorem pys_gd {s : Sto} : ∀ {n m : Nat} {ds : List Dv}, gds n ds = true → n ≤ m → ds.mapM (py s m) = some (pds ds)
  | _, _, [], _, _ => by simp [pds]
  | n, m, d :: r, h, hm => by
    have h : gd n d = true ∧ gds n r = true := by simpa [gds] using h
    rw [List.mapM_cons, py_gd h.1 hm, pys_gd h.2 hm]; simp [pds]
end
theorem int_short {i : Int} (h : i.natAbs < 10 ^ 12) : (PyData.shown (.int i)).length ≤ 13 := by
  have := int_text_length_le10 (a := i) (k := 12) (by decide) h
  show (Str.ofString (toString i)).length ≤ 13
  rw [PySem.ofString_length]; exact this
theorem log2_small {n : Nat} (h : n < 10 ^ 12) : n.log2 < 40 := by
  by_cases h0 : n = 0
  · subst h0; decide
  · exact (Nat.log2_lt h0).mpr (by omega)
mutual
theorem gd_ok : ∀ {n : Nat} {d : Dv}, gd n d = true → (pd d).canLay0 = true ∧ (pd d).intsShort 13 = true ∧ (pd d).showable = true ∧ (pd d).weight ≤ wd d ∧ (pd d).depth ≤ n
  | 0, _, h => by simp [gd] at h
  | n + 1, .non, _ => by simp [pd, PyData.canLay0, PyData.intsShort, PyData.showable, PyData.weight, PyData.depth, wd]
  | n + 1, .bl _, _ => by simp [pd, PyData.canLay0, PyData.intsShort, PyData.showable, PyData.weight, PyData.depth, wd]
  | n + 1, .int i, h => by
    have h : i.natAbs < 10 ^ 12 := by simpa [gd] using h
    have hl := log2_small h
    refine ⟨by simp [pd, PyData.canLay0], ?_, ?_, ?_, by simp [pd, PyData.depth]⟩
    · simp only [pd, PyData.intsShort, decide_eq_true_eq]; exact int_short h
    · simp only [pd, PyData.showable, decide_eq_true_eq]; omega
    · simp only [pd, PyData.weight, wd]
      split <;> omega
  | n + 1, .str x, h => by
    have h : PyData.strOk x = true := by simpa [gd] using h
    simp [pd, PyData.canLay0, PyData.intsShort, PyData.showable, PyData.weight, PyData.depth, wd, h]
  | n + 1, .tup ds, h => by
    have h : gds n ds = true := by simpa [gd] using h
    obtain ⟨h1, h2, h3, h4, h5⟩ := gds_ok h
    refine ⟨by simpa [pd, PyData.canLay0] using h1, by simpa [pd, PyData.intsShort] using h2, by simpa [pd, PyData.showable] using h3, by simpa [pd, PyData.weight, wd] using h4, ?_⟩
    simp only [pd, PyData.depth]; omega
  | n + 1, .ls ds, h => by
    have h : gds n ds = true := by simpa [gd] using h
    obtain ⟨h1, h2, h3, h4, h5⟩ := gds_ok h
    refine ⟨by simpa [pd, PyData.canLay0] using h1, by simpa [pd, PyData.intsShort] using h2, by simpa [pd, PyData.showable] using h3, by simpa [pd, PyData.weight, wd] using h4, ?_⟩
    simp only [pd, PyData.depth]; omega
  | n + 1, .loc _, h => by simp [gd] at h
theorem gds_ok : ∀ {n : Nat} {ds : List Dv}, gds n ds = true → PyData.canLayAll0 (pds ds) = true ∧ PyData.intsShortAll 13 (pds ds) = true ∧ PyData.showableAll (pds ds) = true ∧ PyData.weightAll (pds ds) ≤ wds ds ∧ PyData.depthAll (pds ds) ≤ n
  | _, [], _ => by simp [pds, PyData.canLayAll0, PyData.intsShortAll, PyData.showableAll, PyData.weightAll, PyData.depthAll, wds]
  | n, d :: r, h => by
    have h : gd n d = true ∧ gds n r = true := by simpa [gds] using h
    obtain ⟨a1, a2, a3, a4, a5⟩ := gd_ok h.1
    obtain ⟨b1, b2, b3, b4, b5⟩ := gds_ok h.2
    refine ⟨by simp [pds, PyData.canLayAll0, a1, b1], by simp [pds, PyData.intsShortAll, a2, b2], by simp [pds, PyData.showableAll, a3, b3], ?_, ?_⟩
    · simp only [pds, PyData.weightAll, wds]; omega
    · simp only [pds, PyData.depthAll]; omega
end
theorem repr_py {d : Dv} {p : PyData} {s : Sto} (hp : pyOf s d = some p) (h1 : p.canLay0 = true) (h2 : p.intsShort 13 = true) (h3 : p.showable = true) (h4 : p.weight ≤ 2 ^ 20) (h5 : p.depth ≤ 64) : gRepr [d] s = .ok (.str p.shown) s := by
  have hl : p.shown.length ≤ 15728653 := shown_le13 (by show (PyData.canLay0 p && decide (PyData.depth p ≤ 64) && decide (PyData.weight p ≤ 2 ^ 20)) = true; rw [h1, decide_eq_true h5, decide_eq_true h4]; rfl) h2
  show (match pyOf s d with | some p => Rs.iff (p.showable && decide (p.shown.length ≤ 16777216)) (Rs.ok (Dv.str p.shown) s) | none => .bad) = _
  rw [hp]
  show Rs.iff (p.showable && decide (p.shown.length ≤ 16777216)) _ = _
  rw [h3, decide_eq_true (by omega)]; rfl
theorem repr_gd {n : Nat} {d : Dv} {s : Sto} (h : gd n d = true) (hn : n ≤ 40) (hw : wd d ≤ 2 ^ 20) : gRepr [d] s = .ok (.str (pd d).shown) s := by
  obtain ⟨h1, h2, h3, h4, h5⟩ := gd_ok h
  exact repr_py (py_gd h hn) h1 h2 h3 (by omega) (by omega)
theorem repr_loc {n j : Nat} {ds : List Dv} {s : Sto} (hs : s[j]? = some (.lst ds)) (h : gds n ds = true) (hn : n ≤ 39) (hw : wds ds ≤ 2 ^ 20) : gRepr [.loc j] s = .ok (.str (PyData.list (pds ds)).shown) s := by
  obtain ⟨h1, h2, h3, h4, h5⟩ := gds_ok h
  refine repr_py ?_ (by simpa [PyData.canLay0] using h1) (by simpa [PyData.intsShort] using h2) (by simpa [PyData.showable] using h3) (by simp only [PyData.weight]; omega) (by simp only [PyData.depth]; omega)
  show (match s[j]? with | some (.lst ds) => (ds.mapM (py s 39)).map PyData.list | _ => none) = _
  rw [hs]
  show (ds.mapM (py s 39)).map PyData.list = _
  rw [pys_gd h hn]; rfl
theorem gds_all {n : Nat} : ∀ {ds : List Dv}, (∀ d ∈ ds, gd n d = true) → gds n ds = true
  | [], _ => by simp [gds]
  | d :: r, h => by
    simp only [gds, Bool.and_eq_true]
    exact ⟨h d List.mem_cons_self, gds_all fun x hx => h x (List.mem_cons_of_mem _ hx)⟩
theorem gds_map {α : Type} {n : Nat} {f : α → Dv} {xs : List α} (h : ∀ a ∈ xs, gd n (f a) = true) : gds n (xs.map f) = true := gds_all fun d hd => by
  obtain ⟨a, ha, rfl⟩ := List.mem_map.mp hd
  exact h a ha
theorem wds_map {α : Type} {f : α → Dv} {c : Nat} : ∀ {xs : List α}, (∀ a ∈ xs, wd (f a) ≤ c) → wds (xs.map f) ≤ xs.length * (c + 1)
  | [], _ => by simp [wds]
  | x :: r, h => by
    have h1 := h x List.mem_cons_self
    have h2 := wds_map (xs := r) fun y hy => h y (List.mem_cons_of_mem _ hy)
    simp only [List.map_cons, wds, List.length_cons]
    rw [Nat.add_mul, Nat.one_mul]
    omega
theorem sum_ls {zs : List Int} {s : Sto} : gSumL [.ls (zs.map .int)] s = .ok (.int zs.sum) s := by
  have h : intsOf (zs.map .int) = some zs := by
    induction zs with
    | nil => rfl
    | cons z r ih =>
      show (intsOf (r.map .int)).map (z :: ·) = _
      rw [ih]; rfl
  unfold gSumL gOnL
  have e : (seqOf s (.ls (zs.map .int))).bind intsOf = some zs := h
  simp only [e]
  rfl
/-- list + list -/
def kCat2 (x : Dv) (L : List Dv → Sto → Prop) : Dv → Sto → Prop := fun y s2 => Ok (match seqOf s2 x, seqOf s2 y with
  | some ds, some es => Rs.iff (isL x s2 && isL y s2 && decide (ds.length + es.length ≤ 16777216)) (.ok (ds ++ es) s2)
  | _, _ => .bad) L
def kCat (g : Fn Dv) (env : En) (L : List Dv → Sto → Prop) : Dv → Sto → Prop := fun x s1 => Ok (g env s1) (kCat2 x L)
theorem kCat_ap {g : Fn Dv} {env : En} {L : List Dv → Sto → Prop} {x : Dv} {s : Sto} : kCat g env L x s = Ok (g env s) (kCat2 x L) := rfl
theorem ok_catL {f g : Fn Dv} {env : En} {s : Sto} {L : List Dv → Sto → Prop} : Ok (fCatL f g env s) L ↔ Ok (f env s) (kCat g env L) := by
  unfold fCatL; rw [ok_bind]
  exact ⟨fun h => h.mono fun _ _ h => ok_bind.mp h, fun h => h.mono fun _ _ h => ok_bind.mpr h⟩
theorem kCat2_ls {ds es : List Dv} {L : List Dv → Sto → Prop} {s : Sto} : kCat2 (.ls ds) L (.ls es) s ↔ decide (ds.length + es.length ≤ 16777216) = true ∧ L (ds ++ es) s := by
  show Ok (Rs.iff (true && true && _) _) L ↔ _
  rw [ok_iff]; simp only [Bool.true_and, Bool.and_self]; exact Iff.rfl
theorem kCat2_loc {n : Nat} {ds es : List Dv} {L : List Dv → Sto → Prop} {s : Sto} (h : s[n]? = some (.lst ds)) : kCat2 (.loc n) L (.ls es) s ↔ decide (ds.length + es.length ≤ 16777216) = true ∧ L (ds ++ es) s := by
  unfold kCat2
  have e : seqOf s (.loc n) = some ds := by
    show (match s[n]? with | some (.lst ds) => some ds | _ => none) = _
    rw [h]
  rw [e, isL_loc h]
  show Ok (Rs.iff (true && true && _) _) L ↔ _
  rw [ok_iff]; simp only [Bool.true_and, Bool.and_self]; exact Iff.rfl
/-- xs[::-1] -/
def kRev (L : List Dv → Sto → Prop) : Dv → Sto → Prop := fun x s1 => Ok (match seqOf s1 x with
  | some ds => Rs.iff (isL x s1) (.ok ds.reverse s1)
  | none => .bad) L
theorem ok_revL {f : Fn Dv} {env : En} {s : Sto} {L : List Dv → Sto → Prop} : Ok (fRevL f env s) L ↔ Ok (f env s) (kRev L) := ok_bind
theorem kRev_ls {ds : List Dv} {L : List Dv → Sto → Prop} {s : Sto} : kRev L (.ls ds) s ↔ L ds.reverse s := Iff.rfl
theorem kRev_loc {n : Nat} {ds : List Dv} {L : List Dv → Sto → Prop} {s : Sto} (h : s[n]? = some (.lst ds)) : kRev L (.loc n) s ↔ L ds.reverse s := by
  unfold kRev
  have e : seqOf s (.loc n) = some ds := by
    show (match s[n]? with | some (.lst ds) => some ds | _ => none) = _
    rw [h]
  rw [e, isL_loc h]; exact Iff.rfl
end Z

namespace Z
open PySem PySem.Spec PyProof.Rows L2

/-! ### {k: v} -/
def kDict (T : Dv → Sto → Prop) : List (Dv × Dv) → Sto → Prop := fun ps s => ∃ kvs, keysD ps = some kvs ∧ decide (kvs.length ≤ 15) = true ∧ T (.loc s.length) (s ++ [.dk (mergeD [] kvs)])
def kPc3 (k v : Dv) (Z : List (Dv × Dv) → Sto → Prop) : List (Dv × Dv) → Sto → Prop := fun ps s => Z ((k, v) :: ps) s
def kPc2 (r : List (Fn Dv × Fn Dv)) (k : Dv) (env : En) (Z : List (Dv × Dv) → Sto → Prop) : Dv → Sto → Prop := fun v s => Ok (fPairs r env s) (kPc3 k v Z)
def kPc (fv : Fn Dv) (r : List (Fn Dv × Fn Dv)) (env : En) (Z : List (Dv × Dv) → Sto → Prop) : Dv → Sto → Prop := fun k s => Ok (fv env s) (kPc2 r k env Z)
section
variable {T : Dv → Sto → Prop} {Z : List (Dv × Dv) → Sto → Prop} {env : En} {s : Sto} {k v : Dv} {r : List (Fn Dv × Fn Dv)} {fk fv : Fn Dv} {ps : List (Dv × Dv)}
theorem kPc3_ap : kPc3 k v Z ps s = Z ((k, v) :: ps) s := rfl
theorem kPc2_ap : kPc2 r k env Z v s = Ok (fPairs r env s) (kPc3 k v Z) := rfl
theorem kPc_ap : kPc fv r env Z k s = Ok (fv env s) (kPc2 r k env Z) := rfl
theorem ok_pN : Ok (fPairs [] env s) Z ↔ Z [] s := Iff.rfl
theorem ok_pC : Ok (fPairs ((fk, fv) :: r) env s) Z ↔ Ok (fk env s) (kPc fv r env Z) := by
  show Ok (Rs.bind _ _) Z ↔ _
  rw [ok_bind]
  exact ⟨fun h => h.mono fun _ _ h => (ok_bind.mp h).mono fun _ _ h => (ok_bind.mp h).mono fun _ _ h => h, fun h => h.mono fun _ _ h => ok_bind.mpr (h.mono fun _ _ h => ok_bind.mpr (h.mono fun _ _ h => h))⟩
theorem ok_dict {fs : List (Fn Dv × Fn Dv)} : Ok (fDict fs env s) T ↔ Ok (fPairs fs env s) (kDict T) := by
  unfold fDict
  rw [ok_bind]
  refine ⟨fun h => h.mono fun ps s h => ?_, fun h => h.mono fun ps s h => ?_⟩
  · cases e : keysD ps with
    | none => rw [e] at h; exact False.elim h
    | some kvs =>
      rw [e] at h
      obtain ⟨h1, h2⟩ := ok_iff.mp h
      exact ⟨kvs, e, h1, h2⟩
  · obtain ⟨kvs, e, h1, h2⟩ := h
    rw [e]
    exact ok_iff.mpr ⟨h1, h2⟩
theorem list_ls {ds : List Dv} : gList [.ls ds] s = .ok ds s := rfl
end

/-! ### the tap's beginning -/
def bTap : Fn Ct :=
  fRet (fDict [(fC (.str (Str.ofString "cells")), fVal (fCallL gList (fCons (fSl (fVar 0) (fNoPart) (fPart (fC (.int 63)))) (fNil)))), (fC (.str (Str.ofString "spot")), fC (.int 0)), (fC (.str (Str.ofString "rest")), fC (.int 0)), (fC (.str (Str.ofString "calls")), fC (.int 0))])
def TapS (φ : Phi) : Prop := ∀ ns : List Int, Ok (φ [.ls (ns.map .int)] []) fun d s' => ∃ t : Tap, d = .loc 0 ∧ s' = [tapOb t] ∧ t.Wf ∧ t.calls = 0
theorem tap_spec : TapS (fDef 1 1 bTap) := by
  intro ns
  rw [ok_def]
  refine ⟨rfl, ?_⟩
  unfold bTap
  have h : cutD (ns.map Dv.int) none (some 63) = (ns.take 63).map Dv.int := by rw [cut_take (by decide), List.map_take]; rfl
  have e : ∀ s : Sto, gSl (.ls (ns.map Dv.int)) none (some 63) s = .ok (.ls ((ns.take 63).map Dv.int)) s := fun s => by
    show Rs.ok (Dv.ls (cutD (ns.map Dv.int) none (some 63))) s = _
    rw [h]
  simp only [ok_ok, kDrop_ap, kRet_ap, kSet_ap, kCons2_ap, kCons_ap, kTup_ap, kLst_ap, kVal_ap, kNew_ap, kBin2_ap, kBin_ap, kUn_ap, kCall_ap, kCallL_ap, kNotT_ap, kAndT_ap, kOrT_ap, kIf_ap, kIfS_ap, kAnd_ap, kOr_ap, kNot_ap, kMt2_ap, kMt_ap, kPut4_ap, kPut3_ap, kPut2_ap, kPut_ap, kExt2_ap, kExt_ap, kAsg2_ap, kAsg_ap, kFor_ap, kLc_ap, kSl3_ap, kSl2_ap, kSl_ap, kGs_ap, ok_seq, sq_next, sq_ret, sq_brk, sq_cont, ok_nop, ok_brk, ok_cont, ok_drop, ok_ret, ok_retN, ok_set, ok_var0, ok_varS, ok_c, ok_nil, ok_cons, ok_tup, ok_lst, ok_val, ok_new, ok_bin, ok_un, ok_call, ok_callL, ok_test, tst_bl, ok_notT, ok_andT, ok_orT, ok_if, ok_ifS, ok_and, ok_or, ok_not, ok_mt, ok_put, ok_extend, pr2_mk, ok_par2, ok_asg, ok_for, ok_lc, ok_yes, ok_noPart, prt_int, ok_part, ok_sl, ok_gNm, ok_gTp, ok_gsN, ok_gsC, rg1_mk, rg2_mk, ok_rng1, ok_rng2, srcK_tup, srcK_ls, ok_src, finK_next, finK_ret, List.set_cons_zero, List.set_cons_succ, List.map_cons, List.map_nil, List.replicate, List.cons_append, List.nil_append, List.length_cons, List.length_nil, Bool.false_eq_true, eq_self, if_true, if_false, Nat.zero_add, ok_dict, ok_pC, ok_pN, kPc_ap, kPc2_ap, kPc3_ap, e, list_ls]
  refine ⟨_, rfl, rfl, ?_⟩
  exact ⟨⟨ns.take 63, 0, 0, 0⟩, rfl, rfl, ⟨Int.le_refl _, Int.le_refl _, Int.le_refl _⟩, rfl⟩

/-! ### an end of a count -/
def bEnd7a (φt : Phi) : Fn Ct := fSeq (fSet 8 (fBin gAdd (fTup (fCons (fVar 3) (fNil))) (fVar 6)))
  (fDrop (fMt isL gAppend (fVar 2) (fCons (fTup (fCons (fBin gIx (fVar 8) (fCall φt (fCons (fVar 0) (fCons (fCall gLen (fCons (fVar 8) (fNil))) (fNil))))) (fCons (fBin gAdd (fVar 7) (fCall φt (fCons (fVar 0) (fCons (fBin gAdd (fBin gSub (fBin gAdd (fVar 4) (fVar 5)) (fVar 7)) (fC (.int 1))) (fNil))))) (fNil)))) (fNil))))
def bEnd7 (φt : Phi) : Fn Ct :=
  fSeq (fSet 2 (fNew (fLst (fNil))))
  (fSeq (fFor (fSrc (fBin gIx (fVar 1) (fC (.int 1)))) (gTp 4 (gsCons (gNm 3) (gsCons (gNm 4) (gsCons (gNm 5) (gsCons (gNm 6) (gsNil)))))) (fSeq (fSet 7 (fIf (fTest (fBin gGt (fVar 4) (fVar 5))) (fBin gSub (fVar 4) (fVar 5)) (fC (.int 0))))
  (bEnd7a φt)))
  (fRet (fTup (fCons (fCall gTuple (fCons (fVar 2) (fNil))) (fCons (fCall gTuple (fCons (fVal (fLc (fSrc (fBin gIx (fVar 1) (fC (.int 2)))) [9] (gNm 9) (fYes) (fBin gIx (fVar 9) (fCall φt (fCons (fVar 0) (fCons (fCall gLen (fCons (fVar 9) (fNil))) (fNil))))))) (fNil))) (fNil))))))
structure EndOk (c : Cnt) (laid : List (Str × Int)) (ds : List Str) : Prop where
  hlaid : ∀ x ∈ laid, x.1 ∈ c.lots ∧ 0 ≤ x.2 ∧ x.2 ≤ 1010000
  nlaid : laid.length = c.piles.length
  hds : ∀ d ∈ ds, d ∈ c.lots
  nds : ds.length = c.doubts.length
theorem below_encL (n : Nat) (x : Str × Int) : below n (encL x) = true := below_tup (belows_cons rfl (belows_cons rfl rfl))
theorem below_encE (n : Nat) (laid : List (Str × Int)) (ds : List Str) : below n (encE laid ds) = true := below_tup (belows_cons (below_tup (belows_map (below_encL n) _)) (belows_cons (below_encS n _) rfl))
def EndS (φ : Phi) : Prop := ∀ (t : Tap) (r : Sto) (c : Cnt), CntOk c → t.Wf → t.calls + 1000 ≤ 1000000 → Fl r →
  Ok (φ [.loc 0, encC c] (tapOb t :: r)) fun d s' => ∃ (laid : List (Str × Int)) (ds : List Str) (t' : Tap), d = encE laid ds ∧ EndOk c laid ds ∧ s' = tapOb t' :: r ∧ t'.Wf ∧ t.calls ≤ t'.calls ∧ t'.calls ≤ t.calls + 1000
theorem srtS_len (xs : List Str) : (srtS xs).length = xs.length := (srtS_perm xs).length_eq
theorem end7_spec {φt : Phi} (ht : TakeS φt) : EndS (fDef 2 10 (bEnd7 φt)) := by
  intro t r c hc hw hcl hf
  rw [ok_def]
  refine ⟨rfl, ?_⟩
  unfold bEnd7
  simp only [ok_ok, kDrop_ap, kRet_ap, kSet_ap, kCons2_ap, kCons_ap, kTup_ap, kLst_ap, kVal_ap, kNew_ap, kBin2_ap, kBin_ap, kUn_ap, kCall_ap, kCallL_ap, kNotT_ap, kAndT_ap, kOrT_ap, kIf_ap, kIfS_ap, kAnd_ap, kOr_ap, kNot_ap, kMt2_ap, kMt_ap, kPut4_ap, kPut3_ap, kPut2_ap, kPut_ap, kExt2_ap, kExt_ap, kAsg2_ap, kAsg_ap, kFor_ap, kLc_ap, kSl3_ap, kSl2_ap, kSl_ap, kGs_ap, ok_seq, sq_next, sq_ret, sq_brk, sq_cont, ok_nop, ok_brk, ok_cont, ok_drop, ok_ret, ok_retN, ok_set, ok_var0, ok_varS, ok_c, ok_nil, ok_cons, ok_tup, ok_lst, ok_val, ok_new, ok_bin, ok_un, ok_call, ok_callL, ok_test, tst_bl, ok_notT, ok_andT, ok_orT, ok_if, ok_ifS, ok_and, ok_or, ok_not, ok_mt, ok_put, ok_extend, pr2_mk, ok_par2, ok_asg, ok_for, ok_lc, ok_yes, ok_noPart, prt_int, ok_part, ok_sl, ok_gNm, ok_gTp, ok_gsN, ok_gsC, rg1_mk, rg2_mk, ok_rng1, ok_rng2, srcK_tup, srcK_ls, ok_src, finK_next, finK_ret, List.set_cons_zero, List.set_cons_succ, List.map_cons, List.map_nil, List.replicate, List.cons_append, List.nil_append, List.length_cons, List.length_nil, Bool.false_eq_true, eq_self, if_true, if_false, Nat.zero_add, encC, ix_second]
  refine ⟨rfl, ?_⟩
  have hfr : ∀ ls : List (Str × Int), Fl (r ++ [Ob.lst (ls.map encL)]) := fun ls => hf.app (.one (belows_map (below_encL 0) ls))
  have hnp := hc.npiles
  have hnd := hc.ndoubts
  refine ok_loop (fun i env s => ∃ (t' : Tap) (ls : List (Str × Int)) (v3 v4 v5 v6 v7 v8 : Option Dv), env = [some (.loc 0), some (encC c), some (.loc (r.length + 1)), v3, v4, v5, v6, v7, v8, none] ∧ s = tapOb t' :: (r ++ [.lst (ls.map encL)]) ∧
      ls.length = i ∧ (∀ x ∈ ls, x.1 ∈ c.lots ∧ 0 ≤ x.2 ∧ x.2 ≤ 1010000) ∧ t'.Wf ∧ t.calls ≤ t'.calls ∧ t'.calls ≤ t.calls + 2 * i)
    (fun _ _ _ _ => rfl) (fun i d env s hd h => ?_) (fun env s h => ?_) ⟨t, [], _, _, _, _, _, _, rfl, rfl, rfl, fun p hp => absurd hp List.not_mem_nil, hw, by omega, by omega⟩
  · obtain ⟨t6, ls, v3, v4, v5, v6, v7, v8, rfl, rfl, rfl, hls, hw6, hge6, hle6⟩ := h
    have hi : ls.length < c.piles.length := by have := (List.getElem?_eq_some_iff.mp hd).1; rwa [List.length_map] at this
    rw [List.getElem?_map, List.getElem?_eq_getElem hi] at hd
    cases hd
    have hp := hc.piles _ (List.getElem_mem hi)
    generalize c.piles[ls.length] = p at hp
    obtain ⟨p1, p2, p3, p4, p5, p6⟩ := hp
    have hol : p.others.length ≤ 2 ∧ ∀ x ∈ p.others, x ∈ c.lots := by
      rcases p6 with e | ⟨ws, e, h1, h2, h3⟩
      · rw [e]; exact ⟨by decide, fun x hx => by cases hx⟩
      · rw [e, srtS_len]; exact ⟨h3, fun x hx => h1.subset ((srtS_perm ws).mem_iff.mp hx)⟩
    have tail : ∀ (least : Int) (R : Ct → Sto → Prop), 0 ≤ least → least ≤ p.many + p.slip → least ≤ 1000000 → (∀ (e : En) (s2 : Sto), (∃ (t' : Tap) (ls' : List (Str × Int)) (v3 v4 v5 v6 v7 v8 : Option Dv), e = [some (.loc 0), some (encC c), some (.loc (r.length + 1)), v3, v4, v5, v6, v7, v8, none] ∧ s2 = tapOb t' :: (r ++ [.lst (ls'.map encL)]) ∧
              ls'.length = ls.length + 1 ∧ (∀ x ∈ ls', x.1 ∈ c.lots ∧ 0 ≤ x.2 ∧ x.2 ≤ 1010000) ∧ t'.Wf ∧ t.calls ≤ t'.calls ∧ t'.calls ≤ t.calls + 2 * ((ls.length + 1 : Nat) : Int)) → R (.next e) s2) →
        Ok (bEnd7a φt [some (.loc 0), some (encC c), some (.loc (r.length + 1)), some (.str p.name), some (.int p.many), some (.int p.slip), some (encS p.others), some (.int least), v8, none] (tapOb t6 :: (r ++ [.lst (ls.map encL)]))) R := by
      intro least R l0 l1 l2 hR
      unfold bEnd7a
      have ea : ∀ s : Sto, gAdd (.tup [.str p.name]) (encS p.others) s = .ok (.tup ((p.name :: p.others).map .str)) s := fun s => by
        show Rs.iff (decide ([Dv.str p.name].length + (p.others.map Dv.str).length ≤ 16777216)) _ = _
        rw [decide_eq_true (by rw [List.length_map]; simp; omega)]; rfl
      simp only [ok_ok, kDrop_ap, kRet_ap, kSet_ap, kCons2_ap, kCons_ap, kTup_ap, kLst_ap, kVal_ap, kNew_ap, kBin2_ap, kBin_ap, kUn_ap, kCall_ap, kCallL_ap, kNotT_ap, kAndT_ap, kOrT_ap, kIf_ap, kIfS_ap, kAnd_ap, kOr_ap, kNot_ap, kMt2_ap, kMt_ap, kPut4_ap, kPut3_ap, kPut2_ap, kPut_ap, kExt2_ap, kExt_ap, kAsg2_ap, kAsg_ap, kFor_ap, kLc_ap, kSl3_ap, kSl2_ap, kSl_ap, kGs_ap, ok_seq, sq_next, sq_ret, sq_brk, sq_cont, ok_nop, ok_brk, ok_cont, ok_drop, ok_ret, ok_retN, ok_set, ok_var0, ok_varS, ok_c, ok_nil, ok_cons, ok_tup, ok_lst, ok_val, ok_new, ok_bin, ok_un, ok_call, ok_callL, ok_test, tst_bl, ok_notT, ok_andT, ok_orT, ok_if, ok_ifS, ok_and, ok_or, ok_not, ok_mt, ok_put, ok_extend, pr2_mk, ok_par2, ok_asg, ok_for, ok_lc, ok_yes, ok_noPart, prt_int, ok_part, ok_sl, ok_gNm, ok_gTp, ok_gsN, ok_gsC, rg1_mk, rg2_mk, ok_rng1, ok_rng2, srcK_tup, srcK_ls, ok_src, finK_next, finK_ret, List.set_cons_zero, List.set_cons_succ, List.map_cons, List.map_nil, List.replicate, List.cons_append, List.nil_append, List.length_cons, List.length_nil, Bool.false_eq_true, eq_self, if_true, if_false, Nat.zero_add]
      refine ⟨rfl, ?_⟩
      rw [ea, ok_ok]
      simp only [ok_ok, kDrop_ap, kRet_ap, kSet_ap, kCons2_ap, kCons_ap, kTup_ap, kLst_ap, kVal_ap, kNew_ap, kBin2_ap, kBin_ap, kUn_ap, kCall_ap, kCallL_ap, kNotT_ap, kAndT_ap, kOrT_ap, kIf_ap, kIfS_ap, kAnd_ap, kOr_ap, kNot_ap, kMt2_ap, kMt_ap, kPut4_ap, kPut3_ap, kPut2_ap, kPut_ap, kExt2_ap, kExt_ap, kAsg2_ap, kAsg_ap, kFor_ap, kLc_ap, kSl3_ap, kSl2_ap, kSl_ap, kGs_ap, ok_seq, sq_next, sq_ret, sq_brk, sq_cont, ok_nop, ok_brk, ok_cont, ok_drop, ok_ret, ok_retN, ok_set, ok_var0, ok_varS, ok_c, ok_nil, ok_cons, ok_tup, ok_lst, ok_val, ok_new, ok_bin, ok_un, ok_call, ok_callL, ok_test, tst_bl, ok_notT, ok_andT, ok_orT, ok_if, ok_ifS, ok_and, ok_or, ok_not, ok_mt, ok_put, ok_extend, pr2_mk, ok_par2, ok_asg, ok_for, ok_lc, ok_yes, ok_noPart, prt_int, ok_part, ok_sl, ok_gNm, ok_gTp, ok_gsN, ok_gsC, rg1_mk, rg2_mk, ok_rng1, ok_rng2, srcK_tup, srcK_ls, ok_src, finK_next, finK_ret, List.set_cons_zero, List.set_cons_succ, List.map_cons, List.map_nil, List.replicate, List.cons_append, List.nil_append, List.length_cons, List.length_nil, Bool.false_eq_true, eq_self, if_true, if_false, Nat.zero_add]
      refine ⟨isL_loc st_get1, ?_⟩
      simp only [ok_ok, kDrop_ap, kRet_ap, kSet_ap, kCons2_ap, kCons_ap, kTup_ap, kLst_ap, kVal_ap, kNew_ap, kBin2_ap, kBin_ap, kUn_ap, kCall_ap, kCallL_ap, kNotT_ap, kAndT_ap, kOrT_ap, kIf_ap, kIfS_ap, kAnd_ap, kOr_ap, kNot_ap, kMt2_ap, kMt_ap, kPut4_ap, kPut3_ap, kPut2_ap, kPut_ap, kExt2_ap, kExt_ap, kAsg2_ap, kAsg_ap, kFor_ap, kLc_ap, kSl3_ap, kSl2_ap, kSl_ap, kGs_ap, ok_seq, sq_next, sq_ret, sq_brk, sq_cont, ok_nop, ok_brk, ok_cont, ok_drop, ok_ret, ok_retN, ok_set, ok_var0, ok_varS, ok_c, ok_nil, ok_cons, ok_tup, ok_lst, ok_val, ok_new, ok_bin, ok_un, ok_call, ok_callL, ok_test, tst_bl, ok_notT, ok_andT, ok_orT, ok_if, ok_ifS, ok_and, ok_or, ok_not, ok_mt, ok_put, ok_extend, pr2_mk, ok_par2, ok_asg, ok_for, ok_lc, ok_yes, ok_noPart, prt_int, ok_part, ok_sl, ok_gNm, ok_gTp, ok_gsN, ok_gsC, rg1_mk, rg2_mk, ok_rng1, ok_rng2, srcK_tup, srcK_ls, ok_src, finK_next, finK_ret, List.set_cons_zero, List.set_cons_succ, List.map_cons, List.map_nil, List.replicate, List.cons_append, List.nil_append, List.length_cons, List.length_nil, Bool.false_eq_true, eq_self, if_true, if_false, Nat.zero_add, len_tup]
      refine (ht t6 _ (((p.name :: p.others).map Dv.str).length : Int) hw6 (by omega) (by rw [List.length_map, List.length_cons]; push_cast; omega) (by rw [List.length_map, List.length_cons]; push_cast; omega) (hfr ls)).mono ?_
      rintro d s ⟨x, t7, rfl, hx0, hx1, rfl, hw7, hc7⟩
      rw [List.length_map] at hx1
      have hxn : x.toNat < (p.name :: p.others).length := by omega
      have hmem : (p.name :: p.others)[x.toNat] ∈ c.lots := by
        rcases List.mem_cons.mp (List.getElem_mem hxn) with z | z
        · rw [z]; exact p1
        · exact hol.2 _ z
      have ei : ∀ s : Sto, gIx (.tup (Dv.str p.name :: p.others.map Dv.str)) (.int x) s = .ok (.str (p.name :: p.others)[x.toNat]) s := fun s => ix_tup (ds := (p.name :: p.others).map Dv.str) hx0 (str_get hxn)
      simp only [ok_ok, kDrop_ap, kRet_ap, kSet_ap, kCons2_ap, kCons_ap, kTup_ap, kLst_ap, kVal_ap, kNew_ap, kBin2_ap, kBin_ap, kUn_ap, kCall_ap, kCallL_ap, kNotT_ap, kAndT_ap, kOrT_ap, kIf_ap, kIfS_ap, kAnd_ap, kOr_ap, kNot_ap, kMt2_ap, kMt_ap, kPut4_ap, kPut3_ap, kPut2_ap, kPut_ap, kExt2_ap, kExt_ap, kAsg2_ap, kAsg_ap, kFor_ap, kLc_ap, kSl3_ap, kSl2_ap, kSl_ap, kGs_ap, ok_seq, sq_next, sq_ret, sq_brk, sq_cont, ok_nop, ok_brk, ok_cont, ok_drop, ok_ret, ok_retN, ok_set, ok_var0, ok_varS, ok_c, ok_nil, ok_cons, ok_tup, ok_lst, ok_val, ok_new, ok_bin, ok_un, ok_call, ok_callL, ok_test, tst_bl, ok_notT, ok_andT, ok_orT, ok_if, ok_ifS, ok_and, ok_or, ok_not, ok_mt, ok_put, ok_extend, pr2_mk, ok_par2, ok_asg, ok_for, ok_lc, ok_yes, ok_noPart, prt_int, ok_part, ok_sl, ok_gNm, ok_gTp, ok_gsN, ok_gsC, rg1_mk, rg2_mk, ok_rng1, ok_rng2, srcK_tup, srcK_ls, ok_src, finK_next, finK_ret, List.set_cons_zero, List.set_cons_succ, List.map_cons, List.map_nil, List.replicate, List.cons_append, List.nil_append, List.length_cons, List.length_nil, Bool.false_eq_true, eq_self, if_true, if_false, Nat.zero_add, ei, add_int, sub_int]
      refine (ht t7 _ (p.many + p.slip - least + 1) hw7 (by omega) (by omega) (by omega) (hfr ls)).mono ?_
      rintro d s ⟨y, t8, rfl, hy0, hy1, rfl, hw8, hc8⟩
      simp only [ok_ok, kDrop_ap, kRet_ap, kSet_ap, kCons2_ap, kCons_ap, kTup_ap, kLst_ap, kVal_ap, kNew_ap, kBin2_ap, kBin_ap, kUn_ap, kCall_ap, kCallL_ap, kNotT_ap, kAndT_ap, kOrT_ap, kIf_ap, kIfS_ap, kAnd_ap, kOr_ap, kNot_ap, kMt2_ap, kMt_ap, kPut4_ap, kPut3_ap, kPut2_ap, kPut_ap, kExt2_ap, kExt_ap, kAsg2_ap, kAsg_ap, kFor_ap, kLc_ap, kSl3_ap, kSl2_ap, kSl_ap, kGs_ap, ok_seq, sq_next, sq_ret, sq_brk, sq_cont, ok_nop, ok_brk, ok_cont, ok_drop, ok_ret, ok_retN, ok_set, ok_var0, ok_varS, ok_c, ok_nil, ok_cons, ok_tup, ok_lst, ok_val, ok_new, ok_bin, ok_un, ok_call, ok_callL, ok_test, tst_bl, ok_notT, ok_andT, ok_orT, ok_if, ok_ifS, ok_and, ok_or, ok_not, ok_mt, ok_put, ok_extend, pr2_mk, ok_par2, ok_asg, ok_for, ok_lc, ok_yes, ok_noPart, prt_int, ok_part, ok_sl, ok_gNm, ok_gTp, ok_gsN, ok_gsC, rg1_mk, rg2_mk, ok_rng1, ok_rng2, srcK_tup, srcK_ls, ok_src, finK_next, finK_ret, List.set_cons_zero, List.set_cons_succ, List.map_cons, List.map_nil, List.replicate, List.cons_append, List.nil_append, List.length_cons, List.length_nil, Bool.false_eq_true, eq_self, if_true, if_false, Nat.zero_add, add_int]
      refine ⟨rfl, ?_⟩
      rw [append_loc st_get1 (by rw [List.length_map]; omega), st_set1, ok_ok]
      refine hR _ _ ⟨t8, ls ++ [((p.name :: p.others)[x.toNat], least + y)], _, _, _, _, _, _, rfl, by simp [encL], by simp, fun q hq => ?_, hw8, by omega, by push_cast; omega⟩
      rcases List.mem_append.mp hq with z | z
      · exact hls q z
      · rw [List.mem_singleton.mp z]
        exact ⟨hmem, by show 0 ≤ least + y; omega, by show least + y ≤ 1010000; omega⟩
    simp only [ok_ok, kDrop_ap, kRet_ap, kSet_ap, kCons2_ap, kCons_ap, kTup_ap, kLst_ap, kVal_ap, kNew_ap, kBin2_ap, kBin_ap, kUn_ap, kCall_ap, kCallL_ap, kNotT_ap, kAndT_ap, kOrT_ap, kIf_ap, kIfS_ap, kAnd_ap, kOr_ap, kNot_ap, kMt2_ap, kMt_ap, kPut4_ap, kPut3_ap, kPut2_ap, kPut_ap, kExt2_ap, kExt_ap, kAsg2_ap, kAsg_ap, kFor_ap, kLc_ap, kSl3_ap, kSl2_ap, kSl_ap, kGs_ap, ok_seq, sq_next, sq_ret, sq_brk, sq_cont, ok_nop, ok_brk, ok_cont, ok_drop, ok_ret, ok_retN, ok_set, ok_var0, ok_varS, ok_c, ok_nil, ok_cons, ok_tup, ok_lst, ok_val, ok_new, ok_bin, ok_un, ok_call, ok_callL, ok_test, tst_bl, ok_notT, ok_andT, ok_orT, ok_if, ok_ifS, ok_and, ok_or, ok_not, ok_mt, ok_put, ok_extend, pr2_mk, ok_par2, ok_asg, ok_for, ok_lc, ok_yes, ok_noPart, prt_int, ok_part, ok_sl, ok_gNm, ok_gTp, ok_gsN, ok_gsC, rg1_mk, rg2_mk, ok_rng1, ok_rng2, srcK_tup, srcK_ls, ok_src, finK_next, finK_ret, List.set_cons_zero, List.set_cons_succ, List.map_cons, List.map_nil, List.replicate, List.cons_append, List.nil_append, List.length_cons, List.length_nil, Bool.false_eq_true, eq_self, if_true, if_false, Nat.zero_add, encP]
    refine ⟨rfl, ?_⟩
    simp only [ok_ok, kDrop_ap, kRet_ap, kSet_ap, kCons2_ap, kCons_ap, kTup_ap, kLst_ap, kVal_ap, kNew_ap, kBin2_ap, kBin_ap, kUn_ap, kCall_ap, kCallL_ap, kNotT_ap, kAndT_ap, kOrT_ap, kIf_ap, kIfS_ap, kAnd_ap, kOr_ap, kNot_ap, kMt2_ap, kMt_ap, kPut4_ap, kPut3_ap, kPut2_ap, kPut_ap, kExt2_ap, kExt_ap, kAsg2_ap, kAsg_ap, kFor_ap, kLc_ap, kSl3_ap, kSl2_ap, kSl_ap, kGs_ap, ok_seq, sq_next, sq_ret, sq_brk, sq_cont, ok_nop, ok_brk, ok_cont, ok_drop, ok_ret, ok_retN, ok_set, ok_var0, ok_varS, ok_c, ok_nil, ok_cons, ok_tup, ok_lst, ok_val, ok_new, ok_bin, ok_un, ok_call, ok_callL, ok_test, tst_bl, ok_notT, ok_andT, ok_orT, ok_if, ok_ifS, ok_and, ok_or, ok_not, ok_mt, ok_put, ok_extend, pr2_mk, ok_par2, ok_asg, ok_for, ok_lc, ok_yes, ok_noPart, prt_int, ok_part, ok_sl, ok_gNm, ok_gTp, ok_gsN, ok_gsC, rg1_mk, rg2_mk, ok_rng1, ok_rng2, srcK_tup, srcK_ls, ok_src, finK_next, finK_ret, List.set_cons_zero, List.set_cons_succ, List.map_cons, List.map_nil, List.replicate, List.cons_append, List.nil_append, List.length_cons, List.length_nil, Bool.false_eq_true, eq_self, if_true, if_false, Nat.zero_add, gt_int, decide_eq_true_eq]
    split
    · rename_i h1
      simp only [ok_ok, kDrop_ap, kRet_ap, kSet_ap, kCons2_ap, kCons_ap, kTup_ap, kLst_ap, kVal_ap, kNew_ap, kBin2_ap, kBin_ap, kUn_ap, kCall_ap, kCallL_ap, kNotT_ap, kAndT_ap, kOrT_ap, kIf_ap, kIfS_ap, kAnd_ap, kOr_ap, kNot_ap, kMt2_ap, kMt_ap, kPut4_ap, kPut3_ap, kPut2_ap, kPut_ap, kExt2_ap, kExt_ap, kAsg2_ap, kAsg_ap, kFor_ap, kLc_ap, kSl3_ap, kSl2_ap, kSl_ap, kGs_ap, ok_seq, sq_next, sq_ret, sq_brk, sq_cont, ok_nop, ok_brk, ok_cont, ok_drop, ok_ret, ok_retN, ok_set, ok_var0, ok_varS, ok_c, ok_nil, ok_cons, ok_tup, ok_lst, ok_val, ok_new, ok_bin, ok_un, ok_call, ok_callL, ok_test, tst_bl, ok_notT, ok_andT, ok_orT, ok_if, ok_ifS, ok_and, ok_or, ok_not, ok_mt, ok_put, ok_extend, pr2_mk, ok_par2, ok_asg, ok_for, ok_lc, ok_yes, ok_noPart, prt_int, ok_part, ok_sl, ok_gNm, ok_gTp, ok_gsN, ok_gsC, rg1_mk, rg2_mk, ok_rng1, ok_rng2, srcK_tup, srcK_ls, ok_src, finK_next, finK_ret, List.set_cons_zero, List.set_cons_succ, List.map_cons, List.map_nil, List.replicate, List.cons_append, List.nil_append, List.length_cons, List.length_nil, Bool.false_eq_true, eq_self, if_true, if_false, Nat.zero_add, sub_int]
      exact tail (p.many - p.slip) _ (by omega) (by omega) (by omega) fun e s2 h => h
    · exact tail 0 _ (by omega) (by omega) (by omega) fun e s2 h => h
  · obtain ⟨t6, ls, v3, v4, v5, v6, v7, v8, rfl, rfl, hln, hls, hw6, hge6, hle6⟩ := h
    rw [List.length_map] at hln hle6
    simp only [ok_ok, kDrop_ap, kRet_ap, kSet_ap, kCons2_ap, kCons_ap, kTup_ap, kLst_ap, kVal_ap, kNew_ap, kBin2_ap, kBin_ap, kUn_ap, kCall_ap, kCallL_ap, kNotT_ap, kAndT_ap, kOrT_ap, kIf_ap, kIfS_ap, kAnd_ap, kOr_ap, kNot_ap, kMt2_ap, kMt_ap, kPut4_ap, kPut3_ap, kPut2_ap, kPut_ap, kExt2_ap, kExt_ap, kAsg2_ap, kAsg_ap, kFor_ap, kLc_ap, kSl3_ap, kSl2_ap, kSl_ap, kGs_ap, ok_seq, sq_next, sq_ret, sq_brk, sq_cont, ok_nop, ok_brk, ok_cont, ok_drop, ok_ret, ok_retN, ok_set, ok_var0, ok_varS, ok_c, ok_nil, ok_cons, ok_tup, ok_lst, ok_val, ok_new, ok_bin, ok_un, ok_call, ok_callL, ok_test, tst_bl, ok_notT, ok_andT, ok_orT, ok_if, ok_ifS, ok_and, ok_or, ok_not, ok_mt, ok_put, ok_extend, pr2_mk, ok_par2, ok_asg, ok_for, ok_lc, ok_yes, ok_noPart, prt_int, ok_part, ok_sl, ok_gNm, ok_gTp, ok_gsN, ok_gsC, rg1_mk, rg2_mk, ok_rng1, ok_rng2, srcK_tup, srcK_ls, ok_src, finK_next, finK_ret, List.set_cons_zero, List.set_cons_succ, List.map_cons, List.map_nil, List.replicate, List.cons_append, List.nil_append, List.length_cons, List.length_nil, Bool.false_eq_true, eq_self, if_true, if_false, Nat.zero_add, tuple_loc st_get1, encC, ix_third]
    refine ⟨decide_eq_true (by rw [List.length_map]; omega), ?_⟩
    refine ok_lcI (fun i acc s => ∃ (t' : Tap) (ds : List Str), acc = ds.map .str ∧ s = tapOb t' :: (r ++ [.lst (ls.map encL)]) ∧ ds.length = i ∧ (∀ d ∈ ds, d ∈ c.lots) ∧ t'.Wf ∧ t.calls ≤ t'.calls ∧ t'.calls ≤ t.calls + 30 + i)
      (fun _ _ _ _ => rfl) (fun i d acc s hd h => ?_) (fun acc s h => ?_) ⟨t6, [], rfl, rfl, rfl, fun p hp => absurd hp List.not_mem_nil, hw6, by omega, by omega⟩
    · obtain ⟨t8, ds, rfl, rfl, rfl, hds, hw8, hge8, hle8⟩ := h
      have hi : ds.length < c.doubts.length := by have := (List.getElem?_eq_some_iff.mp hd).1; rwa [List.length_map] at this
      rw [List.getElem?_map, List.getElem?_eq_getElem hi] at hd
      cases hd
      obtain ⟨ws, e, q1, q2⟩ := hc.doubts _ (List.getElem_mem hi)
      have h6 := hc.len6
      have hwl : 1 ≤ (c.doubts[ds.length]).length ∧ (c.doubts[ds.length]).length ≤ 6 ∧ ∀ x ∈ c.doubts[ds.length], x ∈ c.lots := by
        rw [e, srtS_len]
        exact ⟨List.length_pos_iff.mpr q2, Nat.le_trans q1.length_le h6, fun x hx => q1.subset ((srtS_perm ws).mem_iff.mp hx)⟩
      generalize c.doubts[ds.length] = q at hwl
      simp only [ok_ok, kDrop_ap, kRet_ap, kSet_ap, kCons2_ap, kCons_ap, kTup_ap, kLst_ap, kVal_ap, kNew_ap, kBin2_ap, kBin_ap, kUn_ap, kCall_ap, kCallL_ap, kNotT_ap, kAndT_ap, kOrT_ap, kIf_ap, kIfS_ap, kAnd_ap, kOr_ap, kNot_ap, kMt2_ap, kMt_ap, kPut4_ap, kPut3_ap, kPut2_ap, kPut_ap, kExt2_ap, kExt_ap, kAsg2_ap, kAsg_ap, kFor_ap, kLc_ap, kSl3_ap, kSl2_ap, kSl_ap, kGs_ap, ok_seq, sq_next, sq_ret, sq_brk, sq_cont, ok_nop, ok_brk, ok_cont, ok_drop, ok_ret, ok_retN, ok_set, ok_var0, ok_varS, ok_c, ok_nil, ok_cons, ok_tup, ok_lst, ok_val, ok_new, ok_bin, ok_un, ok_call, ok_callL, ok_test, tst_bl, ok_notT, ok_andT, ok_orT, ok_if, ok_ifS, ok_and, ok_or, ok_not, ok_mt, ok_put, ok_extend, pr2_mk, ok_par2, ok_asg, ok_for, ok_lc, ok_yes, ok_noPart, prt_int, ok_part, ok_sl, ok_gNm, ok_gTp, ok_gsN, ok_gsC, rg1_mk, rg2_mk, ok_rng1, ok_rng2, srcK_tup, srcK_ls, ok_src, finK_next, finK_ret, List.set_cons_zero, List.set_cons_succ, List.map_cons, List.map_nil, List.replicate, List.cons_append, List.nil_append, List.length_cons, List.length_nil, Bool.false_eq_true, eq_self, if_true, if_false, Nat.zero_add, wipeZ, encS, len_tup]
      refine (ht t8 _ ((q.map Dv.str).length : Int) hw8 (by omega) (by rw [List.length_map]; omega) (by rw [List.length_map]; omega) (hfr ls)).mono ?_
      rintro d s ⟨x, t7, rfl, hx0, hx1, rfl, hw7, hc7⟩
      rw [List.length_map] at hx1
      have hxn : x.toNat < q.length := by omega
      simp only [ok_ok, kDrop_ap, kRet_ap, kSet_ap, kCons2_ap, kCons_ap, kTup_ap, kLst_ap, kVal_ap, kNew_ap, kBin2_ap, kBin_ap, kUn_ap, kCall_ap, kCallL_ap, kNotT_ap, kAndT_ap, kOrT_ap, kIf_ap, kIfS_ap, kAnd_ap, kOr_ap, kNot_ap, kMt2_ap, kMt_ap, kPut4_ap, kPut3_ap, kPut2_ap, kPut_ap, kExt2_ap, kExt_ap, kAsg2_ap, kAsg_ap, kFor_ap, kLc_ap, kSl3_ap, kSl2_ap, kSl_ap, kGs_ap, ok_seq, sq_next, sq_ret, sq_brk, sq_cont, ok_nop, ok_brk, ok_cont, ok_drop, ok_ret, ok_retN, ok_set, ok_var0, ok_varS, ok_c, ok_nil, ok_cons, ok_tup, ok_lst, ok_val, ok_new, ok_bin, ok_un, ok_call, ok_callL, ok_test, tst_bl, ok_notT, ok_andT, ok_orT, ok_if, ok_ifS, ok_and, ok_or, ok_not, ok_mt, ok_put, ok_extend, pr2_mk, ok_par2, ok_asg, ok_for, ok_lc, ok_yes, ok_noPart, prt_int, ok_part, ok_sl, ok_gNm, ok_gTp, ok_gsN, ok_gsC, rg1_mk, rg2_mk, ok_rng1, ok_rng2, srcK_tup, srcK_ls, ok_src, finK_next, finK_ret, List.set_cons_zero, List.set_cons_succ, List.map_cons, List.map_nil, List.replicate, List.cons_append, List.nil_append, List.length_cons, List.length_nil, Bool.false_eq_true, eq_self, if_true, if_false, Nat.zero_add, ix_tup hx0 (str_get hxn)]
      refine ⟨t7, ds ++ [q[x.toNat]], by simp, rfl, by simp, fun p hp => ?_, hw7, by omega, by push_cast; omega⟩
      rcases List.mem_append.mp hp with z | z
      · exact hds p z
      · rw [List.mem_singleton.mp z]; exact hwl.2.2 _ (List.getElem_mem _)
    · obtain ⟨t8, ds, rfl, rfl, hdl, hds, hw8, hge8, hle8⟩ := h
      rw [List.length_map] at hdl hle8
      simp only [ok_ok, kDrop_ap, kRet_ap, kSet_ap, kCons2_ap, kCons_ap, kTup_ap, kLst_ap, kVal_ap, kNew_ap, kBin2_ap, kBin_ap, kUn_ap, kCall_ap, kCallL_ap, kNotT_ap, kAndT_ap, kOrT_ap, kIf_ap, kIfS_ap, kAnd_ap, kOr_ap, kNot_ap, kMt2_ap, kMt_ap, kPut4_ap, kPut3_ap, kPut2_ap, kPut_ap, kExt2_ap, kExt_ap, kAsg2_ap, kAsg_ap, kFor_ap, kLc_ap, kSl3_ap, kSl2_ap, kSl_ap, kGs_ap, ok_seq, sq_next, sq_ret, sq_brk, sq_cont, ok_nop, ok_brk, ok_cont, ok_drop, ok_ret, ok_retN, ok_set, ok_var0, ok_varS, ok_c, ok_nil, ok_cons, ok_tup, ok_lst, ok_val, ok_new, ok_bin, ok_un, ok_call, ok_callL, ok_test, tst_bl, ok_notT, ok_andT, ok_orT, ok_if, ok_ifS, ok_and, ok_or, ok_not, ok_mt, ok_put, ok_extend, pr2_mk, ok_par2, ok_asg, ok_for, ok_lc, ok_yes, ok_noPart, prt_int, ok_part, ok_sl, ok_gNm, ok_gTp, ok_gsN, ok_gsC, rg1_mk, rg2_mk, ok_rng1, ok_rng2, srcK_tup, srcK_ls, ok_src, finK_next, finK_ret, List.set_cons_zero, List.set_cons_succ, List.map_cons, List.map_nil, List.replicate, List.cons_append, List.nil_append, List.length_cons, List.length_nil, Bool.false_eq_true, eq_self, if_true, if_false, Nat.zero_add, tuple_ls]
      refine ⟨rfl, ?_⟩
      refine fin_tap hf (below_encE 0 ls ds) ⟨ls, ds, t8, rfl, ⟨hls, by omega, hds, by omega⟩, rfl, hw8, hge8, by omega⟩

/-! ### the sums by name -/
def bSums7 : Fn Ct :=
  fSeq (fSet 2 (fNew (fLst (fNil))))
  (fSeq (fFor (fSrc (fBin gIx (fVar 0) (fC (.int 0)))) (gNm 3) (fSeq (fSet 4 (fVal (fCatL (fVal (fLc (fSrc (fBin gIx (fVar 1) (fC (.int 0)))) [5, 6] (gTp 2 (gsCons (gNm 5) (gsCons (gNm 6) (gsNil)))) (fTest (fBin gEq (fVar 5) (fVar 3))) (fVar 6))) (fVal (fLc (fSrc (fBin gIx (fVar 1) (fC (.int 1)))) [5] (gNm 5) (fTest (fBin gEq (fVar 5) (fVar 3))) (fC (.int 1)))))))
  (fDrop (fMt isL gAppend (fVar 2) (fCons (fCall gSumL (fCons (fVar 4) (fNil))) (fNil))))))
  (fRet (fCall gTuple (fCons (fVar 2) (fNil)))))
theorem sum_filter1 (n : Str) : ∀ l : List (Str × Int), ((l.filter fun x => x.1 == n).map (·.2)).sum = sumOf l n
  | [] => rfl
  | x :: l => by
    have ih := sum_filter1 n l
    unfold sumOf at ih ⊢
    rw [List.filter_cons]
    by_cases h : x.1 = n
    · simp [h, ih]
    · simp [h, ih]
theorem sum_filter2 (n : Str) : ∀ l : List Str, ((l.filter fun x => x == n).map fun _ => (1 : Int)).sum = cntOf l n
  | [] => rfl
  | x :: l => by
    have ih := sum_filter2 n l
    unfold cntOf at ih ⊢
    rw [List.filter_cons]
    by_cases h : x = n
    · simp [h, ih]
    · simp [h, ih]
theorem sums7_spec {s : Sto} {lots : List Str} {more : List Dv} {laid : List (Str × Int)} {ds : List Str} (hl : lots.length ≤ 1000) (hl2 : laid.length ≤ 1000) (hl3 : ds.length ≤ 1000) (hf : Fl s) :
    Ok (fDef 2 7 bSums7 [.tup (encS lots :: more), encE laid ds] s) fun d s' => d = .tup ((tally lots laid ds).map .int) ∧ s' = s := by
  rw [ok_def]
  refine ⟨rfl, ?_⟩
  unfold bSums7
  simp only [ok_ok, kDrop_ap, kRet_ap, kSet_ap, kCons2_ap, kCons_ap, kTup_ap, kLst_ap, kVal_ap, kNew_ap, kBin2_ap, kBin_ap, kUn_ap, kCall_ap, kCallL_ap, kNotT_ap, kAndT_ap, kOrT_ap, kIf_ap, kIfS_ap, kAnd_ap, kOr_ap, kNot_ap, kMt2_ap, kMt_ap, kPut4_ap, kPut3_ap, kPut2_ap, kPut_ap, kExt2_ap, kExt_ap, kAsg2_ap, kAsg_ap, kFor_ap, kLc_ap, kSl3_ap, kSl2_ap, kSl_ap, kGs_ap, ok_seq, sq_next, sq_ret, sq_brk, sq_cont, ok_nop, ok_brk, ok_cont, ok_drop, ok_ret, ok_retN, ok_set, ok_var0, ok_varS, ok_c, ok_nil, ok_cons, ok_tup, ok_lst, ok_val, ok_new, ok_bin, ok_un, ok_call, ok_callL, ok_test, tst_bl, ok_notT, ok_andT, ok_orT, ok_if, ok_ifS, ok_and, ok_or, ok_not, ok_mt, ok_put, ok_extend, pr2_mk, ok_par2, ok_asg, ok_for, ok_lc, ok_yes, ok_noPart, prt_int, ok_part, ok_sl, ok_gNm, ok_gTp, ok_gsN, ok_gsC, rg1_mk, rg2_mk, ok_rng1, ok_rng2, srcK_tup, srcK_ls, ok_src, finK_next, finK_ret, List.set_cons_zero, List.set_cons_succ, List.map_cons, List.map_nil, List.replicate, List.cons_append, List.nil_append, List.length_cons, List.length_nil, Bool.false_eq_true, eq_self, if_true, if_false, Nat.zero_add, ix_first, encS]
  refine ⟨rfl, ?_⟩
  refine ok_loop (fun i env s' => ∃ (v3 v4 v5 v6 : Option Dv), env = [some (.tup (.tup (lots.map .str) :: more)), some (encE laid ds), some (.loc s.length), v3, v4, v5, v6] ∧ s' = s ++ [.lst ((tally (lots.take i) laid ds).map .int)])
    (fun _ _ _ _ => rfl) (fun i d env s' hd h => ?_) (fun env s' h => ?_) ⟨_, _, _, _, rfl, rfl⟩
  · obtain ⟨v3, v4, v5, v6, rfl, rfl⟩ := h
    have hi : i < lots.length := by have := (List.getElem?_eq_some_iff.mp hd).1; rwa [List.length_map] at this
    rw [List.getElem?_map, List.getElem?_eq_getElem hi] at hd
    cases hd
    generalize hz : lots[i] = z
    simp only [ok_ok, kDrop_ap, kRet_ap, kSet_ap, kCons2_ap, kCons_ap, kTup_ap, kLst_ap, kVal_ap, kNew_ap, kBin2_ap, kBin_ap, kUn_ap, kCall_ap, kCallL_ap, kNotT_ap, kAndT_ap, kOrT_ap, kIf_ap, kIfS_ap, kAnd_ap, kOr_ap, kNot_ap, kMt2_ap, kMt_ap, kPut4_ap, kPut3_ap, kPut2_ap, kPut_ap, kExt2_ap, kExt_ap, kAsg2_ap, kAsg_ap, kFor_ap, kLc_ap, kSl3_ap, kSl2_ap, kSl_ap, kGs_ap, ok_seq, sq_next, sq_ret, sq_brk, sq_cont, ok_nop, ok_brk, ok_cont, ok_drop, ok_ret, ok_retN, ok_set, ok_var0, ok_varS, ok_c, ok_nil, ok_cons, ok_tup, ok_lst, ok_val, ok_new, ok_bin, ok_un, ok_call, ok_callL, ok_test, tst_bl, ok_notT, ok_andT, ok_orT, ok_if, ok_ifS, ok_and, ok_or, ok_not, ok_mt, ok_put, ok_extend, pr2_mk, ok_par2, ok_asg, ok_for, ok_lc, ok_yes, ok_noPart, prt_int, ok_part, ok_sl, ok_gNm, ok_gTp, ok_gsN, ok_gsC, rg1_mk, rg2_mk, ok_rng1, ok_rng2, srcK_tup, srcK_ls, ok_src, finK_next, finK_ret, List.set_cons_zero, List.set_cons_succ, List.map_cons, List.map_nil, List.replicate, List.cons_append, List.nil_append, List.length_cons, List.length_nil, Bool.false_eq_true, eq_self, if_true, if_false, Nat.zero_add, encE, ix_first, ok_catL]
    refine ⟨decide_eq_true (by rw [List.length_map]; omega), ?_⟩
    refine ok_lcI (fun j acc s' => acc = (((laid.take j).filter fun x => x.1 == z).map (·.2)).map .int ∧ s' = s ++ [.lst ((tally (lots.take i) laid ds).map .int)])
      (fun _ _ _ _ => rfl) (fun j d acc s' hd h => ?_) (fun acc s' h => ?_) ⟨rfl, rfl⟩
    · obtain ⟨rfl, rfl⟩ := h
      have hj : j < laid.length := by have := (List.getElem?_eq_some_iff.mp hd).1; rwa [List.length_map] at this
      rw [List.getElem?_map, List.getElem?_eq_getElem hj] at hd
      cases hd
      simp only [ok_ok, kDrop_ap, kRet_ap, kSet_ap, kCons2_ap, kCons_ap, kTup_ap, kLst_ap, kVal_ap, kNew_ap, kBin2_ap, kBin_ap, kUn_ap, kCall_ap, kCallL_ap, kNotT_ap, kAndT_ap, kOrT_ap, kIf_ap, kIfS_ap, kAnd_ap, kOr_ap, kNot_ap, kMt2_ap, kMt_ap, kPut4_ap, kPut3_ap, kPut2_ap, kPut_ap, kExt2_ap, kExt_ap, kAsg2_ap, kAsg_ap, kFor_ap, kLc_ap, kSl3_ap, kSl2_ap, kSl_ap, kGs_ap, ok_seq, sq_next, sq_ret, sq_brk, sq_cont, ok_nop, ok_brk, ok_cont, ok_drop, ok_ret, ok_retN, ok_set, ok_var0, ok_varS, ok_c, ok_nil, ok_cons, ok_tup, ok_lst, ok_val, ok_new, ok_bin, ok_un, ok_call, ok_callL, ok_test, tst_bl, ok_notT, ok_andT, ok_orT, ok_if, ok_ifS, ok_and, ok_or, ok_not, ok_mt, ok_put, ok_extend, pr2_mk, ok_par2, ok_asg, ok_for, ok_lc, ok_yes, ok_noPart, prt_int, ok_part, ok_sl, ok_gNm, ok_gTp, ok_gsN, ok_gsC, rg1_mk, rg2_mk, ok_rng1, ok_rng2, srcK_tup, srcK_ls, ok_src, finK_next, finK_ret, List.set_cons_zero, List.set_cons_succ, List.map_cons, List.map_nil, List.replicate, List.cons_append, List.nil_append, List.length_cons, List.length_nil, Bool.false_eq_true, eq_self, if_true, if_false, Nat.zero_add, wipeZ, encL]
      refine ⟨rfl, ?_⟩
      simp only [ok_ok, kDrop_ap, kRet_ap, kSet_ap, kCons2_ap, kCons_ap, kTup_ap, kLst_ap, kVal_ap, kNew_ap, kBin2_ap, kBin_ap, kUn_ap, kCall_ap, kCallL_ap, kNotT_ap, kAndT_ap, kOrT_ap, kIf_ap, kIfS_ap, kAnd_ap, kOr_ap, kNot_ap, kMt2_ap, kMt_ap, kPut4_ap, kPut3_ap, kPut2_ap, kPut_ap, kExt2_ap, kExt_ap, kAsg2_ap, kAsg_ap, kFor_ap, kLc_ap, kSl3_ap, kSl2_ap, kSl_ap, kGs_ap, ok_seq, sq_next, sq_ret, sq_brk, sq_cont, ok_nop, ok_brk, ok_cont, ok_drop, ok_ret, ok_retN, ok_set, ok_var0, ok_varS, ok_c, ok_nil, ok_cons, ok_tup, ok_lst, ok_val, ok_new, ok_bin, ok_un, ok_call, ok_callL, ok_test, tst_bl, ok_notT, ok_andT, ok_orT, ok_if, ok_ifS, ok_and, ok_or, ok_not, ok_mt, ok_put, ok_extend, pr2_mk, ok_par2, ok_asg, ok_for, ok_lc, ok_yes, ok_noPart, prt_int, ok_part, ok_sl, ok_gNm, ok_gTp, ok_gsN, ok_gsC, rg1_mk, rg2_mk, ok_rng1, ok_rng2, srcK_tup, srcK_ls, ok_src, finK_next, finK_ret, List.set_cons_zero, List.set_cons_succ, List.map_cons, List.map_nil, List.replicate, List.cons_append, List.nil_append, List.length_cons, List.length_nil, Bool.false_eq_true, eq_self, if_true, if_false, Nat.zero_add, eq_str]
      rw [take_succ' (List.getElem?_eq_getElem hj), List.filter_append]
      split
      · rename_i h1
        refine ⟨?_, by first | rfl | trivial⟩
        simp only [List.filter_cons, List.filter_nil, h1, if_true, List.map_append, List.map_cons, List.map_nil]
      · rename_i h1
        refine ⟨?_, by first | rfl | trivial⟩
        simp only [List.filter_cons, List.filter_nil, h1, Bool.false_eq_true, if_false, List.append_nil]
    · obtain ⟨rfl, rfl⟩ := h
      rw [List.length_map, List.take_length]
      simp only [ok_ok, kDrop_ap, kRet_ap, kSet_ap, kCons2_ap, kCons_ap, kTup_ap, kLst_ap, kVal_ap, kNew_ap, kBin2_ap, kBin_ap, kUn_ap, kCall_ap, kCallL_ap, kNotT_ap, kAndT_ap, kOrT_ap, kIf_ap, kIfS_ap, kAnd_ap, kOr_ap, kNot_ap, kMt2_ap, kMt_ap, kPut4_ap, kPut3_ap, kPut2_ap, kPut_ap, kExt2_ap, kExt_ap, kAsg2_ap, kAsg_ap, kFor_ap, kLc_ap, kSl3_ap, kSl2_ap, kSl_ap, kGs_ap, ok_seq, sq_next, sq_ret, sq_brk, sq_cont, ok_nop, ok_brk, ok_cont, ok_drop, ok_ret, ok_retN, ok_set, ok_var0, ok_varS, ok_c, ok_nil, ok_cons, ok_tup, ok_lst, ok_val, ok_new, ok_bin, ok_un, ok_call, ok_callL, ok_test, tst_bl, ok_notT, ok_andT, ok_orT, ok_if, ok_ifS, ok_and, ok_or, ok_not, ok_mt, ok_put, ok_extend, pr2_mk, ok_par2, ok_asg, ok_for, ok_lc, ok_yes, ok_noPart, prt_int, ok_part, ok_sl, ok_gNm, ok_gTp, ok_gsN, ok_gsC, rg1_mk, rg2_mk, ok_rng1, ok_rng2, srcK_tup, srcK_ls, ok_src, finK_next, finK_ret, List.set_cons_zero, List.set_cons_succ, List.map_cons, List.map_nil, List.replicate, List.cons_append, List.nil_append, List.length_cons, List.length_nil, Bool.false_eq_true, eq_self, if_true, if_false, Nat.zero_add, kCat_ap, encE, ix_second, encS]
      refine ⟨decide_eq_true (by rw [List.length_map]; omega), ?_⟩
      refine ok_lcI (fun j acc s' => acc = (((ds.take j).filter fun x => x == z).map fun _ => (1 : Int)).map .int ∧ s' = s ++ [.lst ((tally (lots.take i) laid ds).map .int)])
        (fun _ _ _ _ => rfl) (fun j d acc s' hd h => ?_) (fun acc s' h => ?_) ⟨rfl, rfl⟩
      · obtain ⟨rfl, rfl⟩ := h
        have hj : j < ds.length := by have := (List.getElem?_eq_some_iff.mp hd).1; rwa [List.length_map] at this
        rw [List.getElem?_map, List.getElem?_eq_getElem hj] at hd
        cases hd
        simp only [ok_ok, kDrop_ap, kRet_ap, kSet_ap, kCons2_ap, kCons_ap, kTup_ap, kLst_ap, kVal_ap, kNew_ap, kBin2_ap, kBin_ap, kUn_ap, kCall_ap, kCallL_ap, kNotT_ap, kAndT_ap, kOrT_ap, kIf_ap, kIfS_ap, kAnd_ap, kOr_ap, kNot_ap, kMt2_ap, kMt_ap, kPut4_ap, kPut3_ap, kPut2_ap, kPut_ap, kExt2_ap, kExt_ap, kAsg2_ap, kAsg_ap, kFor_ap, kLc_ap, kSl3_ap, kSl2_ap, kSl_ap, kGs_ap, ok_seq, sq_next, sq_ret, sq_brk, sq_cont, ok_nop, ok_brk, ok_cont, ok_drop, ok_ret, ok_retN, ok_set, ok_var0, ok_varS, ok_c, ok_nil, ok_cons, ok_tup, ok_lst, ok_val, ok_new, ok_bin, ok_un, ok_call, ok_callL, ok_test, tst_bl, ok_notT, ok_andT, ok_orT, ok_if, ok_ifS, ok_and, ok_or, ok_not, ok_mt, ok_put, ok_extend, pr2_mk, ok_par2, ok_asg, ok_for, ok_lc, ok_yes, ok_noPart, prt_int, ok_part, ok_sl, ok_gNm, ok_gTp, ok_gsN, ok_gsC, rg1_mk, rg2_mk, ok_rng1, ok_rng2, srcK_tup, srcK_ls, ok_src, finK_next, finK_ret, List.set_cons_zero, List.set_cons_succ, List.map_cons, List.map_nil, List.replicate, List.cons_append, List.nil_append, List.length_cons, List.length_nil, Bool.false_eq_true, eq_self, if_true, if_false, Nat.zero_add, wipeZ, eq_str]
        rw [take_succ' (List.getElem?_eq_getElem hj), List.filter_append]
        split
        · rename_i h1
          refine ⟨?_, by first | rfl | trivial⟩
          simp only [List.filter_cons, List.filter_nil, h1, if_true, List.map_append, List.map_cons, List.map_nil]
        · rename_i h1
          refine ⟨?_, by first | rfl | trivial⟩
          simp only [List.filter_cons, List.filter_nil, h1, Bool.false_eq_true, if_false, List.append_nil]
      · obtain ⟨rfl, rfl⟩ := h
        rw [List.length_map, List.take_length]
        simp only [ok_ok, kDrop_ap, kRet_ap, kSet_ap, kCons2_ap, kCons_ap, kTup_ap, kLst_ap, kVal_ap, kNew_ap, kBin2_ap, kBin_ap, kUn_ap, kCall_ap, kCallL_ap, kNotT_ap, kAndT_ap, kOrT_ap, kIf_ap, kIfS_ap, kAnd_ap, kOr_ap, kNot_ap, kMt2_ap, kMt_ap, kPut4_ap, kPut3_ap, kPut2_ap, kPut_ap, kExt2_ap, kExt_ap, kAsg2_ap, kAsg_ap, kFor_ap, kLc_ap, kSl3_ap, kSl2_ap, kSl_ap, kGs_ap, ok_seq, sq_next, sq_ret, sq_brk, sq_cont, ok_nop, ok_brk, ok_cont, ok_drop, ok_ret, ok_retN, ok_set, ok_var0, ok_varS, ok_c, ok_nil, ok_cons, ok_tup, ok_lst, ok_val, ok_new, ok_bin, ok_un, ok_call, ok_callL, ok_test, tst_bl, ok_notT, ok_andT, ok_orT, ok_if, ok_ifS, ok_and, ok_or, ok_not, ok_mt, ok_put, ok_extend, pr2_mk, ok_par2, ok_asg, ok_for, ok_lc, ok_yes, ok_noPart, prt_int, ok_part, ok_sl, ok_gNm, ok_gTp, ok_gsN, ok_gsC, rg1_mk, rg2_mk, ok_rng1, ok_rng2, srcK_tup, srcK_ls, ok_src, finK_next, finK_ret, List.set_cons_zero, List.set_cons_succ, List.map_cons, List.map_nil, List.replicate, List.cons_append, List.nil_append, List.length_cons, List.length_nil, Bool.false_eq_true, eq_self, if_true, if_false, Nat.zero_add, kCat2_ls]
        have f1 : (laid.filter fun x => x.1 == z).length ≤ laid.length := List.length_filter_le _ _
        have f2 : (ds.filter fun x => x == z).length ≤ ds.length := List.length_filter_le _ _
        refine ⟨decide_eq_true (by simp only [List.length_map]; omega), ?_⟩
        rw [← List.map_append]
        refine ⟨isL_loc bs_get, ?_⟩
        simp only [ok_ok, kDrop_ap, kRet_ap, kSet_ap, kCons2_ap, kCons_ap, kTup_ap, kLst_ap, kVal_ap, kNew_ap, kBin2_ap, kBin_ap, kUn_ap, kCall_ap, kCallL_ap, kNotT_ap, kAndT_ap, kOrT_ap, kIf_ap, kIfS_ap, kAnd_ap, kOr_ap, kNot_ap, kMt2_ap, kMt_ap, kPut4_ap, kPut3_ap, kPut2_ap, kPut_ap, kExt2_ap, kExt_ap, kAsg2_ap, kAsg_ap, kFor_ap, kLc_ap, kSl3_ap, kSl2_ap, kSl_ap, kGs_ap, ok_seq, sq_next, sq_ret, sq_brk, sq_cont, ok_nop, ok_brk, ok_cont, ok_drop, ok_ret, ok_retN, ok_set, ok_var0, ok_varS, ok_c, ok_nil, ok_cons, ok_tup, ok_lst, ok_val, ok_new, ok_bin, ok_un, ok_call, ok_callL, ok_test, tst_bl, ok_notT, ok_andT, ok_orT, ok_if, ok_ifS, ok_and, ok_or, ok_not, ok_mt, ok_put, ok_extend, pr2_mk, ok_par2, ok_asg, ok_for, ok_lc, ok_yes, ok_noPart, prt_int, ok_part, ok_sl, ok_gNm, ok_gTp, ok_gsN, ok_gsC, rg1_mk, rg2_mk, ok_rng1, ok_rng2, srcK_tup, srcK_ls, ok_src, finK_next, finK_ret, List.set_cons_zero, List.set_cons_succ, List.map_cons, List.map_nil, List.replicate, List.cons_append, List.nil_append, List.length_cons, List.length_nil, Bool.false_eq_true, eq_self, if_true, if_false, Nat.zero_add, sum_ls]
        rw [append_loc bs_get (by rw [List.length_map, tally, List.length_map, List.length_take]; omega), bs_set, ok_ok]
        refine ⟨_, _, _, _, rfl, ?_⟩
        rw [List.sum_append, sum_filter1, sum_filter2, take_succ' (List.getElem?_eq_getElem hi), hz]
        simp [tally]
  · obtain ⟨v3, v4, v5, v6, rfl, rfl⟩ := h
    rw [List.length_map, List.take_length]
    simp only [ok_ok, kDrop_ap, kRet_ap, kSet_ap, kCons2_ap, kCons_ap, kTup_ap, kLst_ap, kVal_ap, kNew_ap, kBin2_ap, kBin_ap, kUn_ap, kCall_ap, kCallL_ap, kNotT_ap, kAndT_ap, kOrT_ap, kIf_ap, kIfS_ap, kAnd_ap, kOr_ap, kNot_ap, kMt2_ap, kMt_ap, kPut4_ap, kPut3_ap, kPut2_ap, kPut_ap, kExt2_ap, kExt_ap, kAsg2_ap, kAsg_ap, kFor_ap, kLc_ap, kSl3_ap, kSl2_ap, kSl_ap, kGs_ap, ok_seq, sq_next, sq_ret, sq_brk, sq_cont, ok_nop, ok_brk, ok_cont, ok_drop, ok_ret, ok_retN, ok_set, ok_var0, ok_varS, ok_c, ok_nil, ok_cons, ok_tup, ok_lst, ok_val, ok_new, ok_bin, ok_un, ok_call, ok_callL, ok_test, tst_bl, ok_notT, ok_andT, ok_orT, ok_if, ok_ifS, ok_and, ok_or, ok_not, ok_mt, ok_put, ok_extend, pr2_mk, ok_par2, ok_asg, ok_for, ok_lc, ok_yes, ok_noPart, prt_int, ok_part, ok_sl, ok_gNm, ok_gTp, ok_gsN, ok_gsC, rg1_mk, rg2_mk, ok_rng1, ok_rng2, srcK_tup, srcK_ls, ok_src, finK_next, finK_ret, List.set_cons_zero, List.set_cons_succ, List.map_cons, List.map_nil, List.replicate, List.cons_append, List.nil_append, List.length_cons, List.length_nil, Bool.false_eq_true, eq_self, if_true, if_false, Nat.zero_add, tuple_loc bs_get]
    exact fin_base hf (below_tup (belows_map (fun _ => rfl) _)) ⟨rfl, rfl⟩
end Z

namespace Z
open PySem PySem.Spec PyProof.Rows L2

/-! ### more readings -/
section
variable {T : Dv → Sto → Prop} {S : Src → Sto → Prop} {env : En} {s : Sto} {L : List Dv → Sto → Prop} {R : Ct → Sto → Prop} {B : Bool → Sto → Prop}
def kIsi (N : String) (T : Dv → Sto → Prop) : Dv → Sto → Prop := fun x s => T (.bl (isiB (tyD x s) N)) s
theorem kIsi_ap {N : String} {x : Dv} : kIsi N T x s = T (.bl (isiB (tyD x s) N)) s := rfl
theorem ok_isi {N : String} {f : Fn Dv} : Ok (fIsi N f env s) T ↔ Ok (f env s) (kIsi N T) := ok_bind
def kSrcS (S : Src → Sto → Prop) : Dv → Sto → Prop := fun d s => match d with | .str z => S (charsD z, noChk) s | _ => False
theorem kSrcS_str {z : Str} : kSrcS S (.str z) s = S (charsD z, noChk) s := rfl
theorem ok_srcS {f : Fn Dv} : Ok (fSrcS f env s) S ↔ Ok (f env s) (kSrcS S) := by
  unfold fSrcS; rw [ok_bind]
  cases f env s with
  | ok c s1 => cases c <;> exact Iff.rfl
  | _ => exact Iff.rfl
def kEnum (S : Src → Sto → Prop) : List Dv → Sto → Prop := fun ds s => ∃ d src, ds = [d] ∧ srcOf d s = some src ∧ S (enumD src.1, src.2) s
theorem kEnum_tup {ds : List Dv} (h : S (enumD ds, noChk) s) : kEnum S [.tup ds] s := ⟨_, (ds, noChk), rfl, rfl, h⟩
theorem kEnum_ls {ds : List Dv} (h : S (enumD ds, noChk) s) : kEnum S [.ls ds] s := ⟨_, (ds, noChk), rfl, rfl, h⟩
theorem ok_enum {f : Fn (List Dv)} : Ok (fEnum f env s) S ↔ Ok (f env s) (kEnum S) := by
  unfold fEnum; rw [ok_bind]
  refine ⟨fun h => h.mono fun ds s h => ?_, fun h => h.mono fun ds s h => ?_⟩
  · split at h
    · split at h
      · rename_i e; exact ⟨_, _, rfl, e, h⟩
      · exact False.elim h
    · exact False.elim h
  · obtain ⟨d, src, rfl, e, h⟩ := h
    show Ok (match srcOf d s with | some src => _ | none => _) S
    rw [e]; exact h
def kZip (S : Src → Sto → Prop) : List Dv → Sto → Prop := fun ds s => ∃ d e a b, ds = [d, e] ∧ srcOf d s = some a ∧ srcOf e s = some b ∧ ((isL d s && isL e s) || (isT d s && isT e s)) = true ∧ S (zipD a.1 b.1, fun s => a.2 s && b.2 s) s
theorem ok_zip {f : Fn (List Dv)} : Ok (fZip f env s) S ↔ Ok (f env s) (kZip S) := by
  unfold fZip; rw [ok_bind]
  refine ⟨fun h => h.mono fun ds s h => ?_, fun h => h.mono fun ds s h => ?_⟩
  · split at h
    · split at h
      · rename_i e1 e2
        obtain ⟨h1, h2⟩ := ok_iff.mp h
        exact ⟨_, _, _, _, rfl, e1, e2, h1, h2⟩
      · exact False.elim h
    · exact False.elim h
  · obtain ⟨d, e, a, b, rfl, e1, e2, h1, h2⟩ := h
    show Ok (match srcOf d s, srcOf e s with | some a, some b => _ | _, _ => _) S
    rw [e1, e2]; exact ok_iff.mpr ⟨h1, h2⟩
def kRevI (S : Src → Sto → Prop) : Dv → Sto → Prop := fun d s => ∃ src, srcOf d s = some src ∧ S (src.1.reverse, src.2) s
theorem ok_revI {f : Fn Dv} : Ok (fRevI f env s) S ↔ Ok (f env s) (kRevI S) := by
  unfold fRevI; rw [ok_bind]
  refine ⟨fun h => h.mono fun ds s h => ?_, fun h => h.mono fun ds s h => ?_⟩
  · split at h
    · rename_i e; exact ⟨_, e, h⟩
    · exact False.elim h
  · obtain ⟨src, e, h⟩ := h
    rw [e]; exact h
def kChain3 (g' : Dv → Dv → Sto → Rs Dv) (f3 : Fn Dv) (env : En) (y : Dv) (T : Dv → Sto → Prop) : Dv → Sto → Prop := fun t s3 => match t with
  | .bl true => Ok (f3 env s3) (kUn (fun z => g' y z) T)
  | .bl false => T (.bl false) s3
  | _ => False
theorem kChain3_t {g' : Dv → Dv → Sto → Rs Dv} {f3 : Fn Dv} {y : Dv} : kChain3 g' f3 env y T (.bl true) s = Ok (f3 env s) (kUn (fun z => g' y z) T) := rfl
theorem kChain3_f {g' : Dv → Dv → Sto → Rs Dv} {f3 : Fn Dv} {y : Dv} : kChain3 g' f3 env y T (.bl false) s = T (.bl false) s := rfl
def kChain2 (g g' : Dv → Dv → Sto → Rs Dv) (f3 : Fn Dv) (env : En) (x : Dv) (T : Dv → Sto → Prop) : Dv → Sto → Prop := fun y s2 => Ok (g x y s2) (kChain3 g' f3 env y T)
def kChain (g g' : Dv → Dv → Sto → Rs Dv) (f2 f3 : Fn Dv) (env : En) (T : Dv → Sto → Prop) : Dv → Sto → Prop := fun x s1 => Ok (f2 env s1) (kChain2 g g' f3 env x T)
theorem kChain2_ap {g g' : Dv → Dv → Sto → Rs Dv} {f3 : Fn Dv} {x y : Dv} : kChain2 g g' f3 env x T y s = Ok (g x y s) (kChain3 g' f3 env y T) := rfl
theorem kChain_ap {g g' : Dv → Dv → Sto → Rs Dv} {f2 f3 : Fn Dv} {x : Dv} : kChain g g' f2 f3 env T x s = Ok (f2 env s) (kChain2 g g' f3 env x T) := rfl
theorem ok_chain {g g' : Dv → Dv → Sto → Rs Dv} {f1 f2 f3 : Fn Dv} : Ok (fChain g g' f1 f2 f3 env s) T ↔ Ok (f1 env s) (kChain g g' f2 f3 env T) := by
  have key : ∀ (y t : Dv) (s3 : Sto), Ok (match t with | .bl true => (f3 env s3).bind fun z s4 => g' y z s4 | .bl false => .ok (.bl false) s3 | _ => .bad) T ↔ kChain3 g' f3 env y T t s3 := fun y t s3 => by
    cases t with
    | bl b => cases b with
      | true => exact ok_bind
      | false => exact Iff.rfl
    | _ => exact Iff.rfl
  unfold fChain; rw [ok_bind]
  refine ⟨fun h => h.mono fun x s h => (ok_bind.mp h).mono fun y s h => (ok_bind.mp h).mono fun t s h => (key y t s).mp h, fun h => h.mono fun x s h => ok_bind.mpr (h.mono fun y s h => ok_bind.mpr (h.mono fun t s h => (key y t s).mpr h))⟩
end
/-- a comprehension whose items are plain -/
theorem ok_map {own : List Nat} {g : Dv → Fn En} {tt : Fn Bool} {te : Fn Dv} {ds : List Dv} {env : En} {s : Sto} {L : List Dv → Sto → Prop} (p : Dv → Bool) (h : Dv → Dv)
    (hh : ∀ d ∈ ds, Ok (g d (wipeZ env own) s) fun env1 s1 => Ok (tt env1 s1) fun b s2 => b = p d ∧ if b = true then Ok (te env1 s2) fun y s3 => y = h d ∧ s3 = s else s2 = s) (hL : L ((ds.filter p).map h) s) : Ok (lcZ noChk own g tt te ds env s) L := by
  refine ok_lcI (fun j acc s' => acc = ((ds.take j).filter p).map h ∧ s' = s) (fun _ _ _ _ => rfl) (fun j d acc s' hd hi => ?_) (fun acc s' hi => ?_) ⟨by simp, rfl⟩
  · obtain ⟨rfl, rfl⟩ := hi
    refine (hh d (List.mem_of_getElem? hd)).mono fun env1 s1 h1 => h1.mono fun b s2 h2 => ?_
    obtain ⟨rfl, h2⟩ := h2
    rw [take_succ' hd, List.filter_append]
    cases e : p d with
    | true =>
      rw [e, if_pos rfl] at h2
      rw [if_pos rfl]
      refine h2.mono fun y s3 h3 => ?_
      obtain ⟨rfl, rfl⟩ := h3
      exact ⟨by simp [e], rfl⟩
    | false =>
      rw [e, if_neg Bool.false_ne_true] at h2
      rw [if_neg Bool.false_ne_true]
      exact ⟨by simp [e], h2⟩
  · obtain ⟨rfl, rfl⟩ := hi
    rw [List.take_length]; exact hL
theorem filter_yes {α : Type} (l : List α) : l.filter (fun _ => true) = l := List.filter_eq_self.mpr fun _ _ => rfl
theorem fin_any {s : Sto} {d : Dv} {T : Dv → Sto → Prop} (hd : ∀ n, d ≠ .loc n) (h : T d s) : Ok (gcZ s.length d s) T := by
  have e : gcZ s.length d s = .ok d s := by
    unfold gcZ
    split
    · rw [List.take_length]
    · cases d with
      | loc n => exact absurd rfl (hd n)
      | _ => rfl
  rw [e]; exact h
theorem all_ls {bs : List Bool} {s : Sto} : gAll [.ls (bs.map .bl)] s = .ok (.bl (bs.all id)) s := by
  have h : blsOf (bs.map .bl) = some bs := by
    induction bs with
    | nil => rfl
    | cons z r ih =>
      show (blsOf (r.map .bl)).map (z :: ·) = _
      rw [ih]; rfl
  unfold gAll gOnL
  have e : (seqOf s (.ls (bs.map .bl))).bind blsOf = some bs := h
  simp only [e]
  rfl
theorem any_ls {bs : List Bool} {s : Sto} : gAny [.ls (bs.map .bl)] s = .ok (.bl (bs.any id)) s := by
  have h : blsOf (bs.map .bl) = some bs := by
    induction bs with
    | nil => rfl
    | cons z r ih =>
      show (blsOf (r.map .bl)).map (z :: ·) = _
      rw [ih]; rfl
  unfold gAny gOnL
  have e : (seqOf s (.ls (bs.map .bl))).bind blsOf = some bs := h
  simp only [e]
  rfl
theorem ints_map (zs : List Int) : intsOf (zs.map .int) = some zs := by
  induction zs with
  | nil => rfl
  | cons z r ih =>
    show (intsOf (r.map .int)).map (z :: ·) = _
    rw [ih]; rfl
theorem sumA_ls {zs : List Int} {s : Sto} : gSum [.ls (zs.map .int)] s = .ok (.int zs.sum) s := by
  unfold gSum
  have e : (seqOf s (.ls (zs.map .int))).bind intsOf = some zs := ints_map zs
  simp only [e]
theorem sumA_tup {zs : List Int} {s : Sto} : gSum [.tup (zs.map .int)] s = .ok (.int zs.sum) s := by
  unfold gSum
  have e : (seqOf s (.tup (zs.map .int))).bind intsOf = some zs := ints_map zs
  simp only [e]

/-! ### kinds of things -/
def bNumber : Fn Ct := fRet (fAnd (fIsi "int" (fVar 0)) (fNot (fIsi "bool" (fVar 0))))
def isNumD : Dv → Bool
  | .int _ => true
  | _ => false
theorem number_spec {d : Dv} {s : Sto} {T : Dv → Sto → Prop} (h : T (.bl (isNumD d)) s) : Ok (fDef 1 1 bNumber [d] s) T := by
  rw [ok_def]
  refine ⟨rfl, ?_⟩
  unfold bNumber
  simp only [ok_ok, kDrop_ap, kRet_ap, kSet_ap, kCons2_ap, kCons_ap, kTup_ap, kLst_ap, kVal_ap, kNew_ap, kBin2_ap, kBin_ap, kUn_ap, kCall_ap, kCallL_ap, kNotT_ap, kAndT_ap, kOrT_ap, kIf_ap, kIfS_ap, kAnd_ap, kOr_ap, kNot_ap, kMt2_ap, kMt_ap, kPut4_ap, kPut3_ap, kPut2_ap, kPut_ap, kExt2_ap, kExt_ap, kAsg2_ap, kAsg_ap, kFor_ap, kLc_ap, kSl3_ap, kSl2_ap, kSl_ap, kGs_ap, ok_seq, sq_next, sq_ret, sq_brk, sq_cont, ok_nop, ok_brk, ok_cont, ok_drop, ok_ret, ok_retN, ok_set, ok_var0, ok_varS, ok_c, ok_nil, ok_cons, ok_tup, ok_lst, ok_val, ok_new, ok_bin, ok_un, ok_call, ok_callL, ok_test, tst_bl, ok_notT, ok_andT, ok_orT, ok_if, ok_ifS, ok_and, ok_or, ok_not, ok_mt, ok_put, ok_extend, pr2_mk, ok_par2, ok_asg, ok_for, ok_lc, ok_yes, ok_noPart, prt_int, ok_part, ok_sl, ok_gNm, ok_gTp, ok_gsN, ok_gsC, rg1_mk, rg2_mk, ok_rng1, ok_rng2, srcK_tup, srcK_ls, ok_src, finK_next, finK_ret, List.set_cons_zero, List.set_cons_succ, List.map_cons, List.map_nil, List.replicate, List.cons_append, List.nil_append, List.length_cons, List.length_nil, Bool.false_eq_true, eq_self, if_true, if_false, Nat.zero_add, ok_isi, kIsi_ap]
  cases d with
  | int i => exact fin_any (fun n => nofun) h
  | bl i => exact fin_any (fun n => nofun) h
  | non => exact fin_any (fun n => nofun) h
  | str i => exact fin_any (fun n => nofun) h
  | tup i => exact fin_any (fun n => nofun) h
  | ls i => exact fin_any (fun n => nofun) h
  | loc n =>
    have e1 : isiB (tyD (.loc n) s) "int" = false := by
      unfold tyD
      simp only
      split <;> decide
    rw [e1]
    exact fin_any (fun n => nofun) h
def isWordD : Dv → Bool
  | .str z => isWordS z
  | _ => false
def bWord : Fn Ct :=
  fSeq (fIfS (fOrT (fNotT (fTest (fIsi "str" (fVar 0)))) (fNotT (fTest (fChain gLe gLe (fC (.int 1)) (fCall gLen (fCons (fVar 0) (fNil))) (fC (.int 8)))))) (fRet (fC (.bl false))) (fNop))
  (fRet (fCall gAll (fCons (fVal (fLc (fSrcS (fVar 0)) [1] (gNm 1) (fYes) (fBin gIn (fVar 1) (fC (.str (Str.ofString "abcdefghijklmnopqrstuvwxyz")))))) (fNil))))
theorem len_str {z : Str} {s : Sto} (h : z.length ≤ 16777216) : gLen [.str z] s = .ok (.int z.length) s := by
  show Rs.iff (decide (z.length ≤ 16777216)) _ = _
  rw [decide_eq_true h]; rfl
theorem in_letters {c : Nat} {s : Sto} : gIn (.str ⟨#[c]⟩) (.str (Str.ofString "abcdefghijklmnopqrstuvwxyz")) s = .ok (.bl (isLet c)) s := by
  show Rs.ok (Dv.bl (!(Builtin.Str.occurrences lettersS ⟨#[c]⟩ 0 lettersS.length 1).isEmpty)) s = _
  rw [PySem.StrLaws.found_one]; rfl
theorem word_spec {d : Dv} {s : Sto} {T : Dv → Sto → Prop} (hz : ∀ z, d = .str z → z.length ≤ 16777216) (h : T (.bl (isWordD d)) s) : Ok (fDef 1 2 bWord [d] s) T := by
  rw [ok_def]
  refine ⟨rfl, ?_⟩
  unfold bWord
  simp only [ok_ok, kDrop_ap, kRet_ap, kSet_ap, kCons2_ap, kCons_ap, kTup_ap, kLst_ap, kVal_ap, kNew_ap, kBin2_ap, kBin_ap, kUn_ap, kCall_ap, kCallL_ap, kNotT_ap, kAndT_ap, kOrT_ap, kIf_ap, kIfS_ap, kAnd_ap, kOr_ap, kNot_ap, kMt2_ap, kMt_ap, kPut4_ap, kPut3_ap, kPut2_ap, kPut_ap, kExt2_ap, kExt_ap, kAsg2_ap, kAsg_ap, kFor_ap, kLc_ap, kSl3_ap, kSl2_ap, kSl_ap, kGs_ap, ok_seq, sq_next, sq_ret, sq_brk, sq_cont, ok_nop, ok_brk, ok_cont, ok_drop, ok_ret, ok_retN, ok_set, ok_var0, ok_varS, ok_c, ok_nil, ok_cons, ok_tup, ok_lst, ok_val, ok_new, ok_bin, ok_un, ok_call, ok_callL, ok_test, tst_bl, ok_notT, ok_andT, ok_orT, ok_if, ok_ifS, ok_and, ok_or, ok_not, ok_mt, ok_put, ok_extend, pr2_mk, ok_par2, ok_asg, ok_for, ok_lc, ok_yes, ok_noPart, prt_int, ok_part, ok_sl, ok_gNm, ok_gTp, ok_gsN, ok_gsC, rg1_mk, rg2_mk, ok_rng1, ok_rng2, srcK_tup, srcK_ls, ok_src, finK_next, finK_ret, List.set_cons_zero, List.set_cons_succ, List.map_cons, List.map_nil, List.replicate, List.cons_append, List.nil_append, List.length_cons, List.length_nil, Bool.false_eq_true, eq_self, if_true, if_false, Nat.zero_add, ok_isi, kIsi_ap]
  have no : isiB (tyD d s) "str" = false → isWordD d = false := fun e => by
    cases d with
    | str z => exact absurd e (by simp [tyD, isiB])
    | _ => rfl
  cases e : isiB (tyD d s) "str" with
  | false =>
    rw [no e] at h
    simp only [ok_ok, kDrop_ap, kRet_ap, kSet_ap, kCons2_ap, kCons_ap, kTup_ap, kLst_ap, kVal_ap, kNew_ap, kBin2_ap, kBin_ap, kUn_ap, kCall_ap, kCallL_ap, kNotT_ap, kAndT_ap, kOrT_ap, kIf_ap, kIfS_ap, kAnd_ap, kOr_ap, kNot_ap, kMt2_ap, kMt_ap, kPut4_ap, kPut3_ap, kPut2_ap, kPut_ap, kExt2_ap, kExt_ap, kAsg2_ap, kAsg_ap, kFor_ap, kLc_ap, kSl3_ap, kSl2_ap, kSl_ap, kGs_ap, ok_seq, sq_next, sq_ret, sq_brk, sq_cont, ok_nop, ok_brk, ok_cont, ok_drop, ok_ret, ok_retN, ok_set, ok_var0, ok_varS, ok_c, ok_nil, ok_cons, ok_tup, ok_lst, ok_val, ok_new, ok_bin, ok_un, ok_call, ok_callL, ok_test, tst_bl, ok_notT, ok_andT, ok_orT, ok_if, ok_ifS, ok_and, ok_or, ok_not, ok_mt, ok_put, ok_extend, pr2_mk, ok_par2, ok_asg, ok_for, ok_lc, ok_yes, ok_noPart, prt_int, ok_part, ok_sl, ok_gNm, ok_gTp, ok_gsN, ok_gsC, rg1_mk, rg2_mk, ok_rng1, ok_rng2, srcK_tup, srcK_ls, ok_src, finK_next, finK_ret, List.set_cons_zero, List.set_cons_succ, List.map_cons, List.map_nil, List.replicate, List.cons_append, List.nil_append, List.length_cons, List.length_nil, Bool.false_eq_true, eq_self, if_true, if_false, Nat.zero_add, Bool.not_false]
    exact fin_any (fun n => nofun) h
  | true =>
    have hs : ∃ z, d = .str z := by
      cases d with
      | str z => exact ⟨z, rfl⟩
      | loc n =>
        exfalso
        unfold tyD at e
        simp only at e
        split at e <;> exact absurd e (by decide)
      | _ => exact absurd e (by simp [tyD, isiB])
    obtain ⟨z, rfl⟩ := hs
    simp only [ok_ok, kDrop_ap, kRet_ap, kSet_ap, kCons2_ap, kCons_ap, kTup_ap, kLst_ap, kVal_ap, kNew_ap, kBin2_ap, kBin_ap, kUn_ap, kCall_ap, kCallL_ap, kNotT_ap, kAndT_ap, kOrT_ap, kIf_ap, kIfS_ap, kAnd_ap, kOr_ap, kNot_ap, kMt2_ap, kMt_ap, kPut4_ap, kPut3_ap, kPut2_ap, kPut_ap, kExt2_ap, kExt_ap, kAsg2_ap, kAsg_ap, kFor_ap, kLc_ap, kSl3_ap, kSl2_ap, kSl_ap, kGs_ap, ok_seq, sq_next, sq_ret, sq_brk, sq_cont, ok_nop, ok_brk, ok_cont, ok_drop, ok_ret, ok_retN, ok_set, ok_var0, ok_varS, ok_c, ok_nil, ok_cons, ok_tup, ok_lst, ok_val, ok_new, ok_bin, ok_un, ok_call, ok_callL, ok_test, tst_bl, ok_notT, ok_andT, ok_orT, ok_if, ok_ifS, ok_and, ok_or, ok_not, ok_mt, ok_put, ok_extend, pr2_mk, ok_par2, ok_asg, ok_for, ok_lc, ok_yes, ok_noPart, prt_int, ok_part, ok_sl, ok_gNm, ok_gTp, ok_gsN, ok_gsC, rg1_mk, rg2_mk, ok_rng1, ok_rng2, srcK_tup, srcK_ls, ok_src, finK_next, finK_ret, List.set_cons_zero, List.set_cons_succ, List.map_cons, List.map_nil, List.replicate, List.cons_append, List.nil_append, List.length_cons, List.length_nil, Bool.false_eq_true, eq_self, if_true, if_false, Nat.zero_add, Bool.not_true, ok_chain, kChain_ap, kChain2_ap, len_str (hz z rfl), Z.le_int]
    have hw : isWordD (.str z) = (decide (1 ≤ z.length) && decide (z.length ≤ 8) && z.cps.toList.all isLet) := rfl
    rw [hw] at h
    by_cases h1 : 1 ≤ z.length
    · rw [decide_eq_true (show (1 : Int) ≤ z.length by omega)]
      rw [decide_eq_true h1] at h
      simp only [ok_ok, kDrop_ap, kRet_ap, kSet_ap, kCons2_ap, kCons_ap, kTup_ap, kLst_ap, kVal_ap, kNew_ap, kBin2_ap, kBin_ap, kUn_ap, kCall_ap, kCallL_ap, kNotT_ap, kAndT_ap, kOrT_ap, kIf_ap, kIfS_ap, kAnd_ap, kOr_ap, kNot_ap, kMt2_ap, kMt_ap, kPut4_ap, kPut3_ap, kPut2_ap, kPut_ap, kExt2_ap, kExt_ap, kAsg2_ap, kAsg_ap, kFor_ap, kLc_ap, kSl3_ap, kSl2_ap, kSl_ap, kGs_ap, ok_seq, sq_next, sq_ret, sq_brk, sq_cont, ok_nop, ok_brk, ok_cont, ok_drop, ok_ret, ok_retN, ok_set, ok_var0, ok_varS, ok_c, ok_nil, ok_cons, ok_tup, ok_lst, ok_val, ok_new, ok_bin, ok_un, ok_call, ok_callL, ok_test, tst_bl, ok_notT, ok_andT, ok_orT, ok_if, ok_ifS, ok_and, ok_or, ok_not, ok_mt, ok_put, ok_extend, pr2_mk, ok_par2, ok_asg, ok_for, ok_lc, ok_yes, ok_noPart, prt_int, ok_part, ok_sl, ok_gNm, ok_gTp, ok_gsN, ok_gsC, rg1_mk, rg2_mk, ok_rng1, ok_rng2, srcK_tup, srcK_ls, ok_src, finK_next, finK_ret, List.set_cons_zero, List.set_cons_succ, List.map_cons, List.map_nil, List.replicate, List.cons_append, List.nil_append, List.length_cons, List.length_nil, Bool.false_eq_true, eq_self, if_true, if_false, Nat.zero_add, kChain3_t, Z.le_int]
      by_cases h8 : z.length ≤ 8
      · rw [decide_eq_true (show (z.length : Int) ≤ 8 by omega)]
        rw [decide_eq_true h8] at h
        simp only [ok_ok, kDrop_ap, kRet_ap, kSet_ap, kCons2_ap, kCons_ap, kTup_ap, kLst_ap, kVal_ap, kNew_ap, kBin2_ap, kBin_ap, kUn_ap, kCall_ap, kCallL_ap, kNotT_ap, kAndT_ap, kOrT_ap, kIf_ap, kIfS_ap, kAnd_ap, kOr_ap, kNot_ap, kMt2_ap, kMt_ap, kPut4_ap, kPut3_ap, kPut2_ap, kPut_ap, kExt2_ap, kExt_ap, kAsg2_ap, kAsg_ap, kFor_ap, kLc_ap, kSl3_ap, kSl2_ap, kSl_ap, kGs_ap, ok_seq, sq_next, sq_ret, sq_brk, sq_cont, ok_nop, ok_brk, ok_cont, ok_drop, ok_ret, ok_retN, ok_set, ok_var0, ok_varS, ok_c, ok_nil, ok_cons, ok_tup, ok_lst, ok_val, ok_new, ok_bin, ok_un, ok_call, ok_callL, ok_test, tst_bl, ok_notT, ok_andT, ok_orT, ok_if, ok_ifS, ok_and, ok_or, ok_not, ok_mt, ok_put, ok_extend, pr2_mk, ok_par2, ok_asg, ok_for, ok_lc, ok_yes, ok_noPart, prt_int, ok_part, ok_sl, ok_gNm, ok_gTp, ok_gsN, ok_gsC, rg1_mk, rg2_mk, ok_rng1, ok_rng2, srcK_tup, srcK_ls, ok_src, finK_next, finK_ret, List.set_cons_zero, List.set_cons_succ, List.map_cons, List.map_nil, List.replicate, List.cons_append, List.nil_append, List.length_cons, List.length_nil, Bool.false_eq_true, eq_self, if_true, if_false, Nat.zero_add, Bool.not_true, ok_srcS, kSrcS_str]
        refine ⟨decide_eq_true (by simp only [charsD, List.length_map, Array.length_toList]; show z.cps.size < _; have : z.cps.size = z.length := rfl; omega), ?_⟩
        refine ok_map (fun _ => true) (fun d => match d with | .str x => .bl (isLet (x.cps.toList.headD 0)) | _ => .non) (fun d hd => ?_) ?_
        · obtain ⟨c, _, rfl⟩ := List.mem_map.mp hd
          simp only [ok_ok, kDrop_ap, kRet_ap, kSet_ap, kCons2_ap, kCons_ap, kTup_ap, kLst_ap, kVal_ap, kNew_ap, kBin2_ap, kBin_ap, kUn_ap, kCall_ap, kCallL_ap, kNotT_ap, kAndT_ap, kOrT_ap, kIf_ap, kIfS_ap, kAnd_ap, kOr_ap, kNot_ap, kMt2_ap, kMt_ap, kPut4_ap, kPut3_ap, kPut2_ap, kPut_ap, kExt2_ap, kExt_ap, kAsg2_ap, kAsg_ap, kFor_ap, kLc_ap, kSl3_ap, kSl2_ap, kSl_ap, kGs_ap, ok_seq, sq_next, sq_ret, sq_brk, sq_cont, ok_nop, ok_brk, ok_cont, ok_drop, ok_ret, ok_retN, ok_set, ok_var0, ok_varS, ok_c, ok_nil, ok_cons, ok_tup, ok_lst, ok_val, ok_new, ok_bin, ok_un, ok_call, ok_callL, ok_test, tst_bl, ok_notT, ok_andT, ok_orT, ok_if, ok_ifS, ok_and, ok_or, ok_not, ok_mt, ok_put, ok_extend, pr2_mk, ok_par2, ok_asg, ok_for, ok_lc, ok_yes, ok_noPart, prt_int, ok_part, ok_sl, ok_gNm, ok_gTp, ok_gsN, ok_gsC, rg1_mk, rg2_mk, ok_rng1, ok_rng2, srcK_tup, srcK_ls, ok_src, finK_next, finK_ret, List.set_cons_zero, List.set_cons_succ, List.map_cons, List.map_nil, List.replicate, List.cons_append, List.nil_append, List.length_cons, List.length_nil, Bool.false_eq_true, eq_self, if_true, if_false, Nat.zero_add, wipeZ, in_letters]
          exact ⟨trivial, rfl, trivial⟩
        · rw [filter_yes]
          have e2 : (charsD z).map (fun d => match d with | .str x => Dv.bl (isLet (x.cps.toList.headD 0)) | _ => Dv.non) = (z.cps.toList.map isLet).map .bl := by
            unfold charsD
            rw [List.map_map, List.map_map]
            exact List.map_congr_left fun c _ => rfl
          rw [e2]
          simp only [ok_ok, kDrop_ap, kRet_ap, kSet_ap, kCons2_ap, kCons_ap, kTup_ap, kLst_ap, kVal_ap, kNew_ap, kBin2_ap, kBin_ap, kUn_ap, kCall_ap, kCallL_ap, kNotT_ap, kAndT_ap, kOrT_ap, kIf_ap, kIfS_ap, kAnd_ap, kOr_ap, kNot_ap, kMt2_ap, kMt_ap, kPut4_ap, kPut3_ap, kPut2_ap, kPut_ap, kExt2_ap, kExt_ap, kAsg2_ap, kAsg_ap, kFor_ap, kLc_ap, kSl3_ap, kSl2_ap, kSl_ap, kGs_ap, ok_seq, sq_next, sq_ret, sq_brk, sq_cont, ok_nop, ok_brk, ok_cont, ok_drop, ok_ret, ok_retN, ok_set, ok_var0, ok_varS, ok_c, ok_nil, ok_cons, ok_tup, ok_lst, ok_val, ok_new, ok_bin, ok_un, ok_call, ok_callL, ok_test, tst_bl, ok_notT, ok_andT, ok_orT, ok_if, ok_ifS, ok_and, ok_or, ok_not, ok_mt, ok_put, ok_extend, pr2_mk, ok_par2, ok_asg, ok_for, ok_lc, ok_yes, ok_noPart, prt_int, ok_part, ok_sl, ok_gNm, ok_gTp, ok_gsN, ok_gsC, rg1_mk, rg2_mk, ok_rng1, ok_rng2, srcK_tup, srcK_ls, ok_src, finK_next, finK_ret, List.set_cons_zero, List.set_cons_succ, List.map_cons, List.map_nil, List.replicate, List.cons_append, List.nil_append, List.length_cons, List.length_nil, Bool.false_eq_true, eq_self, if_true, if_false, Nat.zero_add, all_ls]
          refine fin_any (fun n => nofun) ?_
          rw [List.all_map]
          exact h
      · rw [decide_eq_false (show ¬ (z.length : Int) ≤ 8 by omega)]
        rw [decide_eq_false h8] at h
        simp only [ok_ok, kDrop_ap, kRet_ap, kSet_ap, kCons2_ap, kCons_ap, kTup_ap, kLst_ap, kVal_ap, kNew_ap, kBin2_ap, kBin_ap, kUn_ap, kCall_ap, kCallL_ap, kNotT_ap, kAndT_ap, kOrT_ap, kIf_ap, kIfS_ap, kAnd_ap, kOr_ap, kNot_ap, kMt2_ap, kMt_ap, kPut4_ap, kPut3_ap, kPut2_ap, kPut_ap, kExt2_ap, kExt_ap, kAsg2_ap, kAsg_ap, kFor_ap, kLc_ap, kSl3_ap, kSl2_ap, kSl_ap, kGs_ap, ok_seq, sq_next, sq_ret, sq_brk, sq_cont, ok_nop, ok_brk, ok_cont, ok_drop, ok_ret, ok_retN, ok_set, ok_var0, ok_varS, ok_c, ok_nil, ok_cons, ok_tup, ok_lst, ok_val, ok_new, ok_bin, ok_un, ok_call, ok_callL, ok_test, tst_bl, ok_notT, ok_andT, ok_orT, ok_if, ok_ifS, ok_and, ok_or, ok_not, ok_mt, ok_put, ok_extend, pr2_mk, ok_par2, ok_asg, ok_for, ok_lc, ok_yes, ok_noPart, prt_int, ok_part, ok_sl, ok_gNm, ok_gTp, ok_gsN, ok_gsC, rg1_mk, rg2_mk, ok_rng1, ok_rng2, srcK_tup, srcK_ls, ok_src, finK_next, finK_ret, List.set_cons_zero, List.set_cons_succ, List.map_cons, List.map_nil, List.replicate, List.cons_append, List.nil_append, List.length_cons, List.length_nil, Bool.false_eq_true, eq_self, if_true, if_false, Nat.zero_add, Bool.not_false]
        exact fin_any (fun n => nofun) h
    · rw [decide_eq_false (show ¬ (1 : Int) ≤ z.length by omega)]
      rw [decide_eq_false h1] at h
      simp only [ok_ok, kDrop_ap, kRet_ap, kSet_ap, kCons2_ap, kCons_ap, kTup_ap, kLst_ap, kVal_ap, kNew_ap, kBin2_ap, kBin_ap, kUn_ap, kCall_ap, kCallL_ap, kNotT_ap, kAndT_ap, kOrT_ap, kIf_ap, kIfS_ap, kAnd_ap, kOr_ap, kNot_ap, kMt2_ap, kMt_ap, kPut4_ap, kPut3_ap, kPut2_ap, kPut_ap, kExt2_ap, kExt_ap, kAsg2_ap, kAsg_ap, kFor_ap, kLc_ap, kSl3_ap, kSl2_ap, kSl_ap, kGs_ap, ok_seq, sq_next, sq_ret, sq_brk, sq_cont, ok_nop, ok_brk, ok_cont, ok_drop, ok_ret, ok_retN, ok_set, ok_var0, ok_varS, ok_c, ok_nil, ok_cons, ok_tup, ok_lst, ok_val, ok_new, ok_bin, ok_un, ok_call, ok_callL, ok_test, tst_bl, ok_notT, ok_andT, ok_orT, ok_if, ok_ifS, ok_and, ok_or, ok_not, ok_mt, ok_put, ok_extend, pr2_mk, ok_par2, ok_asg, ok_for, ok_lc, ok_yes, ok_noPart, prt_int, ok_part, ok_sl, ok_gNm, ok_gTp, ok_gsN, ok_gsC, rg1_mk, rg2_mk, ok_rng1, ok_rng2, srcK_tup, srcK_ls, ok_src, finK_next, finK_ret, List.set_cons_zero, List.set_cons_succ, List.map_cons, List.map_nil, List.replicate, List.cons_append, List.nil_append, List.length_cons, List.length_nil, Bool.false_eq_true, eq_self, if_true, if_false, Nat.zero_add, kChain3_f, Bool.not_false]
      exact fin_any (fun n => nofun) h
end Z

namespace Z
open PySem PySem.Spec PyProof.Rows L2

/-! ### ends looked at -/
def NumberS (φ : Phi) : Prop := ∀ (d : Dv) (s : Sto) (T : Dv → Sto → Prop), T (.bl (isNumD d)) s → Ok (φ [d] s) T
def WordS (φ : Phi) : Prop := ∀ (d : Dv) (s : Sto) (T : Dv → Sto → Prop), (∀ z, d = .str z → z.length ≤ 16777216) → T (.bl (isWordD d)) s → Ok (φ [d] s) T
def bAreWords (φw : Phi) : Fn Ct :=
  fRet (fAnd (fIsi "tuple" (fVar 0)) (fCall gAll (fCons (fVal (fLc (fSrc (fVar 0)) [1] (gNm 1) (fYes) (fCall φw (fCons (fVar 1) (fNil))))) (fNil))))
/-- texts that are no longer than a text may be -/
def txtOk : Dv → Bool
  | .str z => decide (z.length ≤ 16777216)
  | _ => true
theorem txtOk_ok {d : Dv} (h : txtOk d = true) : ∀ z, d = .str z → z.length ≤ 16777216 := fun z e => by subst e; exact of_decide_eq_true h
theorem areWords_spec {φw : Phi} (hw : WordS φw) {ds : List Dv} {s : Sto} {T : Dv → Sto → Prop} (ht : ∀ d ∈ ds, txtOk d = true) (hl : ds.length < 16777216) (h : T (.bl (ds.all isWordD)) s) : Ok (fDef 1 2 (bAreWords φw) [.tup ds] s) T := by
  rw [ok_def]
  refine ⟨rfl, ?_⟩
  unfold bAreWords
  simp only [ok_ok, kDrop_ap, kRet_ap, kSet_ap, kCons2_ap, kCons_ap, kTup_ap, kLst_ap, kVal_ap, kNew_ap, kBin2_ap, kBin_ap, kUn_ap, kCall_ap, kCallL_ap, kNotT_ap, kAndT_ap, kOrT_ap, kIf_ap, kIfS_ap, kAnd_ap, kOr_ap, kNot_ap, kMt2_ap, kMt_ap, kPut4_ap, kPut3_ap, kPut2_ap, kPut_ap, kExt2_ap, kExt_ap, kAsg2_ap, kAsg_ap, kFor_ap, kLc_ap, kSl3_ap, kSl2_ap, kSl_ap, kGs_ap, ok_seq, sq_next, sq_ret, sq_brk, sq_cont, ok_nop, ok_brk, ok_cont, ok_drop, ok_ret, ok_retN, ok_set, ok_var0, ok_varS, ok_c, ok_nil, ok_cons, ok_tup, ok_lst, ok_val, ok_new, ok_bin, ok_un, ok_call, ok_callL, ok_test, tst_bl, ok_notT, ok_andT, ok_orT, ok_if, ok_ifS, ok_and, ok_or, ok_not, ok_mt, ok_put, ok_extend, pr2_mk, ok_par2, ok_asg, ok_for, ok_lc, ok_yes, ok_noPart, prt_int, ok_part, ok_sl, ok_gNm, ok_gTp, ok_gsN, ok_gsC, rg1_mk, rg2_mk, ok_rng1, ok_rng2, srcK_tup, srcK_ls, ok_src, finK_next, finK_ret, List.set_cons_zero, List.set_cons_succ, List.map_cons, List.map_nil, List.replicate, List.cons_append, List.nil_append, List.length_cons, List.length_nil, Bool.false_eq_true, eq_self, if_true, if_false, Nat.zero_add, ok_isi, kIsi_ap]
  rw [show isiB (tyD (.tup ds) s) "tuple" = true by simp [tyD, isiB]]
  simp only [ok_ok, kDrop_ap, kRet_ap, kSet_ap, kCons2_ap, kCons_ap, kTup_ap, kLst_ap, kVal_ap, kNew_ap, kBin2_ap, kBin_ap, kUn_ap, kCall_ap, kCallL_ap, kNotT_ap, kAndT_ap, kOrT_ap, kIf_ap, kIfS_ap, kAnd_ap, kOr_ap, kNot_ap, kMt2_ap, kMt_ap, kPut4_ap, kPut3_ap, kPut2_ap, kPut_ap, kExt2_ap, kExt_ap, kAsg2_ap, kAsg_ap, kFor_ap, kLc_ap, kSl3_ap, kSl2_ap, kSl_ap, kGs_ap, ok_seq, sq_next, sq_ret, sq_brk, sq_cont, ok_nop, ok_brk, ok_cont, ok_drop, ok_ret, ok_retN, ok_set, ok_var0, ok_varS, ok_c, ok_nil, ok_cons, ok_tup, ok_lst, ok_val, ok_new, ok_bin, ok_un, ok_call, ok_callL, ok_test, tst_bl, ok_notT, ok_andT, ok_orT, ok_if, ok_ifS, ok_and, ok_or, ok_not, ok_mt, ok_put, ok_extend, pr2_mk, ok_par2, ok_asg, ok_for, ok_lc, ok_yes, ok_noPart, prt_int, ok_part, ok_sl, ok_gNm, ok_gTp, ok_gsN, ok_gsC, rg1_mk, rg2_mk, ok_rng1, ok_rng2, srcK_tup, srcK_ls, ok_src, finK_next, finK_ret, List.set_cons_zero, List.set_cons_succ, List.map_cons, List.map_nil, List.replicate, List.cons_append, List.nil_append, List.length_cons, List.length_nil, Bool.false_eq_true, eq_self, if_true, if_false, Nat.zero_add]
  refine ⟨decide_eq_true hl, ?_⟩
  refine ok_map (fun _ => true) (fun d => .bl (isWordD d)) (fun d hd => ?_) ?_
  · simp only [ok_ok, kDrop_ap, kRet_ap, kSet_ap, kCons2_ap, kCons_ap, kTup_ap, kLst_ap, kVal_ap, kNew_ap, kBin2_ap, kBin_ap, kUn_ap, kCall_ap, kCallL_ap, kNotT_ap, kAndT_ap, kOrT_ap, kIf_ap, kIfS_ap, kAnd_ap, kOr_ap, kNot_ap, kMt2_ap, kMt_ap, kPut4_ap, kPut3_ap, kPut2_ap, kPut_ap, kExt2_ap, kExt_ap, kAsg2_ap, kAsg_ap, kFor_ap, kLc_ap, kSl3_ap, kSl2_ap, kSl_ap, kGs_ap, ok_seq, sq_next, sq_ret, sq_brk, sq_cont, ok_nop, ok_brk, ok_cont, ok_drop, ok_ret, ok_retN, ok_set, ok_var0, ok_varS, ok_c, ok_nil, ok_cons, ok_tup, ok_lst, ok_val, ok_new, ok_bin, ok_un, ok_call, ok_callL, ok_test, tst_bl, ok_notT, ok_andT, ok_orT, ok_if, ok_ifS, ok_and, ok_or, ok_not, ok_mt, ok_put, ok_extend, pr2_mk, ok_par2, ok_asg, ok_for, ok_lc, ok_yes, ok_noPart, prt_int, ok_part, ok_sl, ok_gNm, ok_gTp, ok_gsN, ok_gsC, rg1_mk, rg2_mk, ok_rng1, ok_rng2, srcK_tup, srcK_ls, ok_src, finK_next, finK_ret, List.set_cons_zero, List.set_cons_succ, List.map_cons, List.map_nil, List.replicate, List.cons_append, List.nil_append, List.length_cons, List.length_nil, Bool.false_eq_true, eq_self, if_true, if_false, Nat.zero_add, wipeZ]
    exact ⟨trivial, hw d s _ (txtOk_ok (ht d hd)) ⟨rfl, rfl⟩⟩
  · rw [filter_yes, show ds.map (fun d => Dv.bl (isWordD d)) = (ds.map isWordD).map .bl by rw [List.map_map]; rfl]
    simp only [ok_ok, kDrop_ap, kRet_ap, kSet_ap, kCons2_ap, kCons_ap, kTup_ap, kLst_ap, kVal_ap, kNew_ap, kBin2_ap, kBin_ap, kUn_ap, kCall_ap, kCallL_ap, kNotT_ap, kAndT_ap, kOrT_ap, kIf_ap, kIfS_ap, kAnd_ap, kOr_ap, kNot_ap, kMt2_ap, kMt_ap, kPut4_ap, kPut3_ap, kPut2_ap, kPut_ap, kExt2_ap, kExt_ap, kAsg2_ap, kAsg_ap, kFor_ap, kLc_ap, kSl3_ap, kSl2_ap, kSl_ap, kGs_ap, ok_seq, sq_next, sq_ret, sq_brk, sq_cont, ok_nop, ok_brk, ok_cont, ok_drop, ok_ret, ok_retN, ok_set, ok_var0, ok_varS, ok_c, ok_nil, ok_cons, ok_tup, ok_lst, ok_val, ok_new, ok_bin, ok_un, ok_call, ok_callL, ok_test, tst_bl, ok_notT, ok_andT, ok_orT, ok_if, ok_ifS, ok_and, ok_or, ok_not, ok_mt, ok_put, ok_extend, pr2_mk, ok_par2, ok_asg, ok_for, ok_lc, ok_yes, ok_noPart, prt_int, ok_part, ok_sl, ok_gNm, ok_gTp, ok_gsN, ok_gsC, rg1_mk, rg2_mk, ok_rng1, ok_rng2, srcK_tup, srcK_ls, ok_src, finK_next, finK_ret, List.set_cons_zero, List.set_cons_succ, List.map_cons, List.map_nil, List.replicate, List.cons_append, List.nil_append, List.length_cons, List.length_nil, Bool.false_eq_true, eq_self, if_true, if_false, Nat.zero_add, all_ls]
    refine fin_any (fun n => nofun) ?_
    rw [List.all_map]; exact h
def bLaid (φn φw : Phi) : Fn Ct :=
  fRet (fAnd (fIsi "tuple" (fVar 0)) (fAnd (fBin gEq (fCall gLen (fCons (fVar 0) (fNil))) (fC (.int 2))) (fAnd (fCall φw (fCons (fBin gIx (fVar 0) (fC (.int 0))) (fNil))) (fCall φn (fCons (fBin gIx (fVar 0) (fC (.int 1))) (fNil))))))
theorem laid_spec {φn φw : Phi} (hn : NumberS φn) (hw : WordS φw) {x : Str × Int} {s : Sto} {T : Dv → Sto → Prop} (hx : isWordS x.1 = true) (h : T (.bl true) s) : Ok (fDef 1 1 (bLaid φn φw) [encL x] s) T := by
  have hl : x.1.length ≤ 16777216 := by
    have : x.1.length ≤ 8 := by
      unfold isWordS at hx
      simp only [Bool.and_eq_true, decide_eq_true_eq] at hx
      exact hx.1.2
    omega
  rw [ok_def]
  refine ⟨rfl, ?_⟩
  unfold bLaid encL
  simp only [ok_ok, kDrop_ap, kRet_ap, kSet_ap, kCons2_ap, kCons_ap, kTup_ap, kLst_ap, kVal_ap, kNew_ap, kBin2_ap, kBin_ap, kUn_ap, kCall_ap, kCallL_ap, kNotT_ap, kAndT_ap, kOrT_ap, kIf_ap, kIfS_ap, kAnd_ap, kOr_ap, kNot_ap, kMt2_ap, kMt_ap, kPut4_ap, kPut3_ap, kPut2_ap, kPut_ap, kExt2_ap, kExt_ap, kAsg2_ap, kAsg_ap, kFor_ap, kLc_ap, kSl3_ap, kSl2_ap, kSl_ap, kGs_ap, ok_seq, sq_next, sq_ret, sq_brk, sq_cont, ok_nop, ok_brk, ok_cont, ok_drop, ok_ret, ok_retN, ok_set, ok_var0, ok_varS, ok_c, ok_nil, ok_cons, ok_tup, ok_lst, ok_val, ok_new, ok_bin, ok_un, ok_call, ok_callL, ok_test, tst_bl, ok_notT, ok_andT, ok_orT, ok_if, ok_ifS, ok_and, ok_or, ok_not, ok_mt, ok_put, ok_extend, pr2_mk, ok_par2, ok_asg, ok_for, ok_lc, ok_yes, ok_noPart, prt_int, ok_part, ok_sl, ok_gNm, ok_gTp, ok_gsN, ok_gsC, rg1_mk, rg2_mk, ok_rng1, ok_rng2, srcK_tup, srcK_ls, ok_src, finK_next, finK_ret, List.set_cons_zero, List.set_cons_succ, List.map_cons, List.map_nil, List.replicate, List.cons_append, List.nil_append, List.length_cons, List.length_nil, Bool.false_eq_true, eq_self, if_true, if_false, Nat.zero_add, ok_isi, kIsi_ap]
  rw [show isiB (tyD (.tup [Dv.str x.1, Dv.int x.2]) s) "tuple" = true by simp [tyD, isiB]]
  simp only [ok_ok, kDrop_ap, kRet_ap, kSet_ap, kCons2_ap, kCons_ap, kTup_ap, kLst_ap, kVal_ap, kNew_ap, kBin2_ap, kBin_ap, kUn_ap, kCall_ap, kCallL_ap, kNotT_ap, kAndT_ap, kOrT_ap, kIf_ap, kIfS_ap, kAnd_ap, kOr_ap, kNot_ap, kMt2_ap, kMt_ap, kPut4_ap, kPut3_ap, kPut2_ap, kPut_ap, kExt2_ap, kExt_ap, kAsg2_ap, kAsg_ap, kFor_ap, kLc_ap, kSl3_ap, kSl2_ap, kSl_ap, kGs_ap, ok_seq, sq_next, sq_ret, sq_brk, sq_cont, ok_nop, ok_brk, ok_cont, ok_drop, ok_ret, ok_retN, ok_set, ok_var0, ok_varS, ok_c, ok_nil, ok_cons, ok_tup, ok_lst, ok_val, ok_new, ok_bin, ok_un, ok_call, ok_callL, ok_test, tst_bl, ok_notT, ok_andT, ok_orT, ok_if, ok_ifS, ok_and, ok_or, ok_not, ok_mt, ok_put, ok_extend, pr2_mk, ok_par2, ok_asg, ok_for, ok_lc, ok_yes, ok_noPart, prt_int, ok_part, ok_sl, ok_gNm, ok_gTp, ok_gsN, ok_gsC, rg1_mk, rg2_mk, ok_rng1, ok_rng2, srcK_tup, srcK_ls, ok_src, finK_next, finK_ret, List.set_cons_zero, List.set_cons_succ, List.map_cons, List.map_nil, List.replicate, List.cons_append, List.nil_append, List.length_cons, List.length_nil, Bool.false_eq_true, eq_self, if_true, if_false, Nat.zero_add, len_tup, eq_int]
  rw [show (((0 + 1 + 1 : Nat) : Int) == 2) = true by decide]
  simp only [ok_ok, kDrop_ap, kRet_ap, kSet_ap, kCons2_ap, kCons_ap, kTup_ap, kLst_ap, kVal_ap, kNew_ap, kBin2_ap, kBin_ap, kUn_ap, kCall_ap, kCallL_ap, kNotT_ap, kAndT_ap, kOrT_ap, kIf_ap, kIfS_ap, kAnd_ap, kOr_ap, kNot_ap, kMt2_ap, kMt_ap, kPut4_ap, kPut3_ap, kPut2_ap, kPut_ap, kExt2_ap, kExt_ap, kAsg2_ap, kAsg_ap, kFor_ap, kLc_ap, kSl3_ap, kSl2_ap, kSl_ap, kGs_ap, ok_seq, sq_next, sq_ret, sq_brk, sq_cont, ok_nop, ok_brk, ok_cont, ok_drop, ok_ret, ok_retN, ok_set, ok_var0, ok_varS, ok_c, ok_nil, ok_cons, ok_tup, ok_lst, ok_val, ok_new, ok_bin, ok_un, ok_call, ok_callL, ok_test, tst_bl, ok_notT, ok_andT, ok_orT, ok_if, ok_ifS, ok_and, ok_or, ok_not, ok_mt, ok_put, ok_extend, pr2_mk, ok_par2, ok_asg, ok_for, ok_lc, ok_yes, ok_noPart, prt_int, ok_part, ok_sl, ok_gNm, ok_gTp, ok_gsN, ok_gsC, rg1_mk, rg2_mk, ok_rng1, ok_rng2, srcK_tup, srcK_ls, ok_src, finK_next, finK_ret, List.set_cons_zero, List.set_cons_succ, List.map_cons, List.map_nil, List.replicate, List.cons_append, List.nil_append, List.length_cons, List.length_nil, Bool.false_eq_true, eq_self, if_true, if_false, Nat.zero_add, ix_first]
  refine hw _ _ _ (fun z e => by cases e; exact hl) ?_
  rw [show isWordD (.str x.1) = true from hx]
  simp only [ok_ok, kDrop_ap, kRet_ap, kSet_ap, kCons2_ap, kCons_ap, kTup_ap, kLst_ap, kVal_ap, kNew_ap, kBin2_ap, kBin_ap, kUn_ap, kCall_ap, kCallL_ap, kNotT_ap, kAndT_ap, kOrT_ap, kIf_ap, kIfS_ap, kAnd_ap, kOr_ap, kNot_ap, kMt2_ap, kMt_ap, kPut4_ap, kPut3_ap, kPut2_ap, kPut_ap, kExt2_ap, kExt_ap, kAsg2_ap, kAsg_ap, kFor_ap, kLc_ap, kSl3_ap, kSl2_ap, kSl_ap, kGs_ap, ok_seq, sq_next, sq_ret, sq_brk, sq_cont, ok_nop, ok_brk, ok_cont, ok_drop, ok_ret, ok_retN, ok_set, ok_var0, ok_varS, ok_c, ok_nil, ok_cons, ok_tup, ok_lst, ok_val, ok_new, ok_bin, ok_un, ok_call, ok_callL, ok_test, tst_bl, ok_notT, ok_andT, ok_orT, ok_if, ok_ifS, ok_and, ok_or, ok_not, ok_mt, ok_put, ok_extend, pr2_mk, ok_par2, ok_asg, ok_for, ok_lc, ok_yes, ok_noPart, prt_int, ok_part, ok_sl, ok_gNm, ok_gTp, ok_gsN, ok_gsC, rg1_mk, rg2_mk, ok_rng1, ok_rng2, srcK_tup, srcK_ls, ok_src, finK_next, finK_ret, List.set_cons_zero, List.set_cons_succ, List.map_cons, List.map_nil, List.replicate, List.cons_append, List.nil_append, List.length_cons, List.length_nil, Bool.false_eq_true, eq_self, if_true, if_false, Nat.zero_add, ix_second]
  refine hn _ _ _ ?_
  exact fin_any (fun n => nofun) h
def LaidS (φ : Phi) : Prop := ∀ (x : Str × Int) (s : Sto) (T : Dv → Sto → Prop), isWordS x.1 = true → T (.bl true) s → Ok (φ [encL x] s) T
def AreWordsS (φ : Phi) : Prop := ∀ (ds : List Dv) (s : Sto) (T : Dv → Sto → Prop), (∀ d ∈ ds, txtOk d = true) → ds.length < 16777216 → T (.bl (ds.all isWordD)) s → Ok (φ [.tup ds] s) T
def bShaped (φl φa : Phi) : Fn Ct :=
  fSeq (fIfS (fOrT (fNotT (fTest (fIsi "tuple" (fVar 0)))) (fOrT (fTest (fBin gNe (fCall gLen (fCons (fVar 0) (fNil))) (fC (.int 2)))) (fNotT (fTest (fIsi "tuple" (fBin gIx (fVar 0) (fC (.int 0)))))))) (fRet (fC (.bl false))) (fNop))
  (fRet (fAnd (fCall gAll (fCons (fVal (fLc (fSrc (fBin gIx (fVar 0) (fC (.int 0)))) [1] (gNm 1) (fYes) (fCall φl (fCons (fVar 1) (fNil))))) (fNil))) (fCall φa (fCons (fBin gIx (fVar 0) (fC (.int 1))) (fNil)))))
theorem isi_tup {ds : List Dv} {s : Sto} : isiB (tyD (.tup ds) s) "tuple" = true := by simp [tyD, isiB]
theorem ne2_false : (!(((0 + 1 + 1 : Nat) : Int) == 2)) = false := by decide
theorem word_len {z : Str} (h : isWordS z = true) : z.length ≤ 16777216 := by
  have : z.length ≤ 8 := by
    unfold isWordS at h
    simp only [Bool.and_eq_true, decide_eq_true_eq] at h
    exact h.1.2
  omega
theorem shaped_spec {φl φa : Phi} (hl : LaidS φl) (ha : AreWordsS φa) {laid : List (Str × Int)} {ds : List Str} {s : Sto} {T : Dv → Sto → Prop} (h1 : ∀ x ∈ laid, isWordS x.1 = true) (h2 : ∀ x ∈ ds, isWordS x = true) (h3 : laid.length < 16777216) (h4 : ds.length < 16777216) (h : T (.bl true) s) :
    Ok (fDef 1 2 (bShaped φl φa) [encE laid ds] s) T := by
  rw [ok_def]
  refine ⟨rfl, ?_⟩
  unfold bShaped encE
  simp only [ok_ok, kDrop_ap, kRet_ap, kSet_ap, kCons2_ap, kCons_ap, kTup_ap, kLst_ap, kVal_ap, kNew_ap, kBin2_ap, kBin_ap, kUn_ap, kCall_ap, kCallL_ap, kNotT_ap, kAndT_ap, kOrT_ap, kIf_ap, kIfS_ap, kAnd_ap, kOr_ap, kNot_ap, kMt2_ap, kMt_ap, kPut4_ap, kPut3_ap, kPut2_ap, kPut_ap, kExt2_ap, kExt_ap, kAsg2_ap, kAsg_ap, kFor_ap, kLc_ap, kSl3_ap, kSl2_ap, kSl_ap, kGs_ap, ok_seq, sq_next, sq_ret, sq_brk, sq_cont, ok_nop, ok_brk, ok_cont, ok_drop, ok_ret, ok_retN, ok_set, ok_var0, ok_varS, ok_c, ok_nil, ok_cons, ok_tup, ok_lst, ok_val, ok_new, ok_bin, ok_un, ok_call, ok_callL, ok_test, tst_bl, ok_notT, ok_andT, ok_orT, ok_if, ok_ifS, ok_and, ok_or, ok_not, ok_mt, ok_put, ok_extend, pr2_mk, ok_par2, ok_asg, ok_for, ok_lc, ok_yes, ok_noPart, prt_int, ok_part, ok_sl, ok_gNm, ok_gTp, ok_gsN, ok_gsC, rg1_mk, rg2_mk, ok_rng1, ok_rng2, srcK_tup, srcK_ls, ok_src, finK_next, finK_ret, List.set_cons_zero, List.set_cons_succ, List.map_cons, List.map_nil, List.replicate, List.cons_append, List.nil_append, List.length_cons, List.length_nil, Bool.false_eq_true, eq_self, if_true, if_false, Nat.zero_add, ok_isi, kIsi_ap, isi_tup, Bool.not_true, len_tup, ne_int, ne2_false, ix_first]
  refine ⟨decide_eq_true (by rw [List.length_map]; exact h3), ?_⟩
  refine ok_map (fun _ => true) (fun _ => .bl true) (fun d hd => ?_) ?_
  · obtain ⟨x, hx, rfl⟩ := List.mem_map.mp hd
    simp only [ok_ok, kDrop_ap, kRet_ap, kSet_ap, kCons2_ap, kCons_ap, kTup_ap, kLst_ap, kVal_ap, kNew_ap, kBin2_ap, kBin_ap, kUn_ap, kCall_ap, kCallL_ap, kNotT_ap, kAndT_ap, kOrT_ap, kIf_ap, kIfS_ap, kAnd_ap, kOr_ap, kNot_ap, kMt2_ap, kMt_ap, kPut4_ap, kPut3_ap, kPut2_ap, kPut_ap, kExt2_ap, kExt_ap, kAsg2_ap, kAsg_ap, kFor_ap, kLc_ap, kSl3_ap, kSl2_ap, kSl_ap, kGs_ap, ok_seq, sq_next, sq_ret, sq_brk, sq_cont, ok_nop, ok_brk, ok_cont, ok_drop, ok_ret, ok_retN, ok_set, ok_var0, ok_varS, ok_c, ok_nil, ok_cons, ok_tup, ok_lst, ok_val, ok_new, ok_bin, ok_un, ok_call, ok_callL, ok_test, tst_bl, ok_notT, ok_andT, ok_orT, ok_if, ok_ifS, ok_and, ok_or, ok_not, ok_mt, ok_put, ok_extend, pr2_mk, ok_par2, ok_asg, ok_for, ok_lc, ok_yes, ok_noPart, prt_int, ok_part, ok_sl, ok_gNm, ok_gTp, ok_gsN, ok_gsC, rg1_mk, rg2_mk, ok_rng1, ok_rng2, srcK_tup, srcK_ls, ok_src, finK_next, finK_ret, List.set_cons_zero, List.set_cons_succ, List.map_cons, List.map_nil, List.replicate, List.cons_append, List.nil_append, List.length_cons, List.length_nil, Bool.false_eq_true, eq_self, if_true, if_false, Nat.zero_add, wipeZ]
    exact ⟨trivial, hl x s _ (h1 x hx) ⟨rfl, rfl⟩⟩
  · rw [filter_yes, show (laid.map encL).map (fun _ => Dv.bl true) = ((laid.map fun _ => true)).map .bl by rw [List.map_map, List.map_map]; rfl]
    simp only [ok_ok, kDrop_ap, kRet_ap, kSet_ap, kCons2_ap, kCons_ap, kTup_ap, kLst_ap, kVal_ap, kNew_ap, kBin2_ap, kBin_ap, kUn_ap, kCall_ap, kCallL_ap, kNotT_ap, kAndT_ap, kOrT_ap, kIf_ap, kIfS_ap, kAnd_ap, kOr_ap, kNot_ap, kMt2_ap, kMt_ap, kPut4_ap, kPut3_ap, kPut2_ap, kPut_ap, kExt2_ap, kExt_ap, kAsg2_ap, kAsg_ap, kFor_ap, kLc_ap, kSl3_ap, kSl2_ap, kSl_ap, kGs_ap, ok_seq, sq_next, sq_ret, sq_brk, sq_cont, ok_nop, ok_brk, ok_cont, ok_drop, ok_ret, ok_retN, ok_set, ok_var0, ok_varS, ok_c, ok_nil, ok_cons, ok_tup, ok_lst, ok_val, ok_new, ok_bin, ok_un, ok_call, ok_callL, ok_test, tst_bl, ok_notT, ok_andT, ok_orT, ok_if, ok_ifS, ok_and, ok_or, ok_not, ok_mt, ok_put, ok_extend, pr2_mk, ok_par2, ok_asg, ok_for, ok_lc, ok_yes, ok_noPart, prt_int, ok_part, ok_sl, ok_gNm, ok_gTp, ok_gsN, ok_gsC, rg1_mk, rg2_mk, ok_rng1, ok_rng2, srcK_tup, srcK_ls, ok_src, finK_next, finK_ret, List.set_cons_zero, List.set_cons_succ, List.map_cons, List.map_nil, List.replicate, List.cons_append, List.nil_append, List.length_cons, List.length_nil, Bool.false_eq_true, eq_self, if_true, if_false, Nat.zero_add, all_ls]
    rw [show ((laid.map fun _ => true).all id) = true by rw [List.all_map]; exact List.all_eq_true.mpr fun _ _ => rfl]
    simp only [ok_ok, kDrop_ap, kRet_ap, kSet_ap, kCons2_ap, kCons_ap, kTup_ap, kLst_ap, kVal_ap, kNew_ap, kBin2_ap, kBin_ap, kUn_ap, kCall_ap, kCallL_ap, kNotT_ap, kAndT_ap, kOrT_ap, kIf_ap, kIfS_ap, kAnd_ap, kOr_ap, kNot_ap, kMt2_ap, kMt_ap, kPut4_ap, kPut3_ap, kPut2_ap, kPut_ap, kExt2_ap, kExt_ap, kAsg2_ap, kAsg_ap, kFor_ap, kLc_ap, kSl3_ap, kSl2_ap, kSl_ap, kGs_ap, ok_seq, sq_next, sq_ret, sq_brk, sq_cont, ok_nop, ok_brk, ok_cont, ok_drop, ok_ret, ok_retN, ok_set, ok_var0, ok_varS, ok_c, ok_nil, ok_cons, ok_tup, ok_lst, ok_val, ok_new, ok_bin, ok_un, ok_call, ok_callL, ok_test, tst_bl, ok_notT, ok_andT, ok_orT, ok_if, ok_ifS, ok_and, ok_or, ok_not, ok_mt, ok_put, ok_extend, pr2_mk, ok_par2, ok_asg, ok_for, ok_lc, ok_yes, ok_noPart, prt_int, ok_part, ok_sl, ok_gNm, ok_gTp, ok_gsN, ok_gsC, rg1_mk, rg2_mk, ok_rng1, ok_rng2, srcK_tup, srcK_ls, ok_src, finK_next, finK_ret, List.set_cons_zero, List.set_cons_succ, List.map_cons, List.map_nil, List.replicate, List.cons_append, List.nil_append, List.length_cons, List.length_nil, Bool.false_eq_true, eq_self, if_true, if_false, Nat.zero_add, ix_second, encS]
    refine ha _ _ _ (fun d hd => ?_) (by rw [List.length_map]; exact h4) ?_
    · obtain ⟨x, hx, rfl⟩ := List.mem_map.mp hd
      exact decide_eq_true (word_len (h2 x hx))
    · rw [show (ds.map Dv.str).all isWordD = true by rw [List.all_map]; exact List.all_eq_true.mpr fun x hx => h2 x hx]
      exact fin_any (fun n => nofun) h
def bLeast : Fn Ct := fRet (fCall (gTwo fun i j => if j > i then j else i) (fCons (fC (.int 0)) (fCons (fBin gSub (fBin gIx (fVar 0) (fC (.int 1))) (fBin gIx (fVar 0) (fC (.int 2)))) (fNil))))
def bGreat : Fn Ct := fRet (fBin gAdd (fBin gIx (fVar 0) (fC (.int 1))) (fBin gIx (fVar 0) (fC (.int 2))))
def Pil.least (p : Pil) : Int := if p.many - p.slip > 0 then p.many - p.slip else 0
def LeastS (φ : Phi) : Prop := ∀ (p : Pil) (s : Sto) (T : Dv → Sto → Prop), T (.int p.least) s → Ok (φ [encP p] s) T
def GreatS (φ : Phi) : Prop := ∀ (p : Pil) (s : Sto) (T : Dv → Sto → Prop), T (.int (p.many + p.slip)) s → Ok (φ [encP p] s) T
theorem two_ok {g : Int → Int → Int} {i j : Int} {s : Sto} : gTwo g [.int i, .int j] s = .ok (.int (g i j)) s := rfl
theorem least_spec : LeastS (fDef 1 1 bLeast) := by
  intro p s T h
  rw [ok_def]
  refine ⟨rfl, ?_⟩
  unfold bLeast encP
  simp only [ok_ok, kDrop_ap, kRet_ap, kSet_ap, kCons2_ap, kCons_ap, kTup_ap, kLst_ap, kVal_ap, kNew_ap, kBin2_ap, kBin_ap, kUn_ap, kCall_ap, kCallL_ap, kNotT_ap, kAndT_ap, kOrT_ap, kIf_ap, kIfS_ap, kAnd_ap, kOr_ap, kNot_ap, kMt2_ap, kMt_ap, kPut4_ap, kPut3_ap, kPut2_ap, kPut_ap, kExt2_ap, kExt_ap, kAsg2_ap, kAsg_ap, kFor_ap, kLc_ap, kSl3_ap, kSl2_ap, kSl_ap, kGs_ap, ok_seq, sq_next, sq_ret, sq_brk, sq_cont, ok_nop, ok_brk, ok_cont, ok_drop, ok_ret, ok_retN, ok_set, ok_var0, ok_varS, ok_c, ok_nil, ok_cons, ok_tup, ok_lst, ok_val, ok_new, ok_bin, ok_un, ok_call, ok_callL, ok_test, tst_bl, ok_notT, ok_andT, ok_orT, ok_if, ok_ifS, ok_and, ok_or, ok_not, ok_mt, ok_put, ok_extend, pr2_mk, ok_par2, ok_asg, ok_for, ok_lc, ok_yes, ok_noPart, prt_int, ok_part, ok_sl, ok_gNm, ok_gTp, ok_gsN, ok_gsC, rg1_mk, rg2_mk, ok_rng1, ok_rng2, srcK_tup, srcK_ls, ok_src, finK_next, finK_ret, List.set_cons_zero, List.set_cons_succ, List.map_cons, List.map_nil, List.replicate, List.cons_append, List.nil_append, List.length_cons, List.length_nil, Bool.false_eq_true, eq_self, if_true, if_false, Nat.zero_add, ix_second, ix_third, sub_int, two_ok]
  exact fin_any (fun n => nofun) h
theorem great_spec : GreatS (fDef 1 1 bGreat) := by
  intro p s T h
  rw [ok_def]
  refine ⟨rfl, ?_⟩
  unfold bGreat encP
  simp only [ok_ok, kDrop_ap, kRet_ap, kSet_ap, kCons2_ap, kCons_ap, kTup_ap, kLst_ap, kVal_ap, kNew_ap, kBin2_ap, kBin_ap, kUn_ap, kCall_ap, kCallL_ap, kNotT_ap, kAndT_ap, kOrT_ap, kIf_ap, kIfS_ap, kAnd_ap, kOr_ap, kNot_ap, kMt2_ap, kMt_ap, kPut4_ap, kPut3_ap, kPut2_ap, kPut_ap, kExt2_ap, kExt_ap, kAsg2_ap, kAsg_ap, kFor_ap, kLc_ap, kSl3_ap, kSl2_ap, kSl_ap, kGs_ap, ok_seq, sq_next, sq_ret, sq_brk, sq_cont, ok_nop, ok_brk, ok_cont, ok_drop, ok_ret, ok_retN, ok_set, ok_var0, ok_varS, ok_c, ok_nil, ok_cons, ok_tup, ok_lst, ok_val, ok_new, ok_bin, ok_un, ok_call, ok_callL, ok_test, tst_bl, ok_notT, ok_andT, ok_orT, ok_if, ok_ifS, ok_and, ok_or, ok_not, ok_mt, ok_put, ok_extend, pr2_mk, ok_par2, ok_asg, ok_for, ok_lc, ok_yes, ok_noPart, prt_int, ok_part, ok_sl, ok_gNm, ok_gTp, ok_gsN, ok_gsC, rg1_mk, rg2_mk, ok_rng1, ok_rng2, srcK_tup, srcK_ls, ok_src, finK_next, finK_ret, List.set_cons_zero, List.set_cons_succ, List.map_cons, List.map_nil, List.replicate, List.cons_append, List.nil_append, List.length_cons, List.length_nil, Bool.false_eq_true, eq_self, if_true, if_false, Nat.zero_add, ix_second, ix_third, add_int]
  exact fin_any (fun n => nofun) h
def bFaultN (φl φg : Phi) : Fn Ct := fIfS (fNotT (fTest (fChain gLe gLe (fCall φl (fCons (fVar 5) (fNil))) (fBin gIx (fBin gIx (fVar 2) (fVar 4)) (fC (.int 1))) (fCall φg (fCons (fVar 5) (fNil)))))) (fRet (fTup (fCons (fC (.str (Str.ofString "number"))) (fCons (fVar 4) (fNil))))) (fNop)
def bFault (φl φg : Phi) : Fn Ct :=
  fSeq (fAsg (fVar 1) (gTp 2 (gsCons (gNm 2) (gsCons (gNm 3) (gsNil)))))
  (fSeq (fIfS (fTest (fBin gNe (fCall gLen (fCons (fVar 2) (fNil))) (fCall gLen (fCons (fBin gIx (fVar 0) (fC (.int 1))) (fNil))))) (fRet (fTup (fCons (fC (.str (Str.ofString "piles"))) (fCons (fUn gNeg (fC (.int 1))) (fNil))))) (fNop))
  (fSeq (fFor (fEnum (fCons (fBin gIx (fVar 0) (fC (.int 1))) (fNil))) (gTp 2 (gsCons (gNm 4) (gsCons (gNm 5) (gsNil)))) (fSeq (fIfS (fAndT (fTest (fBin gNe (fBin gIx (fBin gIx (fVar 2) (fVar 4)) (fC (.int 0))) (fBin gIx (fVar 5) (fC (.int 0))))) (fTest (fBin gNotIn (fBin gIx (fBin gIx (fVar 2) (fVar 4)) (fC (.int 0))) (fBin gIx (fVar 5) (fC (.int 3)))))) (fRet (fTup (fCons (fC (.str (Str.ofString "name"))) (fCons (fVar 4) (fNil))))) (fNop))
  (bFaultN φl φg)))
  (fSeq (fIfS (fTest (fBin gNe (fCall gLen (fCons (fVar 3) (fNil))) (fCall gLen (fCons (fBin gIx (fVar 0) (fC (.int 2))) (fNil))))) (fRet (fTup (fCons (fC (.str (Str.ofString "doubts"))) (fCons (fUn gNeg (fC (.int 1))) (fNil))))) (fNop))
  (fSeq (fFor (fEnum (fCons (fBin gIx (fVar 0) (fC (.int 2))) (fNil))) (gTp 2 (gsCons (gNm 4) (gsCons (gNm 6) (gsNil)))) (fIfS (fTest (fBin gNotIn (fBin gIx (fVar 3) (fVar 4)) (fVar 6))) (fRet (fTup (fCons (fC (.str (Str.ofString "given"))) (fCons (fVar 4) (fNil))))) (fNop)))
  (fRet (fC .non))))))
/-- an end that the count lets pass -/
structure Fits (c : Cnt) (laid : List (Str × Int)) (ds : List Str) : Prop where
  nl : laid.length = c.piles.length
  nd : ds.length = c.doubts.length
  name : ∀ (i : Nat) (x : Str × Int) (p : Pil), laid[i]? = some x → c.piles[i]? = some p → x.1 = p.name ∨ x.1 ∈ p.others
  num : ∀ (i : Nat) (x : Str × Int) (p : Pil), laid[i]? = some x → c.piles[i]? = some p → p.least ≤ x.2 ∧ x.2 ≤ p.many + p.slip
  dbt : ∀ (i : Nat) (x : Str) (d : List Str), ds[i]? = some x → c.doubts[i]? = some d → x ∈ d
theorem in_strs {x : Str} {xs : List Str} {s : Sto} : gIn (.str x) (encS xs) s = .ok (.bl (decide (x ∈ xs))) s := by
  have h : (xs.map Dv.str).mapM fV = some (xs.map V.str) := mapM_map (g := fV) (f := Dv.str) (h := V.str) (xs := xs) fun y _ => rfl
  show (match fV (.str x), (seqOf s (.tup (xs.map .str))).bind (·.mapM fV) with | some v, some vs => Rs.ok (Dv.bl (inV v vs)) s | _, _ => .bad) = _
  have e : (seqOf s (.tup (xs.map .str))).bind (·.mapM fV) = some (xs.map V.str) := h
  rw [e]
  show Rs.ok (Dv.bl (inV (.str x) (xs.map V.str))) s = _
  have e2 : inV (.str x) (xs.map V.str) = decide (x ∈ xs) := by
    unfold inV
    rw [List.any_map]
    rw [Bool.eq_iff_iff, List.any_eq_true, decide_eq_true_eq]
    constructor
    · rintro ⟨y, hy, e⟩
      have : y = x := by simpa [eqV] using e
      rw [← this]; exact hy
    · intro hx
      exact ⟨x, hx, by simp [eqV]⟩
  rw [e2]
theorem notin_strs {x : Str} {xs : List Str} {s : Sto} : gNotIn (.str x) (encS xs) s = .ok (.bl (!decide (x ∈ xs))) s := by
  show (gIn (.str x) (encS xs) s).bind _ = _
  rw [in_strs]; rfl
theorem get_map {α : Type} {f : α → Dv} {xs : List α} {i : Nat} {x : α} (h : xs[i]? = some x) : (xs.map f)[i]? = some (f x) := by rw [List.getElem?_map, h]; rfl
theorem ix_tupN {ds : List Dv} {i : Nat} {d : Dv} {s : Sto} (h : ds[i]? = some d) : gIx (.tup ds) (.int (i : Nat)) s = .ok d s := ix_tup (Int.natCast_nonneg i) (by rw [Int.toNat_natCast]; exact h)
theorem ix_lsN {ds : List Dv} {i : Nat} {d : Dv} {s : Sto} (h : ds[i]? = some d) : gIx (.ls ds) (.int (i : Nat)) s = .ok d s := ix_ls (Int.natCast_nonneg i) (by rw [Int.toNat_natCast]; exact h)
theorem ix_fourth {d e f g : Dv} {ds : List Dv} {s : Sto} : gIx (.tup (d :: e :: f :: g :: ds)) (.int 3) s = .ok g s := ix_tup (by decide) rfl
theorem fault_spec {φl φg : Phi} (hl : LeastS φl) (hg : GreatS φg) {c : Cnt} {laid : List (Str × Int)} {ds : List Str} (hf : Fits c laid ds) {s : Sto} {T : Dv → Sto → Prop} (h : T .non s) : Ok (fDef 2 7 (bFault φl φg) [encC c, encE laid ds] s) T := by
  rw [ok_def]
  refine ⟨rfl, ?_⟩
  unfold bFault encE
  simp only [ok_ok, kDrop_ap, kRet_ap, kSet_ap, kCons2_ap, kCons_ap, kTup_ap, kLst_ap, kVal_ap, kNew_ap, kBin2_ap, kBin_ap, kUn_ap, kCall_ap, kCallL_ap, kNotT_ap, kAndT_ap, kOrT_ap, kIf_ap, kIfS_ap, kAnd_ap, kOr_ap, kNot_ap, kMt2_ap, kMt_ap, kPut4_ap, kPut3_ap, kPut2_ap, kPut_ap, kExt2_ap, kExt_ap, kAsg2_ap, kAsg_ap, kFor_ap, kLc_ap, kSl3_ap, kSl2_ap, kSl_ap, kGs_ap, ok_seq, sq_next, sq_ret, sq_brk, sq_cont, ok_nop, ok_brk, ok_cont, ok_drop, ok_ret, ok_retN, ok_set, ok_var0, ok_varS, ok_c, ok_nil, ok_cons, ok_tup, ok_lst, ok_val, ok_new, ok_bin, ok_un, ok_call, ok_callL, ok_test, tst_bl, ok_notT, ok_andT, ok_orT, ok_if, ok_ifS, ok_and, ok_or, ok_not, ok_mt, ok_put, ok_extend, pr2_mk, ok_par2, ok_asg, ok_for, ok_lc, ok_yes, ok_noPart, prt_int, ok_part, ok_sl, ok_gNm, ok_gTp, ok_gsN, ok_gsC, rg1_mk, rg2_mk, ok_rng1, ok_rng2, srcK_tup, srcK_ls, ok_src, finK_next, finK_ret, List.set_cons_zero, List.set_cons_succ, List.map_cons, List.map_nil, List.replicate, List.cons_append, List.nil_append, List.length_cons, List.length_nil, Bool.false_eq_true, eq_self, if_true, if_false, Nat.zero_add]
  refine ⟨rfl, ?_⟩
  simp only [ok_ok, kDrop_ap, kRet_ap, kSet_ap, kCons2_ap, kCons_ap, kTup_ap, kLst_ap, kVal_ap, kNew_ap, kBin2_ap, kBin_ap, kUn_ap, kCall_ap, kCallL_ap, kNotT_ap, kAndT_ap, kOrT_ap, kIf_ap, kIfS_ap, kAnd_ap, kOr_ap, kNot_ap, kMt2_ap, kMt_ap, kPut4_ap, kPut3_ap, kPut2_ap, kPut_ap, kExt2_ap, kExt_ap, kAsg2_ap, kAsg_ap, kFor_ap, kLc_ap, kSl3_ap, kSl2_ap, kSl_ap, kGs_ap, ok_seq, sq_next, sq_ret, sq_brk, sq_cont, ok_nop, ok_brk, ok_cont, ok_drop, ok_ret, ok_retN, ok_set, ok_var0, ok_varS, ok_c, ok_nil, ok_cons, ok_tup, ok_lst, ok_val, ok_new, ok_bin, ok_un, ok_call, ok_callL, ok_test, tst_bl, ok_notT, ok_andT, ok_orT, ok_if, ok_ifS, ok_and, ok_or, ok_not, ok_mt, ok_put, ok_extend, pr2_mk, ok_par2, ok_asg, ok_for, ok_lc, ok_yes, ok_noPart, prt_int, ok_part, ok_sl, ok_gNm, ok_gTp, ok_gsN, ok_gsC, rg1_mk, rg2_mk, ok_rng1, ok_rng2, srcK_tup, srcK_ls, ok_src, finK_next, finK_ret, List.set_cons_zero, List.set_cons_succ, List.map_cons, List.map_nil, List.replicate, List.cons_append, List.nil_append, List.length_cons, List.length_nil, Bool.false_eq_true, eq_self, if_true, if_false, Nat.zero_add, encS, len_tup, encC, ix_second, ne_int, List.length_map, hf.nl, beq_self_eq_true, Bool.not_true, ok_enum]
  refine kEnum_tup ?_
  simp only [ok_ok, kDrop_ap, kRet_ap, kSet_ap, kCons2_ap, kCons_ap, kTup_ap, kLst_ap, kVal_ap, kNew_ap, kBin2_ap, kBin_ap, kUn_ap, kCall_ap, kCallL_ap, kNotT_ap, kAndT_ap, kOrT_ap, kIf_ap, kIfS_ap, kAnd_ap, kOr_ap, kNot_ap, kMt2_ap, kMt_ap, kPut4_ap, kPut3_ap, kPut2_ap, kPut_ap, kExt2_ap, kExt_ap, kAsg2_ap, kAsg_ap, kFor_ap, kLc_ap, kSl3_ap, kSl2_ap, kSl_ap, kGs_ap, ok_seq, sq_next, sq_ret, sq_brk, sq_cont, ok_nop, ok_brk, ok_cont, ok_drop, ok_ret, ok_retN, ok_set, ok_var0, ok_varS, ok_c, ok_nil, ok_cons, ok_tup, ok_lst, ok_val, ok_new, ok_bin, ok_un, ok_call, ok_callL, ok_test, tst_bl, ok_notT, ok_andT, ok_orT, ok_if, ok_ifS, ok_and, ok_or, ok_not, ok_mt, ok_put, ok_extend, pr2_mk, ok_par2, ok_asg, ok_for, ok_lc, ok_yes, ok_noPart, prt_int, ok_part, ok_sl, ok_gNm, ok_gTp, ok_gsN, ok_gsC, rg1_mk, rg2_mk, ok_rng1, ok_rng2, srcK_tup, srcK_ls, ok_src, finK_next, finK_ret, List.set_cons_zero, List.set_cons_succ, List.map_cons, List.map_nil, List.replicate, List.cons_append, List.nil_append, List.length_cons, List.length_nil, Bool.false_eq_true, eq_self, if_true, if_false, Nat.zero_add]
  refine ok_loop (fun i env s' => ∃ v4 v5 : Option Dv, env = [some (encC c), some (encE laid ds), some (.tup (laid.map encL)), some (encS ds), v4, v5, none] ∧ s' = s)
    (fun _ _ _ _ => rfl) (fun i d env s' hd h => ?_) (fun env s' h => ?_) ⟨_, _, rfl, rfl⟩
  · obtain ⟨v4, v5, rfl, rfl⟩ := h
    obtain ⟨e, hd2, rfl⟩ := enumD_get hd
    have hi : i < c.piles.length := by have := (List.getElem?_eq_some_iff.mp hd2).1; rwa [List.length_map] at this
    have hp := List.getElem?_eq_getElem hi
    rw [get_map (f := encP) hp] at hd2
    cases hd2
    have hx := List.getElem?_eq_getElem (l := laid) (i := i) (by rw [hf.nl]; exact hi)
    have h1 := hf.name i _ _ hx hp
    have h2 := hf.num i _ _ hx hp
    clear hd
    generalize laid[i]'(by rw [hf.nl]; exact hi) = x at hx h1 h2
    generalize c.piles[i] = p at hp h1 h2
    have rest : ∀ (R : Ct → Sto → Prop), R (.next [some (encC c), some (.tup [.tup (laid.map encL), .tup (ds.map .str)]), some (.tup (laid.map encL)), some (.tup (ds.map .str)), some (.int (i : Nat)), some (.tup [.str p.name, .int p.many, .int p.slip, .tup (p.others.map .str)]), none]) s' →
        Ok (bFaultN φl φg [some (encC c), some (.tup [.tup (laid.map encL), .tup (ds.map .str)]), some (.tup (laid.map encL)), some (.tup (ds.map .str)), some (.int (i : Nat)), some (.tup [.str p.name, .int p.many, .int p.slip, .tup (p.others.map .str)]), none] s') R := by
      intro R hR
      unfold bFaultN
      simp only [ok_ok, kDrop_ap, kRet_ap, kSet_ap, kCons2_ap, kCons_ap, kTup_ap, kLst_ap, kVal_ap, kNew_ap, kBin2_ap, kBin_ap, kUn_ap, kCall_ap, kCallL_ap, kNotT_ap, kAndT_ap, kOrT_ap, kIf_ap, kIfS_ap, kAnd_ap, kOr_ap, kNot_ap, kMt2_ap, kMt_ap, kPut4_ap, kPut3_ap, kPut2_ap, kPut_ap, kExt2_ap, kExt_ap, kAsg2_ap, kAsg_ap, kFor_ap, kLc_ap, kSl3_ap, kSl2_ap, kSl_ap, kGs_ap, ok_seq, sq_next, sq_ret, sq_brk, sq_cont, ok_nop, ok_brk, ok_cont, ok_drop, ok_ret, ok_retN, ok_set, ok_var0, ok_varS, ok_c, ok_nil, ok_cons, ok_tup, ok_lst, ok_val, ok_new, ok_bin, ok_un, ok_call, ok_callL, ok_test, tst_bl, ok_notT, ok_andT, ok_orT, ok_if, ok_ifS, ok_and, ok_or, ok_not, ok_mt, ok_put, ok_extend, pr2_mk, ok_par2, ok_asg, ok_for, ok_lc, ok_yes, ok_noPart, prt_int, ok_part, ok_sl, ok_gNm, ok_gTp, ok_gsN, ok_gsC, rg1_mk, rg2_mk, ok_rng1, ok_rng2, srcK_tup, srcK_ls, ok_src, finK_next, finK_ret, List.set_cons_zero, List.set_cons_succ, List.map_cons, List.map_nil, List.replicate, List.cons_append, List.nil_append, List.length_cons, List.length_nil, Bool.false_eq_true, eq_self, if_true, if_false, Nat.zero_add, ok_chain]
      refine hl p s' _ ?_
      simp only [ok_ok, kDrop_ap, kRet_ap, kSet_ap, kCons2_ap, kCons_ap, kTup_ap, kLst_ap, kVal_ap, kNew_ap, kBin2_ap, kBin_ap, kUn_ap, kCall_ap, kCallL_ap, kNotT_ap, kAndT_ap, kOrT_ap, kIf_ap, kIfS_ap, kAnd_ap, kOr_ap, kNot_ap, kMt2_ap, kMt_ap, kPut4_ap, kPut3_ap, kPut2_ap, kPut_ap, kExt2_ap, kExt_ap, kAsg2_ap, kAsg_ap, kFor_ap, kLc_ap, kSl3_ap, kSl2_ap, kSl_ap, kGs_ap, ok_seq, sq_next, sq_ret, sq_brk, sq_cont, ok_nop, ok_brk, ok_cont, ok_drop, ok_ret, ok_retN, ok_set, ok_var0, ok_varS, ok_c, ok_nil, ok_cons, ok_tup, ok_lst, ok_val, ok_new, ok_bin, ok_un, ok_call, ok_callL, ok_test, tst_bl, ok_notT, ok_andT, ok_orT, ok_if, ok_ifS, ok_and, ok_or, ok_not, ok_mt, ok_put, ok_extend, pr2_mk, ok_par2, ok_asg, ok_for, ok_lc, ok_yes, ok_noPart, prt_int, ok_part, ok_sl, ok_gNm, ok_gTp, ok_gsN, ok_gsC, rg1_mk, rg2_mk, ok_rng1, ok_rng2, srcK_tup, srcK_ls, ok_src, finK_next, finK_ret, List.set_cons_zero, List.set_cons_succ, List.map_cons, List.map_nil, List.replicate, List.cons_append, List.nil_append, List.length_cons, List.length_nil, Bool.false_eq_true, eq_self, if_true, if_false, Nat.zero_add, kChain_ap, ix_tupN (get_map (f := encL) hx), encL, ix_second, kChain2_ap, Z.le_int]
      rw [decide_eq_true h2.1]
      simp only [ok_ok, kDrop_ap, kRet_ap, kSet_ap, kCons2_ap, kCons_ap, kTup_ap, kLst_ap, kVal_ap, kNew_ap, kBin2_ap, kBin_ap, kUn_ap, kCall_ap, kCallL_ap, kNotT_ap, kAndT_ap, kOrT_ap, kIf_ap, kIfS_ap, kAnd_ap, kOr_ap, kNot_ap, kMt2_ap, kMt_ap, kPut4_ap, kPut3_ap, kPut2_ap, kPut_ap, kExt2_ap, kExt_ap, kAsg2_ap, kAsg_ap, kFor_ap, kLc_ap, kSl3_ap, kSl2_ap, kSl_ap, kGs_ap, ok_seq, sq_next, sq_ret, sq_brk, sq_cont, ok_nop, ok_brk, ok_cont, ok_drop, ok_ret, ok_retN, ok_set, ok_var0, ok_varS, ok_c, ok_nil, ok_cons, ok_tup, ok_lst, ok_val, ok_new, ok_bin, ok_un, ok_call, ok_callL, ok_test, tst_bl, ok_notT, ok_andT, ok_orT, ok_if, ok_ifS, ok_and, ok_or, ok_not, ok_mt, ok_put, ok_extend, pr2_mk, ok_par2, ok_asg, ok_for, ok_lc, ok_yes, ok_noPart, prt_int, ok_part, ok_sl, ok_gNm, ok_gTp, ok_gsN, ok_gsC, rg1_mk, rg2_mk, ok_rng1, ok_rng2, srcK_tup, srcK_ls, ok_src, finK_next, finK_ret, List.set_cons_zero, List.set_cons_succ, List.map_cons, List.map_nil, List.replicate, List.cons_append, List.nil_append, List.length_cons, List.length_nil, Bool.false_eq_true, eq_self, if_true, if_false, Nat.zero_add, kChain3_t]
      refine hg p s' _ ?_
      simp only [ok_ok, kDrop_ap, kRet_ap, kSet_ap, kCons2_ap, kCons_ap, kTup_ap, kLst_ap, kVal_ap, kNew_ap, kBin2_ap, kBin_ap, kUn_ap, kCall_ap, kCallL_ap, kNotT_ap, kAndT_ap, kOrT_ap, kIf_ap, kIfS_ap, kAnd_ap, kOr_ap, kNot_ap, kMt2_ap, kMt_ap, kPut4_ap, kPut3_ap, kPut2_ap, kPut_ap, kExt2_ap, kExt_ap, kAsg2_ap, kAsg_ap, kFor_ap, kLc_ap, kSl3_ap, kSl2_ap, kSl_ap, kGs_ap, ok_seq, sq_next, sq_ret, sq_brk, sq_cont, ok_nop, ok_brk, ok_cont, ok_drop, ok_ret, ok_retN, ok_set, ok_var0, ok_varS, ok_c, ok_nil, ok_cons, ok_tup, ok_lst, ok_val, ok_new, ok_bin, ok_un, ok_call, ok_callL, ok_test, tst_bl, ok_notT, ok_andT, ok_orT, ok_if, ok_ifS, ok_and, ok_or, ok_not, ok_mt, ok_put, ok_extend, pr2_mk, ok_par2, ok_asg, ok_for, ok_lc, ok_yes, ok_noPart, prt_int, ok_part, ok_sl, ok_gNm, ok_gTp, ok_gsN, ok_gsC, rg1_mk, rg2_mk, ok_rng1, ok_rng2, srcK_tup, srcK_ls, ok_src, finK_next, finK_ret, List.set_cons_zero, List.set_cons_succ, List.map_cons, List.map_nil, List.replicate, List.cons_append, List.nil_append, List.length_cons, List.length_nil, Bool.false_eq_true, eq_self, if_true, if_false, Nat.zero_add, kUn_ap, Z.le_int]
      rw [decide_eq_true h2.2]
      simp only [ok_ok, kDrop_ap, kRet_ap, kSet_ap, kCons2_ap, kCons_ap, kTup_ap, kLst_ap, kVal_ap, kNew_ap, kBin2_ap, kBin_ap, kUn_ap, kCall_ap, kCallL_ap, kNotT_ap, kAndT_ap, kOrT_ap, kIf_ap, kIfS_ap, kAnd_ap, kOr_ap, kNot_ap, kMt2_ap, kMt_ap, kPut4_ap, kPut3_ap, kPut2_ap, kPut_ap, kExt2_ap, kExt_ap, kAsg2_ap, kAsg_ap, kFor_ap, kLc_ap, kSl3_ap, kSl2_ap, kSl_ap, kGs_ap, ok_seq, sq_next, sq_ret, sq_brk, sq_cont, ok_nop, ok_brk, ok_cont, ok_drop, ok_ret, ok_retN, ok_set, ok_var0, ok_varS, ok_c, ok_nil, ok_cons, ok_tup, ok_lst, ok_val, ok_new, ok_bin, ok_un, ok_call, ok_callL, ok_test, tst_bl, ok_notT, ok_andT, ok_orT, ok_if, ok_ifS, ok_and, ok_or, ok_not, ok_mt, ok_put, ok_extend, pr2_mk, ok_par2, ok_asg, ok_for, ok_lc, ok_yes, ok_noPart, prt_int, ok_part, ok_sl, ok_gNm, ok_gTp, ok_gsN, ok_gsC, rg1_mk, rg2_mk, ok_rng1, ok_rng2, srcK_tup, srcK_ls, ok_src, finK_next, finK_ret, List.set_cons_zero, List.set_cons_succ, List.map_cons, List.map_nil, List.replicate, List.cons_append, List.nil_append, List.length_cons, List.length_nil, Bool.false_eq_true, eq_self, if_true, if_false, Nat.zero_add, Bool.not_true]
      exact hR
    simp only [ok_ok, kDrop_ap, kRet_ap, kSet_ap, kCons2_ap, kCons_ap, kTup_ap, kLst_ap, kVal_ap, kNew_ap, kBin2_ap, kBin_ap, kUn_ap, kCall_ap, kCallL_ap, kNotT_ap, kAndT_ap, kOrT_ap, kIf_ap, kIfS_ap, kAnd_ap, kOr_ap, kNot_ap, kMt2_ap, kMt_ap, kPut4_ap, kPut3_ap, kPut2_ap, kPut_ap, kExt2_ap, kExt_ap, kAsg2_ap, kAsg_ap, kFor_ap, kLc_ap, kSl3_ap, kSl2_ap, kSl_ap, kGs_ap, ok_seq, sq_next, sq_ret, sq_brk, sq_cont, ok_nop, ok_brk, ok_cont, ok_drop, ok_ret, ok_retN, ok_set, ok_var0, ok_varS, ok_c, ok_nil, ok_cons, ok_tup, ok_lst, ok_val, ok_new, ok_bin, ok_un, ok_call, ok_callL, ok_test, tst_bl, ok_notT, ok_andT, ok_orT, ok_if, ok_ifS, ok_and, ok_or, ok_not, ok_mt, ok_put, ok_extend, pr2_mk, ok_par2, ok_asg, ok_for, ok_lc, ok_yes, ok_noPart, prt_int, ok_part, ok_sl, ok_gNm, ok_gTp, ok_gsN, ok_gsC, rg1_mk, rg2_mk, ok_rng1, ok_rng2, srcK_tup, srcK_ls, ok_src, finK_next, finK_ret, List.set_cons_zero, List.set_cons_succ, List.map_cons, List.map_nil, List.replicate, List.cons_append, List.nil_append, List.length_cons, List.length_nil, Bool.false_eq_true, eq_self, if_true, if_false, Nat.zero_add, encP]
    refine ⟨rfl, ?_⟩
    simp only [ok_ok, kDrop_ap, kRet_ap, kSet_ap, kCons2_ap, kCons_ap, kTup_ap, kLst_ap, kVal_ap, kNew_ap, kBin2_ap, kBin_ap, kUn_ap, kCall_ap, kCallL_ap, kNotT_ap, kAndT_ap, kOrT_ap, kIf_ap, kIfS_ap, kAnd_ap, kOr_ap, kNot_ap, kMt2_ap, kMt_ap, kPut4_ap, kPut3_ap, kPut2_ap, kPut_ap, kExt2_ap, kExt_ap, kAsg2_ap, kAsg_ap, kFor_ap, kLc_ap, kSl3_ap, kSl2_ap, kSl_ap, kGs_ap, ok_seq, sq_next, sq_ret, sq_brk, sq_cont, ok_nop, ok_brk, ok_cont, ok_drop, ok_ret, ok_retN, ok_set, ok_var0, ok_varS, ok_c, ok_nil, ok_cons, ok_tup, ok_lst, ok_val, ok_new, ok_bin, ok_un, ok_call, ok_callL, ok_test, tst_bl, ok_notT, ok_andT, ok_orT, ok_if, ok_ifS, ok_and, ok_or, ok_not, ok_mt, ok_put, ok_extend, pr2_mk, ok_par2, ok_asg, ok_for, ok_lc, ok_yes, ok_noPart, prt_int, ok_part, ok_sl, ok_gNm, ok_gTp, ok_gsN, ok_gsC, rg1_mk, rg2_mk, ok_rng1, ok_rng2, srcK_tup, srcK_ls, ok_src, finK_next, finK_ret, List.set_cons_zero, List.set_cons_succ, List.map_cons, List.map_nil, List.replicate, List.cons_append, List.nil_append, List.length_cons, List.length_nil, Bool.false_eq_true, eq_self, if_true, if_false, Nat.zero_add, ix_tupN (get_map (f := encL) hx), encL, ix_first, Z.ne_str, encS]
    split
    · rename_i hne
      have hne : x.1 ≠ p.name := by simpa using hne
      have hm : x.1 ∈ p.others := h1.resolve_left hne
      have en : gNotIn (.str x.1) (.tup (p.others.map .str)) s' = .ok (.bl false) s' := by
        have := notin_strs (x := x.1) (xs := p.others) (s := s')
        rwa [decide_eq_true hm] at this
      simp only [ok_ok, kDrop_ap, kRet_ap, kSet_ap, kCons2_ap, kCons_ap, kTup_ap, kLst_ap, kVal_ap, kNew_ap, kBin2_ap, kBin_ap, kUn_ap, kCall_ap, kCallL_ap, kNotT_ap, kAndT_ap, kOrT_ap, kIf_ap, kIfS_ap, kAnd_ap, kOr_ap, kNot_ap, kMt2_ap, kMt_ap, kPut4_ap, kPut3_ap, kPut2_ap, kPut_ap, kExt2_ap, kExt_ap, kAsg2_ap, kAsg_ap, kFor_ap, kLc_ap, kSl3_ap, kSl2_ap, kSl_ap, kGs_ap, ok_seq, sq_next, sq_ret, sq_brk, sq_cont, ok_nop, ok_brk, ok_cont, ok_drop, ok_ret, ok_retN, ok_set, ok_var0, ok_varS, ok_c, ok_nil, ok_cons, ok_tup, ok_lst, ok_val, ok_new, ok_bin, ok_un, ok_call, ok_callL, ok_test, tst_bl, ok_notT, ok_andT, ok_orT, ok_if, ok_ifS, ok_and, ok_or, ok_not, ok_mt, ok_put, ok_extend, pr2_mk, ok_par2, ok_asg, ok_for, ok_lc, ok_yes, ok_noPart, prt_int, ok_part, ok_sl, ok_gNm, ok_gTp, ok_gsN, ok_gsC, rg1_mk, rg2_mk, ok_rng1, ok_rng2, srcK_tup, srcK_ls, ok_src, finK_next, finK_ret, List.set_cons_zero, List.set_cons_succ, List.map_cons, List.map_nil, List.replicate, List.cons_append, List.nil_append, List.length_cons, List.length_nil, Bool.false_eq_true, eq_self, if_true, if_false, Nat.zero_add, ix_fourth, en]
      exact rest _ ⟨_, _, rfl, rfl⟩
    · exact rest _ ⟨_, _, rfl, rfl⟩
  · obtain ⟨v4, v5, rfl, rfl⟩ := h
    simp only [ok_ok, kDrop_ap, kRet_ap, kSet_ap, kCons2_ap, kCons_ap, kTup_ap, kLst_ap, kVal_ap, kNew_ap, kBin2_ap, kBin_ap, kUn_ap, kCall_ap, kCallL_ap, kNotT_ap, kAndT_ap, kOrT_ap, kIf_ap, kIfS_ap, kAnd_ap, kOr_ap, kNot_ap, kMt2_ap, kMt_ap, kPut4_ap, kPut3_ap, kPut2_ap, kPut_ap, kExt2_ap, kExt_ap, kAsg2_ap, kAsg_ap, kFor_ap, kLc_ap, kSl3_ap, kSl2_ap, kSl_ap, kGs_ap, ok_seq, sq_next, sq_ret, sq_brk, sq_cont, ok_nop, ok_brk, ok_cont, ok_drop, ok_ret, ok_retN, ok_set, ok_var0, ok_varS, ok_c, ok_nil, ok_cons, ok_tup, ok_lst, ok_val, ok_new, ok_bin, ok_un, ok_call, ok_callL, ok_test, tst_bl, ok_notT, ok_andT, ok_orT, ok_if, ok_ifS, ok_and, ok_or, ok_not, ok_mt, ok_put, ok_extend, pr2_mk, ok_par2, ok_asg, ok_for, ok_lc, ok_yes, ok_noPart, prt_int, ok_part, ok_sl, ok_gNm, ok_gTp, ok_gsN, ok_gsC, rg1_mk, rg2_mk, ok_rng1, ok_rng2, srcK_tup, srcK_ls, ok_src, finK_next, finK_ret, List.set_cons_zero, List.set_cons_succ, List.map_cons, List.map_nil, List.replicate, List.cons_append, List.nil_append, List.length_cons, List.length_nil, Bool.false_eq_true, eq_self, if_true, if_false, Nat.zero_add, encS, len_tup, encC, ix_third, ne_int, List.length_map, hf.nd, beq_self_eq_true, Bool.not_true, ok_enum]
    refine kEnum_tup ?_
    simp only [ok_ok, kDrop_ap, kRet_ap, kSet_ap, kCons2_ap, kCons_ap, kTup_ap, kLst_ap, kVal_ap, kNew_ap, kBin2_ap, kBin_ap, kUn_ap, kCall_ap, kCallL_ap, kNotT_ap, kAndT_ap, kOrT_ap, kIf_ap, kIfS_ap, kAnd_ap, kOr_ap, kNot_ap, kMt2_ap, kMt_ap, kPut4_ap, kPut3_ap, kPut2_ap, kPut_ap, kExt2_ap, kExt_ap, kAsg2_ap, kAsg_ap, kFor_ap, kLc_ap, kSl3_ap, kSl2_ap, kSl_ap, kGs_ap, ok_seq, sq_next, sq_ret, sq_brk, sq_cont, ok_nop, ok_brk, ok_cont, ok_drop, ok_ret, ok_retN, ok_set, ok_var0, ok_varS, ok_c, ok_nil, ok_cons, ok_tup, ok_lst, ok_val, ok_new, ok_bin, ok_un, ok_call, ok_callL, ok_test, tst_bl, ok_notT, ok_andT, ok_orT, ok_if, ok_ifS, ok_and, ok_or, ok_not, ok_mt, ok_put, ok_extend, pr2_mk, ok_par2, ok_asg, ok_for, ok_lc, ok_yes, ok_noPart, prt_int, ok_part, ok_sl, ok_gNm, ok_gTp, ok_gsN, ok_gsC, rg1_mk, rg2_mk, ok_rng1, ok_rng2, srcK_tup, srcK_ls, ok_src, finK_next, finK_ret, List.set_cons_zero, List.set_cons_succ, List.map_cons, List.map_nil, List.replicate, List.cons_append, List.nil_append, List.length_cons, List.length_nil, Bool.false_eq_true, eq_self, if_true, if_false, Nat.zero_add]
    refine ok_loop (fun i env s'' => ∃ v4 v6 : Option Dv, env = [some (encC c), some (encE laid ds), some (.tup (laid.map encL)), some (encS ds), v4, v5, v6] ∧ s'' = s')
      (fun _ _ _ _ => rfl) (fun i d env s'' hd h => ?_) (fun env s'' h => ?_) ⟨_, _, rfl, rfl⟩
    · obtain ⟨v4, v6, rfl, rfl⟩ := h
      obtain ⟨e, hd2, rfl⟩ := enumD_get hd
      have hi : i < c.doubts.length := by have := (List.getElem?_eq_some_iff.mp hd2).1; rwa [List.length_map] at this
      have hp := List.getElem?_eq_getElem hi
      rw [get_map (f := encS) hp] at hd2
      cases hd2
      have hx := List.getElem?_eq_getElem (l := ds) (i := i) (by rw [hf.nd]; exact hi)
      have h1 := hf.dbt i _ _ hx hp
      clear hd
      generalize ds[i]'(by rw [hf.nd]; exact hi) = x at hx h1
      generalize c.doubts[i] = p at hp h1
      have en : gNotIn (.str x) (encS p) s'' = .ok (.bl false) s'' := by
        have := notin_strs (x := x) (xs := p) (s := s'')
        rwa [decide_eq_true h1] at this
      simp only [ok_ok, kDrop_ap, kRet_ap, kSet_ap, kCons2_ap, kCons_ap, kTup_ap, kLst_ap, kVal_ap, kNew_ap, kBin2_ap, kBin_ap, kUn_ap, kCall_ap, kCallL_ap, kNotT_ap, kAndT_ap, kOrT_ap, kIf_ap, kIfS_ap, kAnd_ap, kOr_ap, kNot_ap, kMt2_ap, kMt_ap, kPut4_ap, kPut3_ap, kPut2_ap, kPut_ap, kExt2_ap, kExt_ap, kAsg2_ap, kAsg_ap, kFor_ap, kLc_ap, kSl3_ap, kSl2_ap, kSl_ap, kGs_ap, ok_seq, sq_next, sq_ret, sq_brk, sq_cont, ok_nop, ok_brk, ok_cont, ok_drop, ok_ret, ok_retN, ok_set, ok_var0, ok_varS, ok_c, ok_nil, ok_cons, ok_tup, ok_lst, ok_val, ok_new, ok_bin, ok_un, ok_call, ok_callL, ok_test, tst_bl, ok_notT, ok_andT, ok_orT, ok_if, ok_ifS, ok_and, ok_or, ok_not, ok_mt, ok_put, ok_extend, pr2_mk, ok_par2, ok_asg, ok_for, ok_lc, ok_yes, ok_noPart, prt_int, ok_part, ok_sl, ok_gNm, ok_gTp, ok_gsN, ok_gsC, rg1_mk, rg2_mk, ok_rng1, ok_rng2, srcK_tup, srcK_ls, ok_src, finK_next, finK_ret, List.set_cons_zero, List.set_cons_succ, List.map_cons, List.map_nil, List.replicate, List.cons_append, List.nil_append, List.length_cons, List.length_nil, Bool.false_eq_true, eq_self, if_true, if_false, Nat.zero_add]
      refine ⟨rfl, ?_⟩
      simp only [ok_ok, kDrop_ap, kRet_ap, kSet_ap, kCons2_ap, kCons_ap, kTup_ap, kLst_ap, kVal_ap, kNew_ap, kBin2_ap, kBin_ap, kUn_ap, kCall_ap, kCallL_ap, kNotT_ap, kAndT_ap, kOrT_ap, kIf_ap, kIfS_ap, kAnd_ap, kOr_ap, kNot_ap, kMt2_ap, kMt_ap, kPut4_ap, kPut3_ap, kPut2_ap, kPut_ap, kExt2_ap, kExt_ap, kAsg2_ap, kAsg_ap, kFor_ap, kLc_ap, kSl3_ap, kSl2_ap, kSl_ap, kGs_ap, ok_seq, sq_next, sq_ret, sq_brk, sq_cont, ok_nop, ok_brk, ok_cont, ok_drop, ok_ret, ok_retN, ok_set, ok_var0, ok_varS, ok_c, ok_nil, ok_cons, ok_tup, ok_lst, ok_val, ok_new, ok_bin, ok_un, ok_call, ok_callL, ok_test, tst_bl, ok_notT, ok_andT, ok_orT, ok_if, ok_ifS, ok_and, ok_or, ok_not, ok_mt, ok_put, ok_extend, pr2_mk, ok_par2, ok_asg, ok_for, ok_lc, ok_yes, ok_noPart, prt_int, ok_part, ok_sl, ok_gNm, ok_gTp, ok_gsN, ok_gsC, rg1_mk, rg2_mk, ok_rng1, ok_rng2, srcK_tup, srcK_ls, ok_src, finK_next, finK_ret, List.set_cons_zero, List.set_cons_succ, List.map_cons, List.map_nil, List.replicate, List.cons_append, List.nil_append, List.length_cons, List.length_nil, Bool.false_eq_true, eq_self, if_true, if_false, Nat.zero_add, encS, ix_tupN (get_map (f := Dv.str) hx)]
      rw [show gNotIn (.str x) (.tup (p.map Dv.str)) s'' = .ok (.bl false) s'' from en]
      simp only [ok_ok, kDrop_ap, kRet_ap, kSet_ap, kCons2_ap, kCons_ap, kTup_ap, kLst_ap, kVal_ap, kNew_ap, kBin2_ap, kBin_ap, kUn_ap, kCall_ap, kCallL_ap, kNotT_ap, kAndT_ap, kOrT_ap, kIf_ap, kIfS_ap, kAnd_ap, kOr_ap, kNot_ap, kMt2_ap, kMt_ap, kPut4_ap, kPut3_ap, kPut2_ap, kPut_ap, kExt2_ap, kExt_ap, kAsg2_ap, kAsg_ap, kFor_ap, kLc_ap, kSl3_ap, kSl2_ap, kSl_ap, kGs_ap, ok_seq, sq_next, sq_ret, sq_brk, sq_cont, ok_nop, ok_brk, ok_cont, ok_drop, ok_ret, ok_retN, ok_set, ok_var0, ok_varS, ok_c, ok_nil, ok_cons, ok_tup, ok_lst, ok_val, ok_new, ok_bin, ok_un, ok_call, ok_callL, ok_test, tst_bl, ok_notT, ok_andT, ok_orT, ok_if, ok_ifS, ok_and, ok_or, ok_not, ok_mt, ok_put, ok_extend, pr2_mk, ok_par2, ok_asg, ok_for, ok_lc, ok_yes, ok_noPart, prt_int, ok_part, ok_sl, ok_gNm, ok_gTp, ok_gsN, ok_gsC, rg1_mk, rg2_mk, ok_rng1, ok_rng2, srcK_tup, srcK_ls, ok_src, finK_next, finK_ret, List.set_cons_zero, List.set_cons_succ, List.map_cons, List.map_nil, List.replicate, List.cons_append, List.nil_append, List.length_cons, List.length_nil, Bool.false_eq_true, eq_self, if_true, if_false, Nat.zero_add]
      exact ⟨_, _, rfl, by first | rfl | trivial⟩
    · obtain ⟨v4, v6, rfl, rfl⟩ := h
      simp only [ok_ok, kDrop_ap, kRet_ap, kSet_ap, kCons2_ap, kCons_ap, kTup_ap, kLst_ap, kVal_ap, kNew_ap, kBin2_ap, kBin_ap, kUn_ap, kCall_ap, kCallL_ap, kNotT_ap, kAndT_ap, kOrT_ap, kIf_ap, kIfS_ap, kAnd_ap, kOr_ap, kNot_ap, kMt2_ap, kMt_ap, kPut4_ap, kPut3_ap, kPut2_ap, kPut_ap, kExt2_ap, kExt_ap, kAsg2_ap, kAsg_ap, kFor_ap, kLc_ap, kSl3_ap, kSl2_ap, kSl_ap, kGs_ap, ok_seq, sq_next, sq_ret, sq_brk, sq_cont, ok_nop, ok_brk, ok_cont, ok_drop, ok_ret, ok_retN, ok_set, ok_var0, ok_varS, ok_c, ok_nil, ok_cons, ok_tup, ok_lst, ok_val, ok_new, ok_bin, ok_un, ok_call, ok_callL, ok_test, tst_bl, ok_notT, ok_andT, ok_orT, ok_if, ok_ifS, ok_and, ok_or, ok_not, ok_mt, ok_put, ok_extend, pr2_mk, ok_par2, ok_asg, ok_for, ok_lc, ok_yes, ok_noPart, prt_int, ok_part, ok_sl, ok_gNm, ok_gTp, ok_gsN, ok_gsC, rg1_mk, rg2_mk, ok_rng1, ok_rng2, srcK_tup, srcK_ls, ok_src, finK_next, finK_ret, List.set_cons_zero, List.set_cons_succ, List.map_cons, List.map_nil, List.replicate, List.cons_append, List.nil_append, List.length_cons, List.length_nil, Bool.false_eq_true, eq_self, if_true, if_false, Nat.zero_add]
      exact fin_any (fun n => nofun) ‹_›
/-! ### the end as told -/
def bTold : Fn Ct :=
  fRet (fTup (fCons (fCall gTuple (fCons (fVal (fLc (fSrc (fBin gIx (fVar 0) (fC (.int 1)))) [1] (gNm 1) (fYes) (fSl (fVar 1) (fNoPart) (fPart (fC (.int 2)))))) (fNil))) (fCons (fCall gTuple (fCons (fVal (fLc (fSrc (fBin gIx (fVar 0) (fC (.int 2)))) [2] (gNm 2) (fYes) (fBin gIx (fVar 2) (fC (.int 0))))) (fNil))) (fNil))))
def toldL (c : Cnt) : List (Str × Int) := c.piles.map fun p => (p.name, p.many)
def toldD (c : Cnt) : List Str := c.doubts.map fun d => d.headD (Str.ofString "")
def ToldS (φ : Phi) : Prop := ∀ (c : Cnt) (s : Sto) (T : Dv → Sto → Prop), c.piles.length < 1000 → c.doubts.length < 1000 → (∀ d ∈ c.doubts, d ≠ []) → T (encE (toldL c) (toldD c)) s → Ok (φ [encC c] s) T
theorem sl_two {a b : Dv} {l : List Dv} {s : Sto} : gSl (.tup (a :: b :: l)) none (some 2) s = .ok (.tup [a, b]) s := by
  show Rs.ok (Dv.tup (cutD _ _ _)) s = _
  rw [cut_take (by decide)]; rfl
theorem told_spec : ToldS (fDef 1 3 bTold) := by
  intro c s T h1 h2 h3 h
  rw [ok_def]
  refine ⟨rfl, ?_⟩
  unfold bTold encC
  simp only [ok_ok, kDrop_ap, kRet_ap, kSet_ap, kCons2_ap, kCons_ap, kTup_ap, kLst_ap, kVal_ap, kNew_ap, kBin2_ap, kBin_ap, kUn_ap, kCall_ap, kCallL_ap, kNotT_ap, kAndT_ap, kOrT_ap, kIf_ap, kIfS_ap, kAnd_ap, kOr_ap, kNot_ap, kMt2_ap, kMt_ap, kPut4_ap, kPut3_ap, kPut2_ap, kPut_ap, kExt2_ap, kExt_ap, kAsg2_ap, kAsg_ap, kFor_ap, kLc_ap, kSl3_ap, kSl2_ap, kSl_ap, kGs_ap, ok_seq, sq_next, sq_ret, sq_brk, sq_cont, ok_nop, ok_brk, ok_cont, ok_drop, ok_ret, ok_retN, ok_set, ok_var0, ok_varS, ok_c, ok_nil, ok_cons, ok_tup, ok_lst, ok_val, ok_new, ok_bin, ok_un, ok_call, ok_callL, ok_test, tst_bl, ok_notT, ok_andT, ok_orT, ok_if, ok_ifS, ok_and, ok_or, ok_not, ok_mt, ok_put, ok_extend, pr2_mk, ok_par2, ok_asg, ok_for, ok_lc, ok_yes, ok_noPart, prt_int, ok_part, ok_sl, ok_gNm, ok_gTp, ok_gsN, ok_gsC, rg1_mk, rg2_mk, ok_rng1, ok_rng2, srcK_tup, srcK_ls, ok_src, finK_next, finK_ret, List.set_cons_zero, List.set_cons_succ, List.map_cons, List.map_nil, List.replicate, List.cons_append, List.nil_append, List.length_cons, List.length_nil, Bool.false_eq_true, eq_self, if_true, if_false, Nat.zero_add, ix_second, ix_third]
  refine ⟨decide_eq_true (by rw [List.length_map]; omega), ?_⟩
  refine ok_map (fun _ => true) (fun d => match d with | .tup (a :: b :: _) => .tup [a, b] | _ => .non) (fun d hd => ?_) ?_
  · obtain ⟨p, hp, rfl⟩ := List.mem_map.mp hd
    simp only [ok_ok, kDrop_ap, kRet_ap, kSet_ap, kCons2_ap, kCons_ap, kTup_ap, kLst_ap, kVal_ap, kNew_ap, kBin2_ap, kBin_ap, kUn_ap, kCall_ap, kCallL_ap, kNotT_ap, kAndT_ap, kOrT_ap, kIf_ap, kIfS_ap, kAnd_ap, kOr_ap, kNot_ap, kMt2_ap, kMt_ap, kPut4_ap, kPut3_ap, kPut2_ap, kPut_ap, kExt2_ap, kExt_ap, kAsg2_ap, kAsg_ap, kFor_ap, kLc_ap, kSl3_ap, kSl2_ap, kSl_ap, kGs_ap, ok_seq, sq_next, sq_ret, sq_brk, sq_cont, ok_nop, ok_brk, ok_cont, ok_drop, ok_ret, ok_retN, ok_set, ok_var0, ok_varS, ok_c, ok_nil, ok_cons, ok_tup, ok_lst, ok_val, ok_new, ok_bin, ok_un, ok_call, ok_callL, ok_test, tst_bl, ok_notT, ok_andT, ok_orT, ok_if, ok_ifS, ok_and, ok_or, ok_not, ok_mt, ok_put, ok_extend, pr2_mk, ok_par2, ok_asg, ok_for, ok_lc, ok_yes, ok_noPart, prt_int, ok_part, ok_sl, ok_gNm, ok_gTp, ok_gsN, ok_gsC, rg1_mk, rg2_mk, ok_rng1, ok_rng2, srcK_tup, srcK_ls, ok_src, finK_next, finK_ret, List.set_cons_zero, List.set_cons_succ, List.map_cons, List.map_nil, List.replicate, List.cons_append, List.nil_append, List.length_cons, List.length_nil, Bool.false_eq_true, eq_self, if_true, if_false, Nat.zero_add, wipeZ, encP, sl_two]
    refine ⟨?_, ?_, ?_⟩ <;> first | rfl | trivial
  · rw [filter_yes]
    simp only [ok_ok, kDrop_ap, kRet_ap, kSet_ap, kCons2_ap, kCons_ap, kTup_ap, kLst_ap, kVal_ap, kNew_ap, kBin2_ap, kBin_ap, kUn_ap, kCall_ap, kCallL_ap, kNotT_ap, kAndT_ap, kOrT_ap, kIf_ap, kIfS_ap, kAnd_ap, kOr_ap, kNot_ap, kMt2_ap, kMt_ap, kPut4_ap, kPut3_ap, kPut2_ap, kPut_ap, kExt2_ap, kExt_ap, kAsg2_ap, kAsg_ap, kFor_ap, kLc_ap, kSl3_ap, kSl2_ap, kSl_ap, kGs_ap, ok_seq, sq_next, sq_ret, sq_brk, sq_cont, ok_nop, ok_brk, ok_cont, ok_drop, ok_ret, ok_retN, ok_set, ok_var0, ok_varS, ok_c, ok_nil, ok_cons, ok_tup, ok_lst, ok_val, ok_new, ok_bin, ok_un, ok_call, ok_callL, ok_test, tst_bl, ok_notT, ok_andT, ok_orT, ok_if, ok_ifS, ok_and, ok_or, ok_not, ok_mt, ok_put, ok_extend, pr2_mk, ok_par2, ok_asg, ok_for, ok_lc, ok_yes, ok_noPart, prt_int, ok_part, ok_sl, ok_gNm, ok_gTp, ok_gsN, ok_gsC, rg1_mk, rg2_mk, ok_rng1, ok_rng2, srcK_tup, srcK_ls, ok_src, finK_next, finK_ret, List.set_cons_zero, List.set_cons_succ, List.map_cons, List.map_nil, List.replicate, List.cons_append, List.nil_append, List.length_cons, List.length_nil, Bool.false_eq_true, eq_self, if_true, if_false, Nat.zero_add, tuple_ls, ix_third, encS]
    refine ⟨decide_eq_true (by rw [List.length_map]; omega), ?_⟩
    refine ok_map (fun _ => true) (fun d => match d with | .tup (a :: _) => a | _ => .non) (fun d hd => ?_) ?_
    · obtain ⟨q, hq, rfl⟩ := List.mem_map.mp hd
      cases q with
      | nil => exact absurd rfl (h3 _ hq)
      | cons a l =>
        simp only [ok_ok, kDrop_ap, kRet_ap, kSet_ap, kCons2_ap, kCons_ap, kTup_ap, kLst_ap, kVal_ap, kNew_ap, kBin2_ap, kBin_ap, kUn_ap, kCall_ap, kCallL_ap, kNotT_ap, kAndT_ap, kOrT_ap, kIf_ap, kIfS_ap, kAnd_ap, kOr_ap, kNot_ap, kMt2_ap, kMt_ap, kPut4_ap, kPut3_ap, kPut2_ap, kPut_ap, kExt2_ap, kExt_ap, kAsg2_ap, kAsg_ap, kFor_ap, kLc_ap, kSl3_ap, kSl2_ap, kSl_ap, kGs_ap, ok_seq, sq_next, sq_ret, sq_brk, sq_cont, ok_nop, ok_brk, ok_cont, ok_drop, ok_ret, ok_retN, ok_set, ok_var0, ok_varS, ok_c, ok_nil, ok_cons, ok_tup, ok_lst, ok_val, ok_new, ok_bin, ok_un, ok_call, ok_callL, ok_test, tst_bl, ok_notT, ok_andT, ok_orT, ok_if, ok_ifS, ok_and, ok_or, ok_not, ok_mt, ok_put, ok_extend, pr2_mk, ok_par2, ok_asg, ok_for, ok_lc, ok_yes, ok_noPart, prt_int, ok_part, ok_sl, ok_gNm, ok_gTp, ok_gsN, ok_gsC, rg1_mk, rg2_mk, ok_rng1, ok_rng2, srcK_tup, srcK_ls, ok_src, finK_next, finK_ret, List.set_cons_zero, List.set_cons_succ, List.map_cons, List.map_nil, List.replicate, List.cons_append, List.nil_append, List.length_cons, List.length_nil, Bool.false_eq_true, eq_self, if_true, if_false, Nat.zero_add, wipeZ, encS, ix_first]
        refine ⟨?_, ?_, ?_⟩ <;> first | rfl | trivial
    · rw [filter_yes]
      simp only [ok_ok, kDrop_ap, kRet_ap, kSet_ap, kCons2_ap, kCons_ap, kTup_ap, kLst_ap, kVal_ap, kNew_ap, kBin2_ap, kBin_ap, kUn_ap, kCall_ap, kCallL_ap, kNotT_ap, kAndT_ap, kOrT_ap, kIf_ap, kIfS_ap, kAnd_ap, kOr_ap, kNot_ap, kMt2_ap, kMt_ap, kPut4_ap, kPut3_ap, kPut2_ap, kPut_ap, kExt2_ap, kExt_ap, kAsg2_ap, kAsg_ap, kFor_ap, kLc_ap, kSl3_ap, kSl2_ap, kSl_ap, kGs_ap, ok_seq, sq_next, sq_ret, sq_brk, sq_cont, ok_nop, ok_brk, ok_cont, ok_drop, ok_ret, ok_retN, ok_set, ok_var0, ok_varS, ok_c, ok_nil, ok_cons, ok_tup, ok_lst, ok_val, ok_new, ok_bin, ok_un, ok_call, ok_callL, ok_test, tst_bl, ok_notT, ok_andT, ok_orT, ok_if, ok_ifS, ok_and, ok_or, ok_not, ok_mt, ok_put, ok_extend, pr2_mk, ok_par2, ok_asg, ok_for, ok_lc, ok_yes, ok_noPart, prt_int, ok_part, ok_sl, ok_gNm, ok_gTp, ok_gsN, ok_gsC, rg1_mk, rg2_mk, ok_rng1, ok_rng2, srcK_tup, srcK_ls, ok_src, finK_next, finK_ret, List.set_cons_zero, List.set_cons_succ, List.map_cons, List.map_nil, List.replicate, List.cons_append, List.nil_append, List.length_cons, List.length_nil, Bool.false_eq_true, eq_self, if_true, if_false, Nat.zero_add, tuple_ls]
      refine ⟨rfl, ?_⟩
      refine fin_any (fun n => nofun) ?_
      have e1 : ((c.piles.map encP).map fun d => match d with | .tup (a :: b :: _) => Dv.tup [a, b] | _ => Dv.non) = (toldL c).map encL := by
        rw [toldL, List.map_map, List.map_map]
        exact List.map_congr_left fun p _ => rfl
      have e2 : ((c.doubts.map encS).map fun d => match d with | .tup (a :: _) => a | _ => Dv.non) = (toldD c).map Dv.str := by
        rw [toldD, List.map_map, List.map_map]
        refine List.map_congr_left fun d hd => ?_
        cases d with
        | nil => exact absurd rfl (h3 _ hd)
        | cons a l => rfl
      rw [e1, e2]
      exact h
/-! ### an end let pass -/
def bLets (φs φf φy : Phi) : Fn Ct :=
  fSeq (fIfS (fNotT (fTest (fCall φs (fCons (fVar 1) (fNil))))) (fNever) (fNop))
  (fSeq (fSet 2 (fCall φf (fCons (fVar 0) (fCons (fVar 1) (fNil)))))
  (fSeq (fIfS (fTest (fBin gIsNot (fVar 2) (fC .non))) (fNever) (fNop))
  (fRet (fCall φy (fCons (fVar 0) (fCons (fVar 1) (fNil)))))))
theorem isnot_non {s : Sto} : gIsNot .non .non s = .ok (.bl false) s := rfl
def ShapedS (φ : Phi) : Prop := ∀ (laid : List (Str × Int)) (ds : List Str) (s : Sto) (T : Dv → Sto → Prop), (∀ x ∈ laid, isWordS x.1 = true) → (∀ x ∈ ds, isWordS x = true) → laid.length < 16777216 → ds.length < 16777216 → T (.bl true) s → Ok (φ [encE laid ds] s) T
def FaultS (φ : Phi) : Prop := ∀ (c : Cnt) (laid : List (Str × Int)) (ds : List Str) (s : Sto) (T : Dv → Sto → Prop), Fits c laid ds → T .non s → Ok (φ [encC c, encE laid ds] s) T
theorem Fits.ends {c : Cnt} (hc : CntOk c) {laid : List (Str × Int)} {ds : List Str} (hf : Fits c laid ds) : (∀ x ∈ laid, x.1 ∈ c.lots) ∧ ∀ x ∈ ds, x ∈ c.lots := by
  refine ⟨fun x hx => ?_, fun x hx => ?_⟩
  · obtain ⟨i, hi⟩ := List.getElem?_of_mem hx
    have hl : i < c.piles.length := by rw [← hf.nl]; exact (List.getElem?_eq_some_iff.mp hi).1
    have hp := List.getElem?_eq_getElem hl
    have hm := List.getElem_mem hl
    rcases hf.name i x _ hi hp with e | e
    · rw [e]; exact (hc.piles _ hm).name
    · rcases (hc.piles _ hm).others with q | ⟨ws, q, h1, _⟩
      · rw [q] at e; cases e
      · rw [q] at e; exact h1.subset ((srtS_perm ws).mem_iff.mp e)
  · obtain ⟨i, hi⟩ := List.getElem?_of_mem hx
    have hl : i < c.doubts.length := by rw [← hf.nd]; exact (List.getElem?_eq_some_iff.mp hi).1
    have hp := List.getElem?_eq_getElem hl
    have e := hf.dbt i x _ hi hp
    obtain ⟨ws, q, h1, _⟩ := hc.doubts _ (List.getElem_mem hl)
    rw [q] at e
    exact h1.subset ((srtS_perm ws).mem_iff.mp e)
theorem lets_spec {φs φf φy : Phi} (hs : ShapedS φs) (hf : FaultS φf) (hy : TallyS φy) {c : Cnt} (hc : CntOk c) {laid : List (Str × Int)} {ds : List Str} (ho : Fits c laid ds) {s : Sto} (hfl : Fl s) :
    Ok (fDef 2 3 (bLets φs φf φy) [encC c, encE laid ds] s) fun d s' => d = .tup ((tally c.lots laid ds).map .int) ∧ s' = s := by
  obtain ⟨e1, e2⟩ := ho.ends hc
  have np := hc.npiles
  have nd := hc.ndoubts
  have l6 := hc.len6
  rw [ok_def]
  refine ⟨rfl, ?_⟩
  unfold bLets
  simp only [ok_ok, kDrop_ap, kRet_ap, kSet_ap, kCons2_ap, kCons_ap, kTup_ap, kLst_ap, kVal_ap, kNew_ap, kBin2_ap, kBin_ap, kUn_ap, kCall_ap, kCallL_ap, kNotT_ap, kAndT_ap, kOrT_ap, kIf_ap, kIfS_ap, kAnd_ap, kOr_ap, kNot_ap, kMt2_ap, kMt_ap, kPut4_ap, kPut3_ap, kPut2_ap, kPut_ap, kExt2_ap, kExt_ap, kAsg2_ap, kAsg_ap, kFor_ap, kLc_ap, kSl3_ap, kSl2_ap, kSl_ap, kGs_ap, ok_seq, sq_next, sq_ret, sq_brk, sq_cont, ok_nop, ok_brk, ok_cont, ok_drop, ok_ret, ok_retN, ok_set, ok_var0, ok_varS, ok_c, ok_nil, ok_cons, ok_tup, ok_lst, ok_val, ok_new, ok_bin, ok_un, ok_call, ok_callL, ok_test, tst_bl, ok_notT, ok_andT, ok_orT, ok_if, ok_ifS, ok_and, ok_or, ok_not, ok_mt, ok_put, ok_extend, pr2_mk, ok_par2, ok_asg, ok_for, ok_lc, ok_yes, ok_noPart, prt_int, ok_part, ok_sl, ok_gNm, ok_gTp, ok_gsN, ok_gsC, rg1_mk, rg2_mk, ok_rng1, ok_rng2, srcK_tup, srcK_ls, ok_src, finK_next, finK_ret, List.set_cons_zero, List.set_cons_succ, List.map_cons, List.map_nil, List.replicate, List.cons_append, List.nil_append, List.length_cons, List.length_nil, Bool.false_eq_true, eq_self, if_true, if_false, Nat.zero_add]
  refine hs laid ds s _ (fun x hx => hc.pool _ (e1 x hx)) (fun x hx => hc.pool _ (e2 x hx)) (by rw [ho.nl]; omega) (by rw [ho.nd]; omega) ?_
  simp only [ok_ok, kDrop_ap, kRet_ap, kSet_ap, kCons2_ap, kCons_ap, kTup_ap, kLst_ap, kVal_ap, kNew_ap, kBin2_ap, kBin_ap, kUn_ap, kCall_ap, kCallL_ap, kNotT_ap, kAndT_ap, kOrT_ap, kIf_ap, kIfS_ap, kAnd_ap, kOr_ap, kNot_ap, kMt2_ap, kMt_ap, kPut4_ap, kPut3_ap, kPut2_ap, kPut_ap, kExt2_ap, kExt_ap, kAsg2_ap, kAsg_ap, kFor_ap, kLc_ap, kSl3_ap, kSl2_ap, kSl_ap, kGs_ap, ok_seq, sq_next, sq_ret, sq_brk, sq_cont, ok_nop, ok_brk, ok_cont, ok_drop, ok_ret, ok_retN, ok_set, ok_var0, ok_varS, ok_c, ok_nil, ok_cons, ok_tup, ok_lst, ok_val, ok_new, ok_bin, ok_un, ok_call, ok_callL, ok_test, tst_bl, ok_notT, ok_andT, ok_orT, ok_if, ok_ifS, ok_and, ok_or, ok_not, ok_mt, ok_put, ok_extend, pr2_mk, ok_par2, ok_asg, ok_for, ok_lc, ok_yes, ok_noPart, prt_int, ok_part, ok_sl, ok_gNm, ok_gTp, ok_gsN, ok_gsC, rg1_mk, rg2_mk, ok_rng1, ok_rng2, srcK_tup, srcK_ls, ok_src, finK_next, finK_ret, List.set_cons_zero, List.set_cons_succ, List.map_cons, List.map_nil, List.replicate, List.cons_append, List.nil_append, List.length_cons, List.length_nil, Bool.false_eq_true, eq_self, if_true, if_false, Nat.zero_add, Bool.not_true]
  refine hf c laid ds s _ ho ?_
  simp only [ok_ok, kDrop_ap, kRet_ap, kSet_ap, kCons2_ap, kCons_ap, kTup_ap, kLst_ap, kVal_ap, kNew_ap, kBin2_ap, kBin_ap, kUn_ap, kCall_ap, kCallL_ap, kNotT_ap, kAndT_ap, kOrT_ap, kIf_ap, kIfS_ap, kAnd_ap, kOr_ap, kNot_ap, kMt2_ap, kMt_ap, kPut4_ap, kPut3_ap, kPut2_ap, kPut_ap, kExt2_ap, kExt_ap, kAsg2_ap, kAsg_ap, kFor_ap, kLc_ap, kSl3_ap, kSl2_ap, kSl_ap, kGs_ap, ok_seq, sq_next, sq_ret, sq_brk, sq_cont, ok_nop, ok_brk, ok_cont, ok_drop, ok_ret, ok_retN, ok_set, ok_var0, ok_varS, ok_c, ok_nil, ok_cons, ok_tup, ok_lst, ok_val, ok_new, ok_bin, ok_un, ok_call, ok_callL, ok_test, tst_bl, ok_notT, ok_andT, ok_orT, ok_if, ok_ifS, ok_and, ok_or, ok_not, ok_mt, ok_put, ok_extend, pr2_mk, ok_par2, ok_asg, ok_for, ok_lc, ok_yes, ok_noPart, prt_int, ok_part, ok_sl, ok_gNm, ok_gTp, ok_gsN, ok_gsC, rg1_mk, rg2_mk, ok_rng1, ok_rng2, srcK_tup, srcK_ls, ok_src, finK_next, finK_ret, List.set_cons_zero, List.set_cons_succ, List.map_cons, List.map_nil, List.replicate, List.cons_append, List.nil_append, List.length_cons, List.length_nil, Bool.false_eq_true, eq_self, if_true, if_false, Nat.zero_add, isnot_non]
  refine (hy s c.lots [.tup (c.piles.map encP), .tup (c.doubts.map encS)] laid ds hc.nd (by omega) e1 e2 hfl).mono ?_
  rintro d s' ⟨rfl, rfl⟩
  simp only [ok_ok, kDrop_ap, kRet_ap, kSet_ap, kCons2_ap, kCons_ap, kTup_ap, kLst_ap, kVal_ap, kNew_ap, kBin2_ap, kBin_ap, kUn_ap, kCall_ap, kCallL_ap, kNotT_ap, kAndT_ap, kOrT_ap, kIf_ap, kIfS_ap, kAnd_ap, kOr_ap, kNot_ap, kMt2_ap, kMt_ap, kPut4_ap, kPut3_ap, kPut2_ap, kPut_ap, kExt2_ap, kExt_ap, kAsg2_ap, kAsg_ap, kFor_ap, kLc_ap, kSl3_ap, kSl2_ap, kSl_ap, kGs_ap, ok_seq, sq_next, sq_ret, sq_brk, sq_cont, ok_nop, ok_brk, ok_cont, ok_drop, ok_ret, ok_retN, ok_set, ok_var0, ok_varS, ok_c, ok_nil, ok_cons, ok_tup, ok_lst, ok_val, ok_new, ok_bin, ok_un, ok_call, ok_callL, ok_test, tst_bl, ok_notT, ok_andT, ok_orT, ok_if, ok_ifS, ok_and, ok_or, ok_not, ok_mt, ok_put, ok_extend, pr2_mk, ok_par2, ok_asg, ok_for, ok_lc, ok_yes, ok_noPart, prt_int, ok_part, ok_sl, ok_gNm, ok_gTp, ok_gsN, ok_gsC, rg1_mk, rg2_mk, ok_rng1, ok_rng2, srcK_tup, srcK_ls, ok_src, finK_next, finK_ret, List.set_cons_zero, List.set_cons_succ, List.map_cons, List.map_nil, List.replicate, List.cons_append, List.nil_append, List.length_cons, List.length_nil, Bool.false_eq_true, eq_self, if_true, if_false, Nat.zero_add]
  exact fin_any (fun n => nofun) ⟨rfl, rfl⟩
end Z

namespace Z
open PySem PySem.Spec PyProof.Rows L2
theorem gd_encS {n : Nat} {xs : List Str} (h : ∀ x ∈ xs, PyData.strOk x = true) : gd (n + 2) (encS xs) = true := by
  show gds (n + 1) (xs.map .str) = true
  exact gds_map fun x hx => h x hx
theorem wd_encS {xs : List Str} {k : Nat} (h : ∀ x ∈ xs, isWordS x = true) (hk : xs.length ≤ k) : wd (encS xs) ≤ k * 9 := by
  have := wds_map (f := Dv.str) (c := 8) (xs := xs) fun x hx => (word_ok (h x hx)).2
  show wds (xs.map .str) ≤ _
  have h2 : xs.length * (8 + 1) ≤ k * 9 := Nat.mul_le_mul_right _ hk
  omega
theorem CntOk.oth {c : Cnt} (hc : CntOk c) {p : Pil} (hp : p ∈ c.piles) : p.others.length ≤ 2 ∧ ∀ x ∈ p.others, x ∈ c.lots := by
  rcases (hc.piles p hp).others with e | ⟨ws, e, h1, h2, h3⟩
  · rw [e]; exact ⟨by decide, fun x hx => by cases hx⟩
  · rw [e, srtS_len]; exact ⟨h3, fun x hx => h1.subset ((srtS_perm ws).mem_iff.mp hx)⟩
theorem CntOk.dbt {c : Cnt} (hc : CntOk c) {d : List Str} (hd : d ∈ c.doubts) : 1 ≤ d.length ∧ d.length ≤ 6 ∧ ∀ x ∈ d, x ∈ c.lots := by
  obtain ⟨ws, e, q1, q2⟩ := hc.doubts d hd
  rw [e, srtS_len]
  exact ⟨List.length_pos_iff.mpr q2, Nat.le_trans q1.length_le hc.len6, fun x hx => q1.subset ((srtS_perm ws).mem_iff.mp hx)⟩
theorem gd_encP {n : Nat} {c : Cnt} (hc : CntOk c) {p : Pil} (hp : p ∈ c.piles) : gd (n + 3) (encP p) = true := by
  have h := hc.piles p hp
  have e : gd (n + 2) (encS p.others) = true := gd_encS fun x hx => (word_ok (hc.pool x ((hc.oth hp).2 x hx))).1
  have h1 := h.many0; have h2 := h.many1; have h3 := h.slip0; have h4 := h.slip1
  show gds (n + 2) [_, _, _, _] = true
  simp only [gds, Bool.and_eq_true, e, gd, (word_ok (hc.pool _ h.name)).1, decide_eq_true_eq]
  refine ⟨trivial, by omega, by omega, trivial, trivial⟩
theorem wd_encP {c : Cnt} (hc : CntOk c) {p : Pil} (hp : p ∈ c.piles) : wd (encP p) ≤ 120 := by
  have h1 := (word_ok (hc.pool _ (hc.piles p hp).name)).2
  have h2 := wd_encS (fun x hx => hc.pool x ((hc.oth hp).2 x hx)) (hc.oth hp).1
  simp only [encP, wd, wds]
  omega
theorem gd_encC {n : Nat} {c : Cnt} (hc : CntOk c) : gd (n + 5) (encC c) = true := by
  show gds (n + 4) [_, _, _] = true
  simp only [gds, Bool.and_eq_true]
  refine ⟨gd_encS (n := n + 2) fun x hx => (word_ok (hc.pool x hx)).1, ?_, ?_, trivial⟩
  · show gds (n + 3) (c.piles.map encP) = true
    exact gds_map fun p hp => gd_encP hc hp
  · show gds (n + 3) (c.doubts.map encS) = true
    exact gds_map fun d hd => gd_encS (n := n + 1) fun x hx => (word_ok (hc.pool x ((hc.dbt hd).2.2 x hx))).1
theorem wd_encC {c : Cnt} (hc : CntOk c) : wd (encC c) ≤ 2000 := by
  have h1 := wd_encS hc.pool hc.len6
  have h2 := wds_map (f := encP) (c := 120) (xs := c.piles) fun p hp => wd_encP hc hp
  have h3 := wds_map (f := encS) (c := 54) (xs := c.doubts) fun d hd => wd_encS (fun x hx => hc.pool x ((hc.dbt hd).2.2 x hx)) (hc.dbt hd).2.1
  have h4 : c.piles.length * (120 + 1) ≤ 10 * 121 := Nat.mul_le_mul_right _ hc.npiles
  have h5 : c.doubts.length * (54 + 1) ≤ 12 * 55 := Nat.mul_le_mul_right _ hc.ndoubts
  simp only [encC, wd, wds]
  omega
theorem gd_encE {n : Nat} {c : Cnt} (hc : CntOk c) {laid : List (Str × Int)} {ds : List Str} (he : EndOk c laid ds) : gd (n + 4) (encE laid ds) = true := by
  show gds (n + 3) [_, _] = true
  simp only [gds, Bool.and_eq_true]
  refine ⟨?_, gd_encS (n := n + 1) fun x hx => (word_ok (hc.pool x (he.hds x hx))).1, trivial⟩
  show gds (n + 2) (laid.map encL) = true
  refine gds_map fun x hx => ?_
  obtain ⟨h1, h2, h3⟩ := he.hlaid x hx
  show gds (n + 1) [_, _] = true
  simp only [gds, Bool.and_eq_true, gd, (word_ok (hc.pool _ h1)).1, decide_eq_true_eq]
  exact ⟨trivial, by omega, trivial⟩
theorem wd_encE {c : Cnt} (hc : CntOk c) {laid : List (Str × Int)} {ds : List Str} (he : EndOk c laid ds) : wd (encE laid ds) ≤ 1000 := by
  have h1 := wd_encS (fun x hx => hc.pool x (he.hds x hx)) (Nat.le_of_eq he.nds)
  have h2 := wds_map (f := encL) (c := 60) (xs := laid) fun x hx => by
    have := (word_ok (hc.pool _ (he.hlaid x hx).1)).2
    simp only [encL, wd, wds]; omega
  have h3 := hc.npiles
  have h4 := hc.ndoubts
  have h5 := he.nlaid
  simp only [encE, wd, wds]
  omega
theorem sumOf_bd {b : Int} (n : Str) (hb : 0 ≤ b) : ∀ l : List (Str × Int), (∀ x ∈ l, 0 ≤ x.2 ∧ x.2 ≤ b) → 0 ≤ sumOf l n ∧ sumOf l n ≤ l.length * b
  | [], _ => by simp [sumOf]
  | x :: l, h => by
    have ih := sumOf_bd n hb l fun y hy => h y (List.mem_cons_of_mem _ hy)
    have hx := h x List.mem_cons_self
    have e : sumOf (x :: l) n = (if x.1 = n then x.2 else 0) + sumOf l n := by simp [sumOf]
    rw [e, List.length_cons]
    push_cast
    rw [Int.add_mul]
    split <;> omega
theorem cntOf_bd (n : Str) : ∀ l : List Str, 0 ≤ cntOf l n ∧ cntOf l n ≤ l.length
  | [] => by simp [cntOf]
  | x :: l => by
    have ih := cntOf_bd n l
    have e : cntOf (x :: l) n = (if x = n then 1 else 0) + cntOf l n := by simp [cntOf]
    rw [e, List.length_cons]
    push_cast
    split <;> omega

/-! ### told ends -/
theorem fits_told {c : Cnt} (hc : CntOk c) : Fits c (toldL c) (toldD c) := by
  refine ⟨by simp [toldL], by simp [toldD], fun i x p hx hp => ?_, fun i x p hx hp => ?_, fun i x d hx hp => ?_⟩
  · rw [toldL, List.getElem?_map, hp] at hx
    cases hx
    exact .inl rfl
  · rw [toldL, List.getElem?_map, hp] at hx
    cases hx
    have h := hc.piles p (List.mem_of_getElem? hp)
    have h1 := h.many0; have h3 := h.slip0
    unfold Pil.least
    constructor
    · show _ ≤ p.many
      split <;> omega
    · show p.many ≤ _; omega
  · rw [toldD, List.getElem?_map, hp] at hx
    cases hx
    have h := (hc.dbt (List.mem_of_getElem? hp)).1
    cases d with
    | nil => exact absurd h (by decide)
    | cons a l => exact List.mem_cons_self
theorem endOk_told {c : Cnt} (hc : CntOk c) : EndOk c (toldL c) (toldD c) := by
  obtain ⟨e1, e2⟩ := (fits_told hc).ends hc
  refine ⟨fun x hx => ⟨e1 x hx, ?_⟩, (fits_told hc).nl, e2, (fits_told hc).nd⟩
  obtain ⟨p, hp, rfl⟩ := List.mem_map.mp hx
  have h := hc.piles p hp
  have h1 := h.many0; have h3 := h.many1
  exact ⟨h1, by show p.many ≤ 1010000; omega⟩
/-- the sum over the names is the sum of all -/
theorem sum_names {α : Type} (f : α → Str) (v : α → Int) {lots : List Str} (hn : lots.Nodup) : ∀ {l : List α}, (∀ x ∈ l, f x ∈ lots) → (lots.map fun n => (l.map fun x => if f x = n then v x else 0).sum).sum = (l.map v).sum
  | [], _ => by
    have : ∀ lots : List Str, (lots.map fun _ => (0 : Int)).sum = 0 := fun lots => by
      induction lots with
      | nil => rfl
      | cons n r ih => simp [ih]
    simpa using this lots
  | x :: l, h => by
    have ih := sum_names f v hn (l := l) fun y hy => h y (List.mem_cons_of_mem _ hy)
    have one : ∀ lots : List Str, lots.Nodup → f x ∈ lots → (lots.map fun n => if f x = n then v x else 0).sum = v x := fun lots => by
      induction lots with
      | nil => intro _ h; cases h
      | cons n r ih2 =>
        intro hn hm
        have zero : ∀ r : List Str, f x ∉ r → (r.map fun n => if f x = n then v x else 0).sum = 0 := fun r => by
          induction r with
          | nil => intro _; rfl
          | cons m r ih3 =>
            intro hm
            rw [List.map_cons, List.sum_cons, if_neg (show ¬ f x = m from fun e => hm (by rw [e]; exact List.mem_cons_self)), ih3 fun z => hm (List.mem_cons_of_mem _ z)]; rfl
        rw [List.map_cons, List.sum_cons]
        by_cases e : f x = n
        · rw [if_pos e, zero r (by rw [e]; exact (List.nodup_cons.mp hn).1)]; omega
        · rw [if_neg e, ih2 (List.nodup_cons.mp hn).2 ((List.mem_cons.mp hm).resolve_left e)]; omega
    have split : ∀ lots : List Str, (lots.map fun n => ((x :: l).map fun x => if f x = n then v x else 0).sum).sum = (lots.map fun n => if f x = n then v x else 0).sum + (lots.map fun n => (l.map fun x => if f x = n then v x else 0).sum).sum := fun lots => by
      induction lots with
      | nil => rfl
      | cons n r ih2 =>
        simp only [List.map_cons, List.sum_cons] at ih2 ⊢
        omega
    rw [split, one lots hn (h x List.mem_cons_self), ih, List.map_cons, List.sum_cons]
theorem sum_tally {lots : List Str} (hn : lots.Nodup) {laid : List (Str × Int)} {ds : List Str} (h1 : ∀ x ∈ laid, x.1 ∈ lots) (h2 : ∀ d ∈ ds, d ∈ lots) : (tally lots laid ds).sum = (laid.map (·.2)).sum + ds.length := by
  have a := sum_names (fun x : Str × Int => x.1) (fun x => x.2) hn h1
  have b := sum_names (fun d : Str => d) (fun _ => (1 : Int)) hn h2
  have c : (ds.map fun _ => (1 : Int)).sum = ds.length := by
    clear b h2
    induction ds with
    | nil => rfl
    | cons d r ih => simp only [List.map_cons, List.sum_cons, ih, List.length_cons]; push_cast; omega
  have e : ∀ lots : List Str, (tally lots laid ds).sum = (lots.map fun n => (laid.map fun x => if x.1 = n then x.2 else 0).sum).sum + (lots.map fun n => (ds.map fun x => if x = n then (1 : Int) else 0).sum).sum := fun lots => by
    unfold tally sumOf cntOf
    induction lots with
    | nil => rfl
    | cons n r ih => simp only [List.map_cons, List.sum_cons] at ih ⊢; omega
  rw [e lots, a, b, c]
theorem gd_ints {zs : List Int} (h : ∀ z ∈ zs, z.natAbs < 10 ^ 12) : gds 2 (zs.map .int) = true := gds_map fun z hz => by simp only [gd, decide_eq_true_eq]; exact h z hz
theorem tally_small {c : Cnt} (hc : CntOk c) {laid : List (Str × Int)} {ds : List Str} (he : EndOk c laid ds) : ∀ z ∈ tally c.lots laid ds, z.natAbs < 10 ^ 12 := fun z hz => by
  obtain ⟨n, _, rfl⟩ := List.mem_map.mp hz
  have b1 := sumOf_bd (b := 1010000) n (by decide) laid fun x hx => (he.hlaid x hx).2
  have b2 := cntOf_bd n ds
  have := hc.npiles
  have := hc.ndoubts
  have := he.nlaid
  have := he.nds
  omega
theorem repr_tally {c : Cnt} (hc : CntOk c) {laid : List (Str × Int)} {ds : List Str} (he : EndOk c laid ds) {s : Sto} : gRepr [.tup ((tally c.lots laid ds).map .int)] s = .ok (.str (pd (.tup ((tally c.lots laid ds).map .int))).shown) s := by
  refine repr_gd (n := 3) (gd_ints (tally_small hc he)) (by decide) ?_
  have := wds_map (f := Dv.int) (c := 41) (xs := tally c.lots laid ds) fun _ _ => Nat.le_refl _
  show wds _ ≤ _
  have h3 : (tally c.lots laid ds).length = c.lots.length := by simp [tally]
  have := hc.len6
  omega
/-! ### counts and ends, folded -/
theorem gTp_C {h : List Dv → Fn En} {c : Cnt} {env : En} {s : Sto} : gTp 3 h (encC c) env s = h [encS c.lots, .tup (c.piles.map encP), .tup (c.doubts.map encS)] env s := rfl
theorem gTp_E {h : List Dv → Fn En} {l : List (Str × Int)} {ds : List Str} {env : En} {s : Sto} : gTp 2 h (encE l ds) env s = h [.tup (l.map encL), encS ds] env s := rfl
theorem gTp_L {h : List Dv → Fn En} {x : Str × Int} {env : En} {s : Sto} : gTp 2 h (encL x) env s = h [.str x.1, .int x.2] env s := rfl
theorem gTp_P {h : List Dv → Fn En} {p : Pil} {env : En} {s : Sto} : gTp 4 h (encP p) env s = h [.str p.name, .int p.many, .int p.slip, encS p.others] env s := rfl
section
variable {c : Cnt} {p : Pil} {l : List (Str × Int)} {ds : List Str} {x : Str × Int} {s : Sto}
theorem ixC0 : gIx (encC c) (.int 0) s = .ok (encS c.lots) s := ix_first
theorem ixC1 : gIx (encC c) (.int 1) s = .ok (.tup (c.piles.map encP)) s := ix_second
theorem ixC2 : gIx (encC c) (.int 2) s = .ok (.tup (c.doubts.map encS)) s := ix_third
theorem ixP0 : gIx (encP p) (.int 0) s = .ok (.str p.name) s := ix_first
theorem ixP1 : gIx (encP p) (.int 1) s = .ok (.int p.many) s := ix_second
theorem ixP2 : gIx (encP p) (.int 2) s = .ok (.int p.slip) s := ix_third
theorem ixP3 : gIx (encP p) (.int 3) s = .ok (encS p.others) s := ix_fourth
theorem ixE0 : gIx (encE l ds) (.int 0) s = .ok (.tup (l.map encL)) s := ix_first
theorem ixE1 : gIx (encE l ds) (.int 1) s = .ok (encS ds) s := ix_second
theorem ixL0 : gIx (encL x) (.int 0) s = .ok (.str x.1) s := ix_first
theorem ixL1 : gIx (encL x) (.int 1) s = .ok (.int x.2) s := ix_second
theorem len_encS : gLen [encS ds] s = .ok (.int ds.length) s := by
  show Rs.ok (Dv.int ((ds.map Dv.str).length : Nat)) s = _
  rw [List.length_map]
theorem src_encS {S : Src → Sto → Prop} : srcK S (encS ds) s = S (ds.map .str, noChk) s := rfl
end
end Z

namespace Z
open PySem PySem.Spec L2

/-! ### the feed -/
structure Feed where
  cells : List Int
  spot : Int
  rest : Int
  calls : Int
def feedOb (f : Feed) : Ob := .lst [.ls (f.cells.map .int), .int f.spot, .int f.rest, .int f.calls]
section
variable {f : Feed} {r : Sto} {i : Int}
theorem fd_0 : gIx (.loc 0) (.int 0) (feedOb f :: r) = .ok (.ls (f.cells.map .int)) (feedOb f :: r) := by rfl
theorem fd_1 : gIx (.loc 0) (.int 1) (feedOb f :: r) = .ok (.int f.spot) (feedOb f :: r) := by rfl
theorem fd_2 : gIx (.loc 0) (.int 2) (feedOb f :: r) = .ok (.int f.rest) (feedOb f :: r) := by rfl
theorem fd_3 : gIx (.loc 0) (.int 3) (feedOb f :: r) = .ok (.int f.calls) (feedOb f :: r) := by rfl
theorem fp_1 : gPut (.loc 0) (.int 1) (.int i) (feedOb f :: r) = .ok () (feedOb { f with spot := i } :: r) := by rfl
theorem fp_2 : gPut (.loc 0) (.int 2) (.int i) (feedOb f :: r) = .ok () (feedOb { f with rest := i } :: r) := by rfl
theorem fp_3 : gPut (.loc 0) (.int 3) (.int i) (feedOb f :: r) = .ok () (feedOb { f with calls := i } :: r) := by rfl
end
structure Feed.Wf (f : Feed) : Prop where
  c0 : 0 ≤ f.calls
  r0 : 0 ≤ f.rest
  s0 : 0 ≤ f.spot
theorem eq_nilI {xs : List Int} {s : Sto} : gEq (.ls (xs.map .int)) (.ls []) s = .ok (.bl xs.isEmpty) s := by
  have h1 : pyOf s (.ls (xs.map .int)) = some (.list (xs.map .int)) := by
    show ((xs.map Dv.int).mapM (py s 39)).map _ = _
    rw [mapM_map (g := py s 39) (f := Dv.int) (h := PyData.int) (xs := xs) fun x _ => rfl]; rfl
  have h2 : pyOf s (.ls []) = some (.list []) := rfl
  have h3 : SeqAt.shaped (.list (xs.map .int)) = true := by
    have a : ∀ xs : List Int, PyData.canLayAll0 (xs.map .int) = true ∧ PyData.depthAll (xs.map .int) = 0 := by
      intro xs
      induction xs with
      | nil => exact ⟨by simp [PyData.canLayAll0], by simp [PyData.depthAll]⟩
      | cons x l ih => exact ⟨by simp [PyData.canLayAll0, PyData.canLay0, ih.1], by simpa [PyData.depthAll, PyData.depth] using ih.2⟩
    simp [SeqAt.shaped, PyData.canLay0, PyData.depth, (a xs).1, (a xs).2]
  have h4 : SeqAt.shaped (.list []) = true := by simp [SeqAt.shaped, PyData.canLay0, PyData.canLayAll0, PyData.depth, PyData.depthAll]
  show (match pyOf s (.ls (xs.map .int)), pyOf s (.ls []) with | some p, some q => Rs.iff (SeqAt.shaped p && SeqAt.shaped q) (Rs.ok (Dv.bl (PyData.eqv p q)) s) | _, _ => .bad) = _
  rw [h1, h2]
  show Rs.iff (SeqAt.shaped (.list (xs.map .int)) && SeqAt.shaped (.list [])) _ = _
  rw [h3, h4]
  cases xs with
  | nil => simp [Rs.iff, PyData.eqv, PyData.eqvAll]
  | cons x l => simp [Rs.iff, PyData.eqv, PyData.eqvAll]
theorem ne_nilI {xs : List Int} {s : Sto} : gNe (.ls (xs.map .int)) (.ls []) s = .ok (.bl (!xs.isEmpty)) s := by
  show (gEq (.ls (xs.map .int)) (.ls []) s).bind _ = _
  rw [eq_nilI]; rfl
theorem ne_nil {xs : List Str} {s : Sto} (hs : ∀ x ∈ xs, PyData.strOk x = true) : gNe (.ls (xs.map .str)) (.ls []) s = .ok (.bl (!xs.isEmpty)) s := by
  show (gEq (.ls (xs.map .str)) (.ls []) s).bind _ = _
  rw [eq_nil hs]; rfl
def bSource : Fn Ct := fRet (fNew (fLst (fCons (fSl (fVar 0) (fNoPart) (fPart (fC (.int 63)))) (fCons (fC (.int 0)) (fCons (fC (.int 0)) (fCons (fC (.int 0)) (fNil)))))))
def finN (T : Dv → Sto → Prop) : Ct → Sto → Prop
  | .next _, s => T .non s
  | .ret d, s => T d s
  | _, _ => False
theorem finN_ret {T : Dv → Sto → Prop} {d : Dv} {s : Sto} : finN T (.ret d) s = T d s := rfl
theorem finN_next {T : Dv → Sto → Prop} {env : En} {s : Sto} : finN T (.next env) s = T .non s := rfl
theorem ok_defN {n m : Nat} {body : Fn Ct} {ds : List Dv} {s : Sto} {T : Dv → Sto → Prop} : Ok (fDefN n m body ds s) T ↔ (ds.length == n) = true ∧ Ok (body (ds.map some ++ List.replicate (m - n) none) s) (finN T) := by
  unfold fDefN
  rw [ok_iff, ok_bind]
  refine and_congr_right fun _ => ?_
  cases body (ds.map some ++ List.replicate (m - n) none) s with
  | ok c s1 => cases c <;> exact Iff.rfl
  | _ => exact Iff.rfl
def SourceS (φ : Phi) : Prop := ∀ ns : List Int, Ok (φ [.ls (ns.map .int)] []) fun d s' => ∃ f : Feed, d = .loc 0 ∧ s' = [feedOb f] ∧ f.Wf ∧ f.calls = 0
theorem source_spec : SourceS (fDefN 1 1 bSource) := by
  intro ns
  rw [ok_defN]
  refine ⟨rfl, ?_⟩
  unfold bSource
  have h : cutD (ns.map Dv.int) none (some 63) = (ns.take 63).map Dv.int := by rw [cut_take (by decide), List.map_take]; rfl
  have e : ∀ s : Sto, gSl (.ls (ns.map Dv.int)) none (some 63) s = .ok (.ls ((ns.take 63).map Dv.int)) s := fun s => by
    show Rs.ok (Dv.ls (cutD (ns.map Dv.int) none (some 63))) s = _
    rw [h]
  simp only [ok_ok, kDrop_ap, kRet_ap, kSet_ap, kCons2_ap, kCons_ap, kTup_ap, kLst_ap, kVal_ap, kNew_ap, kBin2_ap, kBin_ap, kUn_ap, kCall_ap, kCallL_ap, kNotT_ap, kAndT_ap, kOrT_ap, kIf_ap, kIfS_ap, kAnd_ap, kOr_ap, kNot_ap, kMt2_ap, kMt_ap, kPut4_ap, kPut3_ap, kPut2_ap, kPut_ap, kExt2_ap, kExt_ap, kAsg2_ap, kAsg_ap, kFor_ap, kLc_ap, kSl3_ap, kSl2_ap, kSl_ap, kGs_ap, ok_seq, sq_next, sq_ret, sq_brk, sq_cont, ok_nop, ok_brk, ok_cont, ok_drop, ok_ret, ok_retN, ok_set, ok_var0, ok_varS, ok_c, ok_nil, ok_cons, ok_tup, ok_lst, ok_val, ok_new, ok_bin, ok_un, ok_call, ok_callL, ok_test, tst_bl, ok_notT, ok_andT, ok_orT, ok_if, ok_ifS, ok_and, ok_or, ok_not, ok_mt, ok_put, ok_extend, pr2_mk, ok_par2, ok_asg, ok_for, ok_lc, ok_yes, ok_noPart, prt_int, ok_part, ok_sl, ok_gNm, ok_gTp, ok_gsN, ok_gsC, rg1_mk, rg2_mk, ok_rng1, ok_rng2, srcK_tup, srcK_ls, ok_src, finK_next, finK_ret, List.set_cons_zero, List.set_cons_succ, List.map_cons, List.map_nil, List.replicate, List.cons_append, List.nil_append, List.length_cons, List.length_nil, Bool.false_eq_true, eq_self, if_true, if_false, Nat.zero_add, e, finN_ret]
  refine ⟨rfl, ?_⟩
  exact ⟨⟨ns.take 63, 0, 0, 0⟩, by first | rfl | trivial, rfl, ⟨Int.le_refl _, Int.le_refl _, Int.le_refl _⟩, rfl⟩
def bDrawE : Fn Ct :=
  (fSeq (fSet 4 (fBin gMod (fBin gPow (fBin gAdd (fBin gAdd (fBin gMod (fVar 3) (fC (.int 2147483629))) (fBin gMul (fC (.int 6007)) (fBin gIx (fVar 0) (fC (.int 3))))) (fC (.int 19))) (fC (.int 5))) (fC (.int 2147483587))))
  (fRet (fBin gMod (fBin gDiv (fBin gMod (fBin gPow (fBin gAdd (fVar 4) (fBin gMul (fC (.int 7927)) (fBin gIx (fVar 0) (fC (.int 3))))) (fC (.int 5))) (fC (.int 2147483549))) (fC (.int 8))) (fVar 1))))
def bDrawM : Fn Ct :=
  (fSeq (fPut (fVar 0) (fC (.int 1)) (fBin gAdd (fBin gIx (fVar 0) (fC (.int 1))) (fC (.int 1))))
  (fSeq (fIfS (fAndT (fTest (fBin gGe (fVar 3) (fBin gPow (fC (.int 10)) (fC (.int 18))))) (fTest (fBin gLe (fBin gIx (fVar 0) (fC (.int 1))) (fCall gLen (fCons (fBin gIx (fVar 0) (fC (.int 0))) (fNil)))))) (fSeq (fPut (fVar 0) (fC (.int 2)) (fBin gDiv (fVar 3) (fVar 1)))
  (fRet (fBin gMod (fVar 3) (fVar 1)))) (fNop))
  bDrawE))
def bDraw : Fn Ct :=
  fSeq (fPut (fVar 0) (fC (.int 3)) (fBin gAdd (fBin gIx (fVar 0) (fC (.int 3))) (fC (.int 1))))
  (fSeq (fIfS (fTest (fBin gGt (fBin gIx (fVar 0) (fC (.int 2))) (fC (.int 0)))) (fSeq (fSet 2 (fBin gMod (fBin gIx (fVar 0) (fC (.int 2))) (fVar 1)))
  (fSeq (fPut (fVar 0) (fC (.int 2)) (fBin gDiv (fBin gIx (fVar 0) (fC (.int 2))) (fVar 1)))
  (fRet (fVar 2)))) (fNop))
  (fSeq (fSet 3 (fIf (fTest (fBin gNe (fBin gIx (fVar 0) (fC (.int 0))) (fVal (fLst (fNil))))) (fBin gIx (fBin gIx (fVar 0) (fC (.int 0))) (fBin gMod (fBin gIx (fVar 0) (fC (.int 1))) (fCall gLen (fCons (fBin gIx (fVar 0) (fC (.int 0))) (fNil))))) (fC (.int 0))))
  bDrawM))
def DrawS (φ : Phi) : Prop := ∀ (f : Feed) (r : Sto) (m : Int), f.Wf → f.calls < 1000000 → 1 ≤ m → m < 2 ^ 60 → Fl r → Ok (φ [.loc 0, .int m] (feedOb f :: r)) fun d s' => ∃ (x : Int) (f' : Feed), d = .int x ∧ 0 ≤ x ∧ x < m ∧ s' = feedOb f' :: r ∧ f'.Wf ∧ f'.calls = f.calls + 1
theorem Fl.feed {f : Feed} {r : Sto} (h : Fl r) : Fl (feedOb f :: r) := fun o ho => by
  rcases List.mem_cons.mp ho with z | z
  · subst z
    show belows 0 [.ls (f.cells.map .int), .int f.spot, .int f.rest, .int f.calls] = true
    exact belows_cons (below_ls (belows_ints _ _)) rfl
  · exact h o z
theorem fin_feed {t : Feed} {r l : Sto} {d : Dv} {T : Dv → Sto → Prop} (hf : Fl r) (hd : below 0 d = true) (h : T d (feedOb t :: r)) : Ok (gcZ (r.length + 1) d (feedOb t :: (r ++ l))) T :=
  ok_gc (b := feedOb t :: r) rfl hf.feed (below_mono (Nat.zero_le _) hd) h
theorem fin_feed0 {t : Feed} {r : Sto} {d : Dv} {T : Dv → Sto → Prop} (hf : Fl r) (hd : below 0 d = true) (h : T d (feedOb t :: r)) : Ok (gcZ (r.length + 1) d (feedOb t :: r)) T :=
  ok_gc0 (b := feedOb t :: r) rfl hf.feed (below_mono (Nat.zero_le _) hd) h
theorem draw_spec : DrawS (fDef 2 5 bDraw) := by
  intro f r m hw hc hm hm2 hf
  have fin : ∀ {t' : Feed} {x : Int} {T : Dv → Sto → Prop}, T (.int x) (feedOb t' :: r) → Ok (gcZ (r.length + 1) (.int x) (feedOb t' :: r)) T := fun h => fin_feed0 hf rfl h
  rw [ok_def]
  refine ⟨rfl, ?_⟩
  have hmp : 0 < m := by omega
  have hm64 : m < 2 ^ 64 := by omega
  have hw1 := hw.c0
  have hs0 := hw.s0
  -- from the cell on
  have mid : ∀ (x : Int) (v2 : Option Dv), Ok (bDrawM [some (.loc 0), some (.int m), v2, some (.int x), none] (feedOb { cells := f.cells, spot := f.spot, rest := f.rest, calls := f.calls + 1 } :: r))
      (finK (r.length + 1) fun d s' => ∃ (x : Int) (f' : Feed), d = .int x ∧ 0 ≤ x ∧ x < m ∧ s' = feedOb f' :: r ∧ f'.Wf ∧ f'.calls = f.calls + 1) := by
    intro x v2
    have tl : Ok (bDrawE [some (.loc 0), some (.int m), v2, some (.int x), none] (feedOb { cells := f.cells, spot := f.spot + 1, rest := f.rest, calls := f.calls + 1 } :: r))
        (finK (r.length + 1) fun d s' => ∃ (x : Int) (f' : Feed), d = .int x ∧ 0 ≤ x ∧ x < m ∧ s' = feedOb f' :: r ∧ f'.Wf ∧ f'.calls = f.calls + 1) := by
      unfold bDrawE
      have g1 : 0 ≤ x % 2147483629 ∧ x % 2147483629 < 2147483629 := ⟨Int.emod_nonneg _ (by decide), Int.emod_lt_of_pos _ (by decide)⟩
      simp only [ok_ok, kDrop_ap, kRet_ap, kSet_ap, kCons2_ap, kCons_ap, kTup_ap, kLst_ap, kVal_ap, kNew_ap, kBin2_ap, kBin_ap, kUn_ap, kCall_ap, kCallL_ap, kNotT_ap, kAndT_ap, kOrT_ap, kIf_ap, kIfS_ap, kAnd_ap, kOr_ap, kNot_ap, kMt2_ap, kMt_ap, kPut4_ap, kPut3_ap, kPut2_ap, kPut_ap, kExt2_ap, kExt_ap, kAsg2_ap, kAsg_ap, kFor_ap, kLc_ap, kSl3_ap, kSl2_ap, kSl_ap, kGs_ap, ok_seq, sq_next, sq_ret, sq_brk, sq_cont, ok_nop, ok_brk, ok_cont, ok_drop, ok_ret, ok_retN, ok_set, ok_var0, ok_varS, ok_c, ok_nil, ok_cons, ok_tup, ok_lst, ok_val, ok_new, ok_bin, ok_un, ok_call, ok_callL, ok_test, tst_bl, ok_notT, ok_andT, ok_orT, ok_if, ok_ifS, ok_and, ok_or, ok_not, ok_mt, ok_put, ok_extend, pr2_mk, ok_par2, ok_asg, ok_for, ok_lc, ok_yes, ok_noPart, prt_int, ok_part, ok_sl, ok_gNm, ok_gTp, ok_gsN, ok_gsC, rg1_mk, rg2_mk, ok_rng1, ok_rng2, srcK_tup, srcK_ls, ok_src, finK_next, finK_ret, List.set_cons_zero, List.set_cons_succ, List.map_cons, List.map_nil, List.replicate, List.cons_append, List.nil_append, List.length_cons, List.length_nil, Bool.false_eq_true, eq_self, if_true, if_false, Nat.zero_add, mod_ok (show (0 : Int) < 2147483629 by decide), fd_3, mul_ok (show -(2 ^ 64) < (6007 : Int) ∧ (6007 : Int) < 2 ^ 64 by decide), add_int]
      rw [pow_ok (by decide) (by constructor <;> omega)]
      simp only [ok_ok, kDrop_ap, kRet_ap, kSet_ap, kCons2_ap, kCons_ap, kTup_ap, kLst_ap, kVal_ap, kNew_ap, kBin2_ap, kBin_ap, kUn_ap, kCall_ap, kCallL_ap, kNotT_ap, kAndT_ap, kOrT_ap, kIf_ap, kIfS_ap, kAnd_ap, kOr_ap, kNot_ap, kMt2_ap, kMt_ap, kPut4_ap, kPut3_ap, kPut2_ap, kPut_ap, kExt2_ap, kExt_ap, kAsg2_ap, kAsg_ap, kFor_ap, kLc_ap, kSl3_ap, kSl2_ap, kSl_ap, kGs_ap, ok_seq, sq_next, sq_ret, sq_brk, sq_cont, ok_nop, ok_brk, ok_cont, ok_drop, ok_ret, ok_retN, ok_set, ok_var0, ok_varS, ok_c, ok_nil, ok_cons, ok_tup, ok_lst, ok_val, ok_new, ok_bin, ok_un, ok_call, ok_callL, ok_test, tst_bl, ok_notT, ok_andT, ok_orT, ok_if, ok_ifS, ok_and, ok_or, ok_not, ok_mt, ok_put, ok_extend, pr2_mk, ok_par2, ok_asg, ok_for, ok_lc, ok_yes, ok_noPart, prt_int, ok_part, ok_sl, ok_gNm, ok_gTp, ok_gsN, ok_gsC, rg1_mk, rg2_mk, ok_rng1, ok_rng2, srcK_tup, srcK_ls, ok_src, finK_next, finK_ret, List.set_cons_zero, List.set_cons_succ, List.map_cons, List.map_nil, List.replicate, List.cons_append, List.nil_append, List.length_cons, List.length_nil, Bool.false_eq_true, eq_self, if_true, if_false, Nat.zero_add, mod_ok (show (0 : Int) < 2147483587 by decide), fd_3, mul_ok (show -(2 ^ 64) < (7927 : Int) ∧ (7927 : Int) < 2 ^ 64 by decide), add_int]
      have g2 : 0 ≤ (x % 2147483629 + 6007 * (f.calls + 1) + 19) ^ (Int.toNat 5) % 2147483587 ∧ (x % 2147483629 + 6007 * (f.calls + 1) + 19) ^ (Int.toNat 5) % 2147483587 < 2147483587 := ⟨Int.emod_nonneg _ (by decide), Int.emod_lt_of_pos _ (by decide)⟩
      generalize (x % 2147483629 + 6007 * (f.calls + 1) + 19) ^ (Int.toNat 5) % 2147483587 = y at g2 ⊢
      rw [pow_ok (by decide) (by constructor <;> omega)]
      simp only [ok_ok, kDrop_ap, kRet_ap, kSet_ap, kCons2_ap, kCons_ap, kTup_ap, kLst_ap, kVal_ap, kNew_ap, kBin2_ap, kBin_ap, kUn_ap, kCall_ap, kCallL_ap, kNotT_ap, kAndT_ap, kOrT_ap, kIf_ap, kIfS_ap, kAnd_ap, kOr_ap, kNot_ap, kMt2_ap, kMt_ap, kPut4_ap, kPut3_ap, kPut2_ap, kPut_ap, kExt2_ap, kExt_ap, kAsg2_ap, kAsg_ap, kFor_ap, kLc_ap, kSl3_ap, kSl2_ap, kSl_ap, kGs_ap, ok_seq, sq_next, sq_ret, sq_brk, sq_cont, ok_nop, ok_brk, ok_cont, ok_drop, ok_ret, ok_retN, ok_set, ok_var0, ok_varS, ok_c, ok_nil, ok_cons, ok_tup, ok_lst, ok_val, ok_new, ok_bin, ok_un, ok_call, ok_callL, ok_test, tst_bl, ok_notT, ok_andT, ok_orT, ok_if, ok_ifS, ok_and, ok_or, ok_not, ok_mt, ok_put, ok_extend, pr2_mk, ok_par2, ok_asg, ok_for, ok_lc, ok_yes, ok_noPart, prt_int, ok_part, ok_sl, ok_gNm, ok_gTp, ok_gsN, ok_gsC, rg1_mk, rg2_mk, ok_rng1, ok_rng2, srcK_tup, srcK_ls, ok_src, finK_next, finK_ret, List.set_cons_zero, List.set_cons_succ, List.map_cons, List.map_nil, List.replicate, List.cons_append, List.nil_append, List.length_cons, List.length_nil, Bool.false_eq_true, eq_self, if_true, if_false, Nat.zero_add, mod_ok (show (0 : Int) < 2147483549 by decide), div_ok (show (0 : Int) < 8 by decide) (by decide), mod_ok hmp]
      exact fin ⟨_, _, rfl, Int.emod_nonneg _ (by omega), Int.emod_lt_of_pos _ hmp, rfl, ⟨by show 0 ≤ f.calls + 1; omega, hw.r0, by show 0 ≤ f.spot + 1; omega⟩, rfl⟩
    unfold bDrawM
    simp only [ok_ok, kDrop_ap, kRet_ap, kSet_ap, kCons2_ap, kCons_ap, kTup_ap, kLst_ap, kVal_ap, kNew_ap, kBin2_ap, kBin_ap, kUn_ap, kCall_ap, kCallL_ap, kNotT_ap, kAndT_ap, kOrT_ap, kIf_ap, kIfS_ap, kAnd_ap, kOr_ap, kNot_ap, kMt2_ap, kMt_ap, kPut4_ap, kPut3_ap, kPut2_ap, kPut_ap, kExt2_ap, kExt_ap, kAsg2_ap, kAsg_ap, kFor_ap, kLc_ap, kSl3_ap, kSl2_ap, kSl_ap, kGs_ap, ok_seq, sq_next, sq_ret, sq_brk, sq_cont, ok_nop, ok_brk, ok_cont, ok_drop, ok_ret, ok_retN, ok_set, ok_var0, ok_varS, ok_c, ok_nil, ok_cons, ok_tup, ok_lst, ok_val, ok_new, ok_bin, ok_un, ok_call, ok_callL, ok_test, tst_bl, ok_notT, ok_andT, ok_orT, ok_if, ok_ifS, ok_and, ok_or, ok_not, ok_mt, ok_put, ok_extend, pr2_mk, ok_par2, ok_asg, ok_for, ok_lc, ok_yes, ok_noPart, prt_int, ok_part, ok_sl, ok_gNm, ok_gTp, ok_gsN, ok_gsC, rg1_mk, rg2_mk, ok_rng1, ok_rng2, srcK_tup, srcK_ls, ok_src, finK_next, finK_ret, List.set_cons_zero, List.set_cons_succ, List.map_cons, List.map_nil, List.replicate, List.cons_append, List.nil_append, List.length_cons, List.length_nil, Bool.false_eq_true, eq_self, if_true, if_false, Nat.zero_add, fd_1, add_int, fp_1, pow_ok (show (0 : Int) ≤ 18 ∧ (18 : Int) ≤ 1000000 by decide) (show -(2 ^ 64) < (10 : Int) ∧ (10 : Int) < 2 ^ 64 by decide), ge_int, decide_eq_true_eq]
    split
    · rename_i h2
      simp only [ok_ok, kDrop_ap, kRet_ap, kSet_ap, kCons2_ap, kCons_ap, kTup_ap, kLst_ap, kVal_ap, kNew_ap, kBin2_ap, kBin_ap, kUn_ap, kCall_ap, kCallL_ap, kNotT_ap, kAndT_ap, kOrT_ap, kIf_ap, kIfS_ap, kAnd_ap, kOr_ap, kNot_ap, kMt2_ap, kMt_ap, kPut4_ap, kPut3_ap, kPut2_ap, kPut_ap, kExt2_ap, kExt_ap, kAsg2_ap, kAsg_ap, kFor_ap, kLc_ap, kSl3_ap, kSl2_ap, kSl_ap, kGs_ap, ok_seq, sq_next, sq_ret, sq_brk, sq_cont, ok_nop, ok_brk, ok_cont, ok_drop, ok_ret, ok_retN, ok_set, ok_var0, ok_varS, ok_c, ok_nil, ok_cons, ok_tup, ok_lst, ok_val, ok_new, ok_bin, ok_un, ok_call, ok_callL, ok_test, tst_bl, ok_notT, ok_andT, ok_orT, ok_if, ok_ifS, ok_and, ok_or, ok_not, ok_mt, ok_put, ok_extend, pr2_mk, ok_par2, ok_asg, ok_for, ok_lc, ok_yes, ok_noPart, prt_int, ok_part, ok_sl, ok_gNm, ok_gTp, ok_gsN, ok_gsC, rg1_mk, rg2_mk, ok_rng1, ok_rng2, srcK_tup, srcK_ls, ok_src, finK_next, finK_ret, List.set_cons_zero, List.set_cons_succ, List.map_cons, List.map_nil, List.replicate, List.cons_append, List.nil_append, List.length_cons, List.length_nil, Bool.false_eq_true, eq_self, if_true, if_false, Nat.zero_add, fd_0, fd_1, len_ls, le_int, decide_eq_true_eq]
      split
      · simp only [ok_ok, kDrop_ap, kRet_ap, kSet_ap, kCons2_ap, kCons_ap, kTup_ap, kLst_ap, kVal_ap, kNew_ap, kBin2_ap, kBin_ap, kUn_ap, kCall_ap, kCallL_ap, kNotT_ap, kAndT_ap, kOrT_ap, kIf_ap, kIfS_ap, kAnd_ap, kOr_ap, kNot_ap, kMt2_ap, kMt_ap, kPut4_ap, kPut3_ap, kPut2_ap, kPut_ap, kExt2_ap, kExt_ap, kAsg2_ap, kAsg_ap, kFor_ap, kLc_ap, kSl3_ap, kSl2_ap, kSl_ap, kGs_ap, ok_seq, sq_next, sq_ret, sq_brk, sq_cont, ok_nop, ok_brk, ok_cont, ok_drop, ok_ret, ok_retN, ok_set, ok_var0, ok_varS, ok_c, ok_nil, ok_cons, ok_tup, ok_lst, ok_val, ok_new, ok_bin, ok_un, ok_call, ok_callL, ok_test, tst_bl, ok_notT, ok_andT, ok_orT, ok_if, ok_ifS, ok_and, ok_or, ok_not, ok_mt, ok_put, ok_extend, pr2_mk, ok_par2, ok_asg, ok_for, ok_lc, ok_yes, ok_noPart, prt_int, ok_part, ok_sl, ok_gNm, ok_gTp, ok_gsN, ok_gsC, rg1_mk, rg2_mk, ok_rng1, ok_rng2, srcK_tup, srcK_ls, ok_src, finK_next, finK_ret, List.set_cons_zero, List.set_cons_succ, List.map_cons, List.map_nil, List.replicate, List.cons_append, List.nil_append, List.length_cons, List.length_nil, Bool.false_eq_true, eq_self, if_true, if_false, Nat.zero_add, div_ok hmp hm64, fp_2, mod_ok hmp]
        refine fin ⟨_, _, rfl, Int.emod_nonneg _ (by omega), Int.emod_lt_of_pos _ hmp, rfl, ⟨by show 0 ≤ f.calls + 1; omega, Int.ediv_nonneg ?_ (by omega), by show 0 ≤ f.spot + 1; omega⟩, rfl⟩
        have : (10 : Int) ^ (Int.toNat 18) = 1000000000000000000 := by decide
        omega
      · exact tl
    · exact tl
  unfold bDraw
  simp only [ok_ok, kDrop_ap, kRet_ap, kSet_ap, kCons2_ap, kCons_ap, kTup_ap, kLst_ap, kVal_ap, kNew_ap, kBin2_ap, kBin_ap, kUn_ap, kCall_ap, kCallL_ap, kNotT_ap, kAndT_ap, kOrT_ap, kIf_ap, kIfS_ap, kAnd_ap, kOr_ap, kNot_ap, kMt2_ap, kMt_ap, kPut4_ap, kPut3_ap, kPut2_ap, kPut_ap, kExt2_ap, kExt_ap, kAsg2_ap, kAsg_ap, kFor_ap, kLc_ap, kSl3_ap, kSl2_ap, kSl_ap, kGs_ap, ok_seq, sq_next, sq_ret, sq_brk, sq_cont, ok_nop, ok_brk, ok_cont, ok_drop, ok_ret, ok_retN, ok_set, ok_var0, ok_varS, ok_c, ok_nil, ok_cons, ok_tup, ok_lst, ok_val, ok_new, ok_bin, ok_un, ok_call, ok_callL, ok_test, tst_bl, ok_notT, ok_andT, ok_orT, ok_if, ok_ifS, ok_and, ok_or, ok_not, ok_mt, ok_put, ok_extend, pr2_mk, ok_par2, ok_asg, ok_for, ok_lc, ok_yes, ok_noPart, prt_int, ok_part, ok_sl, ok_gNm, ok_gTp, ok_gsN, ok_gsC, rg1_mk, rg2_mk, ok_rng1, ok_rng2, srcK_tup, srcK_ls, ok_src, finK_next, finK_ret, List.set_cons_zero, List.set_cons_succ, List.map_cons, List.map_nil, List.replicate, List.cons_append, List.nil_append, List.length_cons, List.length_nil, Bool.false_eq_true, eq_self, if_true, if_false, Nat.zero_add, fd_3, add_int, fp_3, fd_2, gt_int, decide_eq_true_eq]
  split
  · rename_i h1
    simp only [ok_ok, kDrop_ap, kRet_ap, kSet_ap, kCons2_ap, kCons_ap, kTup_ap, kLst_ap, kVal_ap, kNew_ap, kBin2_ap, kBin_ap, kUn_ap, kCall_ap, kCallL_ap, kNotT_ap, kAndT_ap, kOrT_ap, kIf_ap, kIfS_ap, kAnd_ap, kOr_ap, kNot_ap, kMt2_ap, kMt_ap, kPut4_ap, kPut3_ap, kPut2_ap, kPut_ap, kExt2_ap, kExt_ap, kAsg2_ap, kAsg_ap, kFor_ap, kLc_ap, kSl3_ap, kSl2_ap, kSl_ap, kGs_ap, ok_seq, sq_next, sq_ret, sq_brk, sq_cont, ok_nop, ok_brk, ok_cont, ok_drop, ok_ret, ok_retN, ok_set, ok_var0, ok_varS, ok_c, ok_nil, ok_cons, ok_tup, ok_lst, ok_val, ok_new, ok_bin, ok_un, ok_call, ok_callL, ok_test, tst_bl, ok_notT, ok_andT, ok_orT, ok_if, ok_ifS, ok_and, ok_or, ok_not, ok_mt, ok_put, ok_extend, pr2_mk, ok_par2, ok_asg, ok_for, ok_lc, ok_yes, ok_noPart, prt_int, ok_part, ok_sl, ok_gNm, ok_gTp, ok_gsN, ok_gsC, rg1_mk, rg2_mk, ok_rng1, ok_rng2, srcK_tup, srcK_ls, ok_src, finK_next, finK_ret, List.set_cons_zero, List.set_cons_succ, List.map_cons, List.map_nil, List.replicate, List.cons_append, List.nil_append, List.length_cons, List.length_nil, Bool.false_eq_true, eq_self, if_true, if_false, Nat.zero_add, mod_ok hmp, fd_2, div_ok hmp hm64, fp_2]
    exact fin ⟨_, _, rfl, Int.emod_nonneg _ (by omega), Int.emod_lt_of_pos _ hmp, rfl, ⟨by show 0 ≤ f.calls + 1; omega, Int.ediv_nonneg hw.r0 (by omega), hs0⟩, rfl⟩
  · simp only [ok_ok, kDrop_ap, kRet_ap, kSet_ap, kCons2_ap, kCons_ap, kTup_ap, kLst_ap, kVal_ap, kNew_ap, kBin2_ap, kBin_ap, kUn_ap, kCall_ap, kCallL_ap, kNotT_ap, kAndT_ap, kOrT_ap, kIf_ap, kIfS_ap, kAnd_ap, kOr_ap, kNot_ap, kMt2_ap, kMt_ap, kPut4_ap, kPut3_ap, kPut2_ap, kPut_ap, kExt2_ap, kExt_ap, kAsg2_ap, kAsg_ap, kFor_ap, kLc_ap, kSl3_ap, kSl2_ap, kSl_ap, kGs_ap, ok_seq, sq_next, sq_ret, sq_brk, sq_cont, ok_nop, ok_brk, ok_cont, ok_drop, ok_ret, ok_retN, ok_set, ok_var0, ok_varS, ok_c, ok_nil, ok_cons, ok_tup, ok_lst, ok_val, ok_new, ok_bin, ok_un, ok_call, ok_callL, ok_test, tst_bl, ok_notT, ok_andT, ok_orT, ok_if, ok_ifS, ok_and, ok_or, ok_not, ok_mt, ok_put, ok_extend, pr2_mk, ok_par2, ok_asg, ok_for, ok_lc, ok_yes, ok_noPart, prt_int, ok_part, ok_sl, ok_gNm, ok_gTp, ok_gsN, ok_gsC, rg1_mk, rg2_mk, ok_rng1, ok_rng2, srcK_tup, srcK_ls, ok_src, finK_next, finK_ret, List.set_cons_zero, List.set_cons_succ, List.map_cons, List.map_nil, List.replicate, List.cons_append, List.nil_append, List.length_cons, List.length_nil, Bool.false_eq_true, eq_self, if_true, if_false, Nat.zero_add, fd_0, ne_nilI]
    refine ⟨rfl, ?_⟩
    split
    · rename_i h1 h2
      have hl : f.cells.length ≠ 0 := by
        intro e
        rw [List.eq_nil_of_length_eq_zero e] at h2
        exact absurd h2 (by decide)
      have hl2 : (0 : Int) < ((f.cells.map Dv.int).length : Nat) := by rw [List.length_map]; omega
      simp only [ok_ok, kDrop_ap, kRet_ap, kSet_ap, kCons2_ap, kCons_ap, kTup_ap, kLst_ap, kVal_ap, kNew_ap, kBin2_ap, kBin_ap, kUn_ap, kCall_ap, kCallL_ap, kNotT_ap, kAndT_ap, kOrT_ap, kIf_ap, kIfS_ap, kAnd_ap, kOr_ap, kNot_ap, kMt2_ap, kMt_ap, kPut4_ap, kPut3_ap, kPut2_ap, kPut_ap, kExt2_ap, kExt_ap, kAsg2_ap, kAsg_ap, kFor_ap, kLc_ap, kSl3_ap, kSl2_ap, kSl_ap, kGs_ap, ok_seq, sq_next, sq_ret, sq_brk, sq_cont, ok_nop, ok_brk, ok_cont, ok_drop, ok_ret, ok_retN, ok_set, ok_var0, ok_varS, ok_c, ok_nil, ok_cons, ok_tup, ok_lst, ok_val, ok_new, ok_bin, ok_un, ok_call, ok_callL, ok_test, tst_bl, ok_notT, ok_andT, ok_orT, ok_if, ok_ifS, ok_and, ok_or, ok_not, ok_mt, ok_put, ok_extend, pr2_mk, ok_par2, ok_asg, ok_for, ok_lc, ok_yes, ok_noPart, prt_int, ok_part, ok_sl, ok_gNm, ok_gTp, ok_gsN, ok_gsC, rg1_mk, rg2_mk, ok_rng1, ok_rng2, srcK_tup, srcK_ls, ok_src, finK_next, finK_ret, List.set_cons_zero, List.set_cons_succ, List.map_cons, List.map_nil, List.replicate, List.cons_append, List.nil_append, List.length_cons, List.length_nil, Bool.false_eq_true, eq_self, if_true, if_false, Nat.zero_add, fd_0, fd_1, len_ls, mod_ok hl2]
      have e1 : 0 ≤ f.spot % ((f.cells.map Dv.int).length : Int) := Int.emod_nonneg _ (by omega)
      have e2 : f.spot % ((f.cells.map Dv.int).length : Int) < (f.cells.map Dv.int).length := Int.emod_lt_of_pos _ (by omega)
      have e3 : (f.spot % ((f.cells.map Dv.int).length : Int)).toNat < f.cells.length := by rw [List.length_map] at *; omega
      rw [ix_ls (d := .int f.cells[(f.spot % ((f.cells.map Dv.int).length : Int)).toNat]) e1 (by rw [List.getElem?_map, List.getElem?_eq_getElem e3]; rfl)]
      exact mid _ _
    · exact mid 0 _
end Z

namespace Z
open PySem PySem.Spec L2

/-! ### names by two letters -/
def chrS (i : Nat) : Str := ⟨#[97 + i]⟩
theorem letters_at : ∀ i : Fin 26, lettersS.cps.toList[i.val]? = some (97 + i.val) := by decide +kernel
theorem ix_letter {i : Int} {s : Sto} (h0 : 0 ≤ i) (h1 : i < 26) : gIx (.str (Str.ofString "abcdefghijklmnopqrstuvwxyz")) (.int i) s = .ok (.str (chrS i.toNat)) s := by
  have e := letters_at ⟨i.toNat, by omega⟩
  have e2 : atI lettersS.cps.toList i = some (97 + i.toNat) := by
    have := L2.atI_nat e
    rwa [show ((⟨i.toNat, by omega⟩ : Fin 26).val : Int) = i by show ((i.toNat : Nat) : Int) = i; omega] at this
  show (match atI lettersS.cps.toList i with | some c => Rs.iff (decide (lettersS.length ≤ 16777216)) (Rs.ok (Dv.str ⟨#[c]⟩) s) | none => .bad) = _
  rw [e2]
  show Rs.iff (decide (lettersS.length ≤ 16777216)) _ = _
  rw [show decide (lettersS.length ≤ 16777216) = true by decide +kernel]; rfl
theorem add_str {a b : Str} {s : Sto} (h : a.length + b.length ≤ 16777216) : gAdd (.str a) (.str b) s = .ok (.str (a ++ b)) s := by
  show Rs.iff (decide (a.length + b.length ≤ 16777216)) _ = _
  rw [decide_eq_true h]; rfl
theorem times_str {a : Str} {i : Int} {s : Sto} (h : a.length ≤ 16) (h0 : 0 ≤ i) (h1 : i ≤ 1000000) : gTimes (.str a) (.int i) s = .ok (.str (Txt.mul a i)) s := by
  show Rs.iff (decide (a.length ≤ 16) && decide (0 ≤ i) && decide (i ≤ 1000000)) _ = _
  rw [decide_eq_true h, decide_eq_true h0, decide_eq_true h1]; rfl
def poolC (i j : Nat) : List Str := [chrS i, chrS i ++ chrS j, chrS j, chrS j ++ chrS i, chrS i ++ chrS i, Txt.mul (chrS j) 8]
theorem poolC_ok : ∀ i j : Fin 26, i ≠ j → (poolC i.val j.val).Nodup ∧ ∀ x ∈ poolC i.val j.val, isWordS x = true := by decide +kernel
def bLotsC (φd : Phi) : Fn Ct :=
  fSeq (fSet 2 (fC (.str (Str.ofString "abcdefghijklmnopqrstuvwxyz"))))
  (fSeq (fSet 3 (fCall φd (fCons (fVar 0) (fCons (fC (.int 26)) (fNil)))))
  (fSeq (fPar2 4 5 (fCons (fBin gIx (fVar 2) (fVar 3)) (fCons (fBin gIx (fVar 2) (fBin gMod (fBin gAdd (fBin gAdd (fVar 3) (fC (.int 1))) (fCall φd (fCons (fVar 0) (fCons (fC (.int 25)) (fNil))))) (fC (.int 26)))) (fNil))))
  (fSeq (fSet 6 (fNew (fLst (fCons (fVar 4) (fCons (fBin gAdd (fVar 4) (fVar 5)) (fCons (fVar 5) (fCons (fBin gAdd (fVar 5) (fVar 4)) (fCons (fBin gAdd (fVar 4) (fVar 4)) (fCons (fBin gTimes (fVar 5) (fC (.int 8))) (fNil))))))))))
  (fRet (fVal (fLc (fRng1 (fCons (fVar 1) (fNil))) [7] (gNm 7) (fYes) (fMt isL gPopAt (fVar 6) (fCons (fCall φd (fCons (fVar 0) (fCons (fCall gLen (fCons (fVar 6) (fNil))) (fNil)))) (fNil)))))))))
def LotsC (φ : Phi) : Prop := ∀ (f : Feed) (r : Sto) (m : Int), f.Wf → f.calls + 20 ≤ 1000000 → 0 ≤ m → m ≤ 6 → Fl r → Ok (φ [.loc 0, .int m] (feedOb f :: r)) fun d s' => ∃ (xs : List Str) (f' : Feed), d = .ls (xs.map .str) ∧ (xs.length : Int) = m ∧ xs.Nodup ∧ (∀ x ∈ xs, isWordS x = true) ∧
  s' = feedOb f' :: r ∧ f'.Wf ∧ f.calls ≤ f'.calls ∧ f'.calls ≤ f.calls + 10
theorem lotsC_spec {φd : Phi} (ht : DrawS φd) : LotsC (fDef 2 8 (bLotsC φd)) := by
  intro f r m hw hc hm0 hm hf
  rw [ok_def]
  refine ⟨rfl, ?_⟩
  unfold bLotsC
  simp only [ok_ok, kDrop_ap, kRet_ap, kSet_ap, kCons2_ap, kCons_ap, kTup_ap, kLst_ap, kVal_ap, kNew_ap, kBin2_ap, kBin_ap, kUn_ap, kCall_ap, kCallL_ap, kNotT_ap, kAndT_ap, kOrT_ap, kIf_ap, kIfS_ap, kAnd_ap, kOr_ap, kNot_ap, kMt2_ap, kMt_ap, kPut4_ap, kPut3_ap, kPut2_ap, kPut_ap, kExt2_ap, kExt_ap, kAsg2_ap, kAsg_ap, kFor_ap, kLc_ap, kSl3_ap, kSl2_ap, kSl_ap, kGs_ap, ok_seq, sq_next, sq_ret, sq_brk, sq_cont, ok_nop, ok_brk, ok_cont, ok_drop, ok_ret, ok_retN, ok_set, ok_var0, ok_varS, ok_c, ok_nil, ok_cons, ok_tup, ok_lst, ok_val, ok_new, ok_bin, ok_un, ok_call, ok_callL, ok_test, tst_bl, ok_notT, ok_andT, ok_orT, ok_if, ok_ifS, ok_and, ok_or, ok_not, ok_mt, ok_put, ok_extend, pr2_mk, ok_par2, ok_asg, ok_for, ok_lc, ok_yes, ok_noPart, prt_int, ok_part, ok_sl, ok_gNm, ok_gTp, ok_gsN, ok_gsC, rg1_mk, rg2_mk, ok_rng1, ok_rng2, srcK_tup, srcK_ls, ok_src, finK_next, finK_ret, List.set_cons_zero, List.set_cons_succ, List.map_cons, List.map_nil, List.replicate, List.cons_append, List.nil_append, List.length_cons, List.length_nil, Bool.false_eq_true, eq_self, if_true, if_false, Nat.zero_add]
  refine (ht f r 26 hw (by omega) (by omega) (by omega) hf).mono ?_
  rintro d s ⟨at1, f1, rfl, ha0, ha1, rfl, hw1, hc1⟩
  simp only [ok_ok, kDrop_ap, kRet_ap, kSet_ap, kCons2_ap, kCons_ap, kTup_ap, kLst_ap, kVal_ap, kNew_ap, kBin2_ap, kBin_ap, kUn_ap, kCall_ap, kCallL_ap, kNotT_ap, kAndT_ap, kOrT_ap, kIf_ap, kIfS_ap, kAnd_ap, kOr_ap, kNot_ap, kMt2_ap, kMt_ap, kPut4_ap, kPut3_ap, kPut2_ap, kPut_ap, kExt2_ap, kExt_ap, kAsg2_ap, kAsg_ap, kFor_ap, kLc_ap, kSl3_ap, kSl2_ap, kSl_ap, kGs_ap, ok_seq, sq_next, sq_ret, sq_brk, sq_cont, ok_nop, ok_brk, ok_cont, ok_drop, ok_ret, ok_retN, ok_set, ok_var0, ok_varS, ok_c, ok_nil, ok_cons, ok_tup, ok_lst, ok_val, ok_new, ok_bin, ok_un, ok_call, ok_callL, ok_test, tst_bl, ok_notT, ok_andT, ok_orT, ok_if, ok_ifS, ok_and, ok_or, ok_not, ok_mt, ok_put, ok_extend, pr2_mk, ok_par2, ok_asg, ok_for, ok_lc, ok_yes, ok_noPart, prt_int, ok_part, ok_sl, ok_gNm, ok_gTp, ok_gsN, ok_gsC, rg1_mk, rg2_mk, ok_rng1, ok_rng2, srcK_tup, srcK_ls, ok_src, finK_next, finK_ret, List.set_cons_zero, List.set_cons_succ, List.map_cons, List.map_nil, List.replicate, List.cons_append, List.nil_append, List.length_cons, List.length_nil, Bool.false_eq_true, eq_self, if_true, if_false, Nat.zero_add, ix_letter ha0 ha1, add_int]
  refine (ht f1 r 25 hw1 (by omega) (by omega) (by omega) hf).mono ?_
  rintro d s ⟨b, f2, rfl, hb0, hb1, rfl, hw2, hc2⟩
  have hm26 : 0 ≤ (at1 + 1 + b) % 26 ∧ (at1 + 1 + b) % 26 < 26 := ⟨Int.emod_nonneg _ (by decide), Int.emod_lt_of_pos _ (by decide)⟩
  have hne : at1.toNat ≠ ((at1 + 1 + b) % 26).toNat := by omega
  simp only [ok_ok, kDrop_ap, kRet_ap, kSet_ap, kCons2_ap, kCons_ap, kTup_ap, kLst_ap, kVal_ap, kNew_ap, kBin2_ap, kBin_ap, kUn_ap, kCall_ap, kCallL_ap, kNotT_ap, kAndT_ap, kOrT_ap, kIf_ap, kIfS_ap, kAnd_ap, kOr_ap, kNot_ap, kMt2_ap, kMt_ap, kPut4_ap, kPut3_ap, kPut2_ap, kPut_ap, kExt2_ap, kExt_ap, kAsg2_ap, kAsg_ap, kFor_ap, kLc_ap, kSl3_ap, kSl2_ap, kSl_ap, kGs_ap, ok_seq, sq_next, sq_ret, sq_brk, sq_cont, ok_nop, ok_brk, ok_cont, ok_drop, ok_ret, ok_retN, ok_set, ok_var0, ok_varS, ok_c, ok_nil, ok_cons, ok_tup, ok_lst, ok_val, ok_new, ok_bin, ok_un, ok_call, ok_callL, ok_test, tst_bl, ok_notT, ok_andT, ok_orT, ok_if, ok_ifS, ok_and, ok_or, ok_not, ok_mt, ok_put, ok_extend, pr2_mk, ok_par2, ok_asg, ok_for, ok_lc, ok_yes, ok_noPart, prt_int, ok_part, ok_sl, ok_gNm, ok_gTp, ok_gsN, ok_gsC, rg1_mk, rg2_mk, ok_rng1, ok_rng2, srcK_tup, srcK_ls, ok_src, finK_next, finK_ret, List.set_cons_zero, List.set_cons_succ, List.map_cons, List.map_nil, List.replicate, List.cons_append, List.nil_append, List.length_cons, List.length_nil, Bool.false_eq_true, eq_self, if_true, if_false, Nat.zero_add, add_int, mod_ok (show (0 : Int) < 26 by decide), ix_letter hm26.1 hm26.2]
  generalize hj : ((at1 + 1 + b) % 26).toNat = j at hne
  have hj26 : j < 26 := by omega
  generalize hi : at1.toNat = i at hne
  have hi26 : i < 26 := by omega
  have hlen : ∀ k, (chrS k).length = 1 := fun _ => rfl
  have ea : ∀ (k l : Nat) (s : Sto), gAdd (.str (chrS k)) (.str (chrS l)) s = .ok (.str (chrS k ++ chrS l)) s := fun k l s => add_str (by rw [hlen, hlen]; decide)
  have et : ∀ (k : Nat) (s : Sto), gTimes (.str (chrS k)) (.int 8) s = .ok (.str (Txt.mul (chrS k) 8)) s := fun k s => times_str (by rw [hlen]; decide) (by decide) (by decide)
  simp only [ok_ok, kDrop_ap, kRet_ap, kSet_ap, kCons2_ap, kCons_ap, kTup_ap, kLst_ap, kVal_ap, kNew_ap, kBin2_ap, kBin_ap, kUn_ap, kCall_ap, kCallL_ap, kNotT_ap, kAndT_ap, kOrT_ap, kIf_ap, kIfS_ap, kAnd_ap, kOr_ap, kNot_ap, kMt2_ap, kMt_ap, kPut4_ap, kPut3_ap, kPut2_ap, kPut_ap, kExt2_ap, kExt_ap, kAsg2_ap, kAsg_ap, kFor_ap, kLc_ap, kSl3_ap, kSl2_ap, kSl_ap, kGs_ap, ok_seq, sq_next, sq_ret, sq_brk, sq_cont, ok_nop, ok_brk, ok_cont, ok_drop, ok_ret, ok_retN, ok_set, ok_var0, ok_varS, ok_c, ok_nil, ok_cons, ok_tup, ok_lst, ok_val, ok_new, ok_bin, ok_un, ok_call, ok_callL, ok_test, tst_bl, ok_notT, ok_andT, ok_orT, ok_if, ok_ifS, ok_and, ok_or, ok_not, ok_mt, ok_put, ok_extend, pr2_mk, ok_par2, ok_asg, ok_for, ok_lc, ok_yes, ok_noPart, prt_int, ok_part, ok_sl, ok_gNm, ok_gTp, ok_gsN, ok_gsC, rg1_mk, rg2_mk, ok_rng1, ok_rng2, srcK_tup, srcK_ls, ok_src, finK_next, finK_ret, List.set_cons_zero, List.set_cons_succ, List.map_cons, List.map_nil, List.replicate, List.cons_append, List.nil_append, List.length_cons, List.length_nil, Bool.false_eq_true, eq_self, if_true, if_false, Nat.zero_add, ea, et]
  refine ⟨rfl, inRng_small (by omega) (by omega), ?_⟩
  rw [rngD_len]
  refine ⟨decide_eq_true (by omega), ?_⟩
  obtain ⟨hpn, hpw⟩ := poolC_ok ⟨i, hi26⟩ ⟨j, hj26⟩ (fun e => hne (congrArg Fin.val e))
  refine ok_lcI (fun k acc s => ∃ (f' : Feed) (xs pool : List Str), acc = xs.map .str ∧ s = feedOb f' :: (r ++ [.lst (pool.map .str)]) ∧ xs.length = k ∧ (xs ++ pool).Perm (poolC i j) ∧ f'.Wf ∧ f'.calls = f.calls + 2 + k)
    (fun _ _ _ _ => rfl) (fun k d acc s hd h => ?_) (fun acc s h => ?_) ⟨f2, [], poolC i j, rfl, rfl, rfl, List.Perm.refl _, hw2, by push_cast; omega⟩
  · obtain ⟨f3, xs, pool, rfl, rfl, rfl, hp, hw3, hc3⟩ := h
    obtain ⟨hk, rfl⟩ := rngD_get hd
    have hpl : xs.length + pool.length = 6 := by rw [← List.length_append, hp.length_eq]; rfl
    have hl : (feedOb f3 :: (r ++ [Ob.lst (pool.map .str)]))[r.length + 1]? = some (.lst (pool.map .str)) := st_get1
    simp only [ok_ok, kDrop_ap, kRet_ap, kSet_ap, kCons2_ap, kCons_ap, kTup_ap, kLst_ap, kVal_ap, kNew_ap, kBin2_ap, kBin_ap, kUn_ap, kCall_ap, kCallL_ap, kNotT_ap, kAndT_ap, kOrT_ap, kIf_ap, kIfS_ap, kAnd_ap, kOr_ap, kNot_ap, kMt2_ap, kMt_ap, kPut4_ap, kPut3_ap, kPut2_ap, kPut_ap, kExt2_ap, kExt_ap, kAsg2_ap, kAsg_ap, kFor_ap, kLc_ap, kSl3_ap, kSl2_ap, kSl_ap, kGs_ap, ok_seq, sq_next, sq_ret, sq_brk, sq_cont, ok_nop, ok_brk, ok_cont, ok_drop, ok_ret, ok_retN, ok_set, ok_var0, ok_varS, ok_c, ok_nil, ok_cons, ok_tup, ok_lst, ok_val, ok_new, ok_bin, ok_un, ok_call, ok_callL, ok_test, tst_bl, ok_notT, ok_andT, ok_orT, ok_if, ok_ifS, ok_and, ok_or, ok_not, ok_mt, ok_put, ok_extend, pr2_mk, ok_par2, ok_asg, ok_for, ok_lc, ok_yes, ok_noPart, prt_int, ok_part, ok_sl, ok_gNm, ok_gTp, ok_gsN, ok_gsC, rg1_mk, rg2_mk, ok_rng1, ok_rng2, srcK_tup, srcK_ls, ok_src, finK_next, finK_ret, List.set_cons_zero, List.set_cons_succ, List.map_cons, List.map_nil, List.replicate, List.cons_append, List.nil_append, List.length_cons, List.length_nil, Bool.false_eq_true, eq_self, if_true, if_false, Nat.zero_add, wipeZ]
    refine ⟨isL_loc hl, ?_⟩
    simp only [ok_ok, kDrop_ap, kRet_ap, kSet_ap, kCons2_ap, kCons_ap, kTup_ap, kLst_ap, kVal_ap, kNew_ap, kBin2_ap, kBin_ap, kUn_ap, kCall_ap, kCallL_ap, kNotT_ap, kAndT_ap, kOrT_ap, kIf_ap, kIfS_ap, kAnd_ap, kOr_ap, kNot_ap, kMt2_ap, kMt_ap, kPut4_ap, kPut3_ap, kPut2_ap, kPut_ap, kExt2_ap, kExt_ap, kAsg2_ap, kAsg_ap, kFor_ap, kLc_ap, kSl3_ap, kSl2_ap, kSl_ap, kGs_ap, ok_seq, sq_next, sq_ret, sq_brk, sq_cont, ok_nop, ok_brk, ok_cont, ok_drop, ok_ret, ok_retN, ok_set, ok_var0, ok_varS, ok_c, ok_nil, ok_cons, ok_tup, ok_lst, ok_val, ok_new, ok_bin, ok_un, ok_call, ok_callL, ok_test, tst_bl, ok_notT, ok_andT, ok_orT, ok_if, ok_ifS, ok_and, ok_or, ok_not, ok_mt, ok_put, ok_extend, pr2_mk, ok_par2, ok_asg, ok_for, ok_lc, ok_yes, ok_noPart, prt_int, ok_part, ok_sl, ok_gNm, ok_gTp, ok_gsN, ok_gsC, rg1_mk, rg2_mk, ok_rng1, ok_rng2, srcK_tup, srcK_ls, ok_src, finK_next, finK_ret, List.set_cons_zero, List.set_cons_succ, List.map_cons, List.map_nil, List.replicate, List.cons_append, List.nil_append, List.length_cons, List.length_nil, Bool.false_eq_true, eq_self, if_true, if_false, Nat.zero_add, len_loc hl]
    refine (ht f3 (r ++ [.lst (pool.map .str)]) ((pool.map Dv.str).length : Int) hw3 (by omega) (by rw [List.length_map]; omega) (by rw [List.length_map]; omega) (hf.app (.one (belows_strs _ _)))).mono ?_
    rintro d s ⟨x, f4, rfl, hx0, hx1, rfl, hw4, hc4⟩
    rw [List.length_map] at hx1
    have hxn : x.toNat < pool.length := by omega
    simp only [ok_ok, kDrop_ap, kRet_ap, kSet_ap, kCons2_ap, kCons_ap, kTup_ap, kLst_ap, kVal_ap, kNew_ap, kBin2_ap, kBin_ap, kUn_ap, kCall_ap, kCallL_ap, kNotT_ap, kAndT_ap, kOrT_ap, kIf_ap, kIfS_ap, kAnd_ap, kOr_ap, kNot_ap, kMt2_ap, kMt_ap, kPut4_ap, kPut3_ap, kPut2_ap, kPut_ap, kExt2_ap, kExt_ap, kAsg2_ap, kAsg_ap, kFor_ap, kLc_ap, kSl3_ap, kSl2_ap, kSl_ap, kGs_ap, ok_seq, sq_next, sq_ret, sq_brk, sq_cont, ok_nop, ok_brk, ok_cont, ok_drop, ok_ret, ok_retN, ok_set, ok_var0, ok_varS, ok_c, ok_nil, ok_cons, ok_tup, ok_lst, ok_val, ok_new, ok_bin, ok_un, ok_call, ok_callL, ok_test, tst_bl, ok_notT, ok_andT, ok_orT, ok_if, ok_ifS, ok_and, ok_or, ok_not, ok_mt, ok_put, ok_extend, pr2_mk, ok_par2, ok_asg, ok_for, ok_lc, ok_yes, ok_noPart, prt_int, ok_part, ok_sl, ok_gNm, ok_gTp, ok_gsN, ok_gsC, rg1_mk, rg2_mk, ok_rng1, ok_rng2, srcK_tup, srcK_ls, ok_src, finK_next, finK_ret, List.set_cons_zero, List.set_cons_succ, List.map_cons, List.map_nil, List.replicate, List.cons_append, List.nil_append, List.length_cons, List.length_nil, Bool.false_eq_true, eq_self, if_true, if_false, Nat.zero_add]
    rw [popAt_loc (d := .str pool[x.toNat]) (ds := pool.map .str) st_get1 hx0 (by omega) (str_get hxn), ok_ok, st_set1]
    refine ⟨f4, xs ++ [pool[x.toNat]], pool.eraseIdx x.toNat, by simp, by rw [map_erase], by simp, ?_, hw4, by rw [hc4, hc3]; push_cast; omega⟩
    rw [List.append_assoc]
    refine List.Perm.trans (List.Perm.append_left _ ?_) hp
    show (pool[x.toNat] :: pool.eraseIdx x.toNat).Perm pool
    exact erase_perm pool x.toNat hxn
  · obtain ⟨f3, xs, pool, rfl, rfl, hxl, hp, hw3, hc3⟩ := h
    rw [rngD_len] at hxl hc3
    have hnd : (xs ++ pool).Nodup := hp.nodup_iff.mpr hpn
    simp only [ok_ok, kDrop_ap, kRet_ap, kSet_ap, kCons2_ap, kCons_ap, kTup_ap, kLst_ap, kVal_ap, kNew_ap, kBin2_ap, kBin_ap, kUn_ap, kCall_ap, kCallL_ap, kNotT_ap, kAndT_ap, kOrT_ap, kIf_ap, kIfS_ap, kAnd_ap, kOr_ap, kNot_ap, kMt2_ap, kMt_ap, kPut4_ap, kPut3_ap, kPut2_ap, kPut_ap, kExt2_ap, kExt_ap, kAsg2_ap, kAsg_ap, kFor_ap, kLc_ap, kSl3_ap, kSl2_ap, kSl_ap, kGs_ap, ok_seq, sq_next, sq_ret, sq_brk, sq_cont, ok_nop, ok_brk, ok_cont, ok_drop, ok_ret, ok_retN, ok_set, ok_var0, ok_varS, ok_c, ok_nil, ok_cons, ok_tup, ok_lst, ok_val, ok_new, ok_bin, ok_un, ok_call, ok_callL, ok_test, tst_bl, ok_notT, ok_andT, ok_orT, ok_if, ok_ifS, ok_and, ok_or, ok_not, ok_mt, ok_put, ok_extend, pr2_mk, ok_par2, ok_asg, ok_for, ok_lc, ok_yes, ok_noPart, prt_int, ok_part, ok_sl, ok_gNm, ok_gTp, ok_gsN, ok_gsC, rg1_mk, rg2_mk, ok_rng1, ok_rng2, srcK_tup, srcK_ls, ok_src, finK_next, finK_ret, List.set_cons_zero, List.set_cons_succ, List.map_cons, List.map_nil, List.replicate, List.cons_append, List.nil_append, List.length_cons, List.length_nil, Bool.false_eq_true, eq_self, if_true, if_false, Nat.zero_add]
    refine fin_feed hf (below_ls (belows_strs _ _)) ⟨xs, f3, rfl, by omega, (List.nodup_append.mp hnd).1, fun x hx => hpw x (hp.mem_iff.mp (List.mem_append.mpr (.inl hx))), rfl, hw3, by omega, by omega⟩
theorem srtS_nil : srtS [] = [] := List.eq_nil_of_length_eq_zero (by rw [srtS_len]; rfl)
/-- one of three ints, drawn -/
theorem pick3 {a b c x : Int} (h0 : 0 ≤ x) (h1 : x < 3) : ∃ y, (∀ s : Sto, gIx (.ls [.int a, .int b, .int c]) (.int x) s = .ok (.int y) s) ∧ (y = a ∨ y = b ∨ y = c) := by
  have : x = 0 ∨ x = 1 ∨ x = 2 := by omega
  rcases this with rfl | rfl | rfl
  · exact ⟨a, fun _ => rfl, .inl rfl⟩
  · exact ⟨b, fun _ => rfl, .inr (.inl rfl)⟩
  · exact ⟨c, fun _ => rfl, .inr (.inr rfl)⟩
def bPileR : Fn Ct := (fRet (fTup (fCons (fBin gIx (fVar 1) (fVar 4)) (fCons (fVar 5) (fCons (fVar 6) (fCons (fCall gTuple (fCons (fVal (fCallL gSorted (fCons (fVar 7) (fNil)))) (fNil))) (fNil)))))))
def bPileO (φd : Phi) : Fn Ct :=
  fSeq (fSet 7 (fVal (fLst (fNil))))
  (fSeq (fIfS (fAndT (fTest (fVar 3)) (fTest (fBin gEq (fCall φd (fCons (fVar 0) (fCons (fC (.int 3)) (fNil)))) (fC (.int 0))))) (fSet 7 (fSl (fVal (fLc (fSrc (fVar 1)) [8] (gNm 8) (fAndT (fTest (fBin gNe (fVar 8) (fBin gIx (fVar 1) (fVar 4)))) (fTest (fBin gEq (fCall φd (fCons (fVar 0) (fCons (fC (.int 2)) (fNil)))) (fC (.int 0))))) (fVar 8))) (fNoPart) (fPart (fC (.int 2))))) (fNop))
  bPileR)
def bPileC (φd : Phi) : Fn Ct :=
  fSeq (fSet 4 (fCall φd (fCons (fVar 0) (fCons (fCall gLen (fCons (fVar 1) (fNil))) (fNil)))))
  (fSeq (fIfS (fTest (fVar 2)) (fSeq (fSet 5 (fBin gIx (fVal (fLst (fCons (fBin gPow (fC (.int 10)) (fC (.int 6))) (fCons (fCall φd (fCons (fVar 0) (fCons (fBin gPow (fC (.int 10)) (fC (.int 6))) (fNil)))) (fCons (fC (.int 0)) (fNil)))))) (fCall φd (fCons (fVar 0) (fCons (fC (.int 3)) (fNil))))))
  (fSet 6 (fBin gIx (fVal (fLst (fCons (fBin gPow (fC (.int 10)) (fC (.int 4))) (fCons (fCall φd (fCons (fVar 0) (fCons (fBin gPow (fC (.int 10)) (fC (.int 4))) (fNil)))) (fCons (fC (.int 0)) (fNil)))))) (fCall φd (fCons (fVar 0) (fCons (fC (.int 3)) (fNil))))))) (fPar2 5 6 (fCons (fCall φd (fCons (fVar 0) (fCons (fC (.int 12)) (fNil)))) (fCons (fBin gIx (fVal (fLst (fCons (fC (.int 0)) (fCons (fC (.int 1)) (fCons (fC (.int 2)) (fCons (fC (.int 5)) (fNil))))))) (fCall φd (fCons (fVar 0) (fCons (fC (.int 4)) (fNil))))) (fNil)))))
  (bPileO φd))
def PileC (φ : Phi) : Prop := ∀ (f : Feed) (r : Sto) (lots : List Str) (g w : Bool), f.Wf → f.calls + 30 ≤ 1000000 → 1 ≤ lots.length → lots.length ≤ 6 → Fl r → Ok (φ [.loc 0, .ls (lots.map .str), .bl g, .bl w] (feedOb f :: r)) fun d s' => ∃ (p : Pil) (f' : Feed), d = encP p ∧ PilOk lots p ∧ (w = false → p.others = []) ∧
  s' = feedOb f' :: r ∧ f'.Wf ∧ f.calls ≤ f'.calls ∧ f'.calls ≤ f.calls + 20
theorem pileC_spec {φd : Phi} (ht : DrawS φd) : PileC (fDef 4 9 (bPileC φd)) := by
  intro f r lots g w hw hc hl1 hl6 hf
  rw [ok_def]
  refine ⟨rfl, ?_⟩
  -- the others
  have oth : ∀ (f1 : Feed) (x many slip : Int), f1.Wf → f.calls ≤ f1.calls → f1.calls ≤ f.calls + 6 → 0 ≤ x → x < lots.length → 0 ≤ many → many ≤ 1000000 → 0 ≤ slip → slip ≤ 10000 →
      Ok (bPileO φd [some (.loc 0), some (.ls (lots.map .str)), some (.bl g), some (.bl w), some (.int x), some (.int many), some (.int slip), none, none] (feedOb f1 :: r)) (finK (r.length + 1) fun d s' => ∃ (p : Pil) (f' : Feed), d = encP p ∧ PilOk lots p ∧ (w = false → p.others = []) ∧ s' = feedOb f' :: r ∧ f'.Wf ∧ f.calls ≤ f'.calls ∧ f'.calls ≤ f.calls + 20) := by
    intro f1 x many slip hw1 hg1 hl1' hx0 hx1 hm0 hm1 hs0 hs1
    have hxn : x.toNat < lots.length := by omega
    have ex : ∀ s : Sto, gIx (.ls (lots.map .str)) (.int x) s = .ok (.str lots[x.toNat]) s := fun s => ix_ls hx0 (str_get hxn)
    have fin : ∀ (f2 : Feed) (ws : List Str) (v8 : Option Dv), f2.Wf → f.calls ≤ f2.calls → f2.calls ≤ f.calls + 20 → ws.Sublist lots → lots[x.toNat] ∉ ws → ws.length ≤ 2 → (w = false → ws = []) →
        Ok (bPileR [some (.loc 0), some (.ls (lots.map .str)), some (.bl g), some (.bl w), some (.int x), some (.int many), some (.int slip), some (.ls (ws.map .str)), v8] (feedOb f2 :: r)) (finK (r.length + 1) fun d s' => ∃ (p : Pil) (f' : Feed), d = encP p ∧ PilOk lots p ∧ (w = false → p.others = []) ∧ s' = feedOb f' :: r ∧ f'.Wf ∧ f.calls ≤ f'.calls ∧ f'.calls ≤ f.calls + 20) := by
      intro f2 ws v8 hw2 hg2 hl2 h1 h2 h3 h4
      unfold bPileR
      simp only [ok_ok, kDrop_ap, kRet_ap, kSet_ap, kCons2_ap, kCons_ap, kTup_ap, kLst_ap, kVal_ap, kNew_ap, kBin2_ap, kBin_ap, kUn_ap, kCall_ap, kCallL_ap, kNotT_ap, kAndT_ap, kOrT_ap, kIf_ap, kIfS_ap, kAnd_ap, kOr_ap, kNot_ap, kMt2_ap, kMt_ap, kPut4_ap, kPut3_ap, kPut2_ap, kPut_ap, kExt2_ap, kExt_ap, kAsg2_ap, kAsg_ap, kFor_ap, kLc_ap, kSl3_ap, kSl2_ap, kSl_ap, kGs_ap, ok_seq, sq_next, sq_ret, sq_brk, sq_cont, ok_nop, ok_brk, ok_cont, ok_drop, ok_ret, ok_retN, ok_set, ok_var0, ok_varS, ok_c, ok_nil, ok_cons, ok_tup, ok_lst, ok_val, ok_new, ok_bin, ok_un, ok_call, ok_callL, ok_test, tst_bl, ok_notT, ok_andT, ok_orT, ok_if, ok_ifS, ok_and, ok_or, ok_not, ok_mt, ok_put, ok_extend, pr2_mk, ok_par2, ok_asg, ok_for, ok_lc, ok_yes, ok_noPart, prt_int, ok_part, ok_sl, ok_gNm, ok_gTp, ok_gsN, ok_gsC, rg1_mk, rg2_mk, ok_rng1, ok_rng2, srcK_tup, srcK_ls, ok_src, finK_next, finK_ret, List.set_cons_zero, List.set_cons_succ, List.map_cons, List.map_nil, List.replicate, List.cons_append, List.nil_append, List.length_cons, List.length_nil, Bool.false_eq_true, eq_self, if_true, if_false, Nat.zero_add, ex, sorted_ls, tuple_ls]
      refine ⟨rfl, ?_⟩
      refine fin_feed0 hf (below_encP 0 ⟨lots[x.toNat], many, slip, srtS ws⟩) ⟨⟨lots[x.toNat], many, slip, srtS ws⟩, f2, rfl, ⟨List.getElem_mem _, hm0, hm1, hs0, hs1, .inr ⟨ws, rfl, h1, h2, h3⟩⟩, fun e => by rw [h4 e]; exact srtS_nil, rfl, hw2, hg2, hl2⟩
    unfold bPileO
    simp only [ok_ok, kDrop_ap, kRet_ap, kSet_ap, kCons2_ap, kCons_ap, kTup_ap, kLst_ap, kVal_ap, kNew_ap, kBin2_ap, kBin_ap, kUn_ap, kCall_ap, kCallL_ap, kNotT_ap, kAndT_ap, kOrT_ap, kIf_ap, kIfS_ap, kAnd_ap, kOr_ap, kNot_ap, kMt2_ap, kMt_ap, kPut4_ap, kPut3_ap, kPut2_ap, kPut_ap, kExt2_ap, kExt_ap, kAsg2_ap, kAsg_ap, kFor_ap, kLc_ap, kSl3_ap, kSl2_ap, kSl_ap, kGs_ap, ok_seq, sq_next, sq_ret, sq_brk, sq_cont, ok_nop, ok_brk, ok_cont, ok_drop, ok_ret, ok_retN, ok_set, ok_var0, ok_varS, ok_c, ok_nil, ok_cons, ok_tup, ok_lst, ok_val, ok_new, ok_bin, ok_un, ok_call, ok_callL, ok_test, tst_bl, ok_notT, ok_andT, ok_orT, ok_if, ok_ifS, ok_and, ok_or, ok_not, ok_mt, ok_put, ok_extend, pr2_mk, ok_par2, ok_asg, ok_for, ok_lc, ok_yes, ok_noPart, prt_int, ok_part, ok_sl, ok_gNm, ok_gTp, ok_gsN, ok_gsC, rg1_mk, rg2_mk, ok_rng1, ok_rng2, srcK_tup, srcK_ls, ok_src, finK_next, finK_ret, List.set_cons_zero, List.set_cons_succ, List.map_cons, List.map_nil, List.replicate, List.cons_append, List.nil_append, List.length_cons, List.length_nil, Bool.false_eq_true, eq_self, if_true, if_false, Nat.zero_add]
    refine ⟨rfl, ?_⟩
    split
    · rename_i hwt
      refine (ht f1 r 3 hw1 (by omega) (by omega) (by omega) hf).mono ?_
      rintro d s ⟨y, f2, rfl, hy0, hy1, rfl, hw2, hc2⟩
      simp only [ok_ok, kDrop_ap, kRet_ap, kSet_ap, kCons2_ap, kCons_ap, kTup_ap, kLst_ap, kVal_ap, kNew_ap, kBin2_ap, kBin_ap, kUn_ap, kCall_ap, kCallL_ap, kNotT_ap, kAndT_ap, kOrT_ap, kIf_ap, kIfS_ap, kAnd_ap, kOr_ap, kNot_ap, kMt2_ap, kMt_ap, kPut4_ap, kPut3_ap, kPut2_ap, kPut_ap, kExt2_ap, kExt_ap, kAsg2_ap, kAsg_ap, kFor_ap, kLc_ap, kSl3_ap, kSl2_ap, kSl_ap, kGs_ap, ok_seq, sq_next, sq_ret, sq_brk, sq_cont, ok_nop, ok_brk, ok_cont, ok_drop, ok_ret, ok_retN, ok_set, ok_var0, ok_varS, ok_c, ok_nil, ok_cons, ok_tup, ok_lst, ok_val, ok_new, ok_bin, ok_un, ok_call, ok_callL, ok_test, tst_bl, ok_notT, ok_andT, ok_orT, ok_if, ok_ifS, ok_and, ok_or, ok_not, ok_mt, ok_put, ok_extend, pr2_mk, ok_par2, ok_asg, ok_for, ok_lc, ok_yes, ok_noPart, prt_int, ok_part, ok_sl, ok_gNm, ok_gTp, ok_gsN, ok_gsC, rg1_mk, rg2_mk, ok_rng1, ok_rng2, srcK_tup, srcK_ls, ok_src, finK_next, finK_ret, List.set_cons_zero, List.set_cons_succ, List.map_cons, List.map_nil, List.replicate, List.cons_append, List.nil_append, List.length_cons, List.length_nil, Bool.false_eq_true, eq_self, if_true, if_false, Nat.zero_add, eq_int]
      split
      · refine ⟨decide_eq_true (by rw [List.length_map]; omega), ?_⟩
        refine ok_lcI (fun i acc s => ∃ (t' : Feed) (ws : List Str), acc = ws.map .str ∧ s = feedOb t' :: r ∧ ws.Sublist (lots.take i) ∧ lots[x.toNat] ∉ ws ∧ t'.Wf ∧ f.calls ≤ t'.calls ∧ t'.calls ≤ f.calls + 7 + i)
          (fun _ _ _ _ => rfl) (fun i d acc s hd h => ?_) (fun acc s h => ?_) ⟨f2, [], rfl, rfl, List.nil_sublist _, List.not_mem_nil, hw2, by omega, by push_cast; omega⟩
        · obtain ⟨t', ws, rfl, rfl, hs, hn, hw', hc1, hc2⟩ := h
          have hi : i < lots.length := by have := (List.getElem?_eq_some_iff.mp hd).1; rwa [List.length_map] at this
          rw [List.getElem?_map, List.getElem?_eq_getElem hi] at hd
          cases hd
          have hs' : ws.Sublist (lots.take (i + 1)) := by rw [take_succ' (List.getElem?_eq_getElem hi)]; exact hs.trans (List.sublist_append_left _ _)
          simp only [ok_ok, kDrop_ap, kRet_ap, kSet_ap, kCons2_ap, kCons_ap, kTup_ap, kLst_ap, kVal_ap, kNew_ap, kBin2_ap, kBin_ap, kUn_ap, kCall_ap, kCallL_ap, kNotT_ap, kAndT_ap, kOrT_ap, kIf_ap, kIfS_ap, kAnd_ap, kOr_ap, kNot_ap, kMt2_ap, kMt_ap, kPut4_ap, kPut3_ap, kPut2_ap, kPut_ap, kExt2_ap, kExt_ap, kAsg2_ap, kAsg_ap, kFor_ap, kLc_ap, kSl3_ap, kSl2_ap, kSl_ap, kGs_ap, ok_seq, sq_next, sq_ret, sq_brk, sq_cont, ok_nop, ok_brk, ok_cont, ok_drop, ok_ret, ok_retN, ok_set, ok_var0, ok_varS, ok_c, ok_nil, ok_cons, ok_tup, ok_lst, ok_val, ok_new, ok_bin, ok_un, ok_call, ok_callL, ok_test, tst_bl, ok_notT, ok_andT, ok_orT, ok_if, ok_ifS, ok_and, ok_or, ok_not, ok_mt, ok_put, ok_extend, pr2_mk, ok_par2, ok_asg, ok_for, ok_lc, ok_yes, ok_noPart, prt_int, ok_part, ok_sl, ok_gNm, ok_gTp, ok_gsN, ok_gsC, rg1_mk, rg2_mk, ok_rng1, ok_rng2, srcK_tup, srcK_ls, ok_src, finK_next, finK_ret, List.set_cons_zero, List.set_cons_succ, List.map_cons, List.map_nil, List.replicate, List.cons_append, List.nil_append, List.length_cons, List.length_nil, Bool.false_eq_true, eq_self, if_true, if_false, Nat.zero_add, wipeZ, ex, ne_str]
          split
          · rename_i hne
            have hne : lots[i] ≠ lots[x.toNat] := by simpa using hne
            refine (ht t' r 2 hw' (by omega) (by omega) (by omega) hf).mono ?_
            rintro d s ⟨z, t2, rfl, hz0, hz1, rfl, hw2, hc2'⟩
            simp only [ok_ok, kDrop_ap, kRet_ap, kSet_ap, kCons2_ap, kCons_ap, kTup_ap, kLst_ap, kVal_ap, kNew_ap, kBin2_ap, kBin_ap, kUn_ap, kCall_ap, kCallL_ap, kNotT_ap, kAndT_ap, kOrT_ap, kIf_ap, kIfS_ap, kAnd_ap, kOr_ap, kNot_ap, kMt2_ap, kMt_ap, kPut4_ap, kPut3_ap, kPut2_ap, kPut_ap, kExt2_ap, kExt_ap, kAsg2_ap, kAsg_ap, kFor_ap, kLc_ap, kSl3_ap, kSl2_ap, kSl_ap, kGs_ap, ok_seq, sq_next, sq_ret, sq_brk, sq_cont, ok_nop, ok_brk, ok_cont, ok_drop, ok_ret, ok_retN, ok_set, ok_var0, ok_varS, ok_c, ok_nil, ok_cons, ok_tup, ok_lst, ok_val, ok_new, ok_bin, ok_un, ok_call, ok_callL, ok_test, tst_bl, ok_notT, ok_andT, ok_orT, ok_if, ok_ifS, ok_and, ok_or, ok_not, ok_mt, ok_put, ok_extend, pr2_mk, ok_par2, ok_asg, ok_for, ok_lc, ok_yes, ok_noPart, prt_int, ok_part, ok_sl, ok_gNm, ok_gTp, ok_gsN, ok_gsC, rg1_mk, rg2_mk, ok_rng1, ok_rng2, srcK_tup, srcK_ls, ok_src, finK_next, finK_ret, List.set_cons_zero, List.set_cons_succ, List.map_cons, List.map_nil, List.replicate, List.cons_append, List.nil_append, List.length_cons, List.length_nil, Bool.false_eq_true, eq_self, if_true, if_false, Nat.zero_add, eq_int]
            split
            · refine ⟨t2, ws ++ [lots[i]], by simp, rfl, ?_, ?_, hw2, by omega, by push_cast; omega⟩
              · rw [take_succ' (List.getElem?_eq_getElem hi)]; exact hs.append (List.Sublist.refl _)
              · intro hm
                rcases List.mem_append.mp hm with z | z
                · exact hn z
                · exact hne (List.mem_singleton.mp z).symm
            · exact ⟨t2, ws, rfl, rfl, hs', hn, hw2, by omega, by push_cast; omega⟩
          · exact ⟨t', ws, rfl, rfl, hs', hn, hw', by omega, by push_cast; omega⟩
        · obtain ⟨t', ws, rfl, rfl, hs, hn, hw', hc1, hc2⟩ := h
          rw [List.length_map] at hs hc2
          rw [List.take_length] at hs
          have e : gSl (.ls (ws.map .str)) none (some 2) (feedOb t' :: r) = .ok (.ls ((ws.take 2).map .str)) (feedOb t' :: r) := by
            show Rs.ok (Dv.ls (cutD _ _ _)) _ = _
            rw [cut_take (by decide), List.map_take]; rfl
          simp only [ok_ok, kDrop_ap, kRet_ap, kSet_ap, kCons2_ap, kCons_ap, kTup_ap, kLst_ap, kVal_ap, kNew_ap, kBin2_ap, kBin_ap, kUn_ap, kCall_ap, kCallL_ap, kNotT_ap, kAndT_ap, kOrT_ap, kIf_ap, kIfS_ap, kAnd_ap, kOr_ap, kNot_ap, kMt2_ap, kMt_ap, kPut4_ap, kPut3_ap, kPut2_ap, kPut_ap, kExt2_ap, kExt_ap, kAsg2_ap, kAsg_ap, kFor_ap, kLc_ap, kSl3_ap, kSl2_ap, kSl_ap, kGs_ap, ok_seq, sq_next, sq_ret, sq_brk, sq_cont, ok_nop, ok_brk, ok_cont, ok_drop, ok_ret, ok_retN, ok_set, ok_var0, ok_varS, ok_c, ok_nil, ok_cons, ok_tup, ok_lst, ok_val, ok_new, ok_bin, ok_un, ok_call, ok_callL, ok_test, tst_bl, ok_notT, ok_andT, ok_orT, ok_if, ok_ifS, ok_and, ok_or, ok_not, ok_mt, ok_put, ok_extend, pr2_mk, ok_par2, ok_asg, ok_for, ok_lc, ok_yes, ok_noPart, prt_int, ok_part, ok_sl, ok_gNm, ok_gTp, ok_gsN, ok_gsC, rg1_mk, rg2_mk, ok_rng1, ok_rng2, srcK_tup, srcK_ls, ok_src, finK_next, finK_ret, List.set_cons_zero, List.set_cons_succ, List.map_cons, List.map_nil, List.replicate, List.cons_append, List.nil_append, List.length_cons, List.length_nil, Bool.false_eq_true, eq_self, if_true, if_false, Nat.zero_add, e]
          exact fin t' (ws.take 2) _ hw' hc1 (by omega) ((List.take_sublist _ _).trans hs) (fun hm => hn (List.mem_of_mem_take hm)) (by rw [List.length_take]; omega) (fun e => by rw [e] at hwt; cases hwt)
      · exact fin f2 [] _ hw2 (by omega) (by omega) (List.nil_sublist _) List.not_mem_nil (by decide) (fun _ => rfl)
    · exact fin f1 [] _ hw1 hg1 (by omega) (List.nil_sublist _) List.not_mem_nil (by decide) (fun _ => rfl)
  unfold bPileC
  simp only [ok_ok, kDrop_ap, kRet_ap, kSet_ap, kCons2_ap, kCons_ap, kTup_ap, kLst_ap, kVal_ap, kNew_ap, kBin2_ap, kBin_ap, kUn_ap, kCall_ap, kCallL_ap, kNotT_ap, kAndT_ap, kOrT_ap, kIf_ap, kIfS_ap, kAnd_ap, kOr_ap, kNot_ap, kMt2_ap, kMt_ap, kPut4_ap, kPut3_ap, kPut2_ap, kPut_ap, kExt2_ap, kExt_ap, kAsg2_ap, kAsg_ap, kFor_ap, kLc_ap, kSl3_ap, kSl2_ap, kSl_ap, kGs_ap, ok_seq, sq_next, sq_ret, sq_brk, sq_cont, ok_nop, ok_brk, ok_cont, ok_drop, ok_ret, ok_retN, ok_set, ok_var0, ok_varS, ok_c, ok_nil, ok_cons, ok_tup, ok_lst, ok_val, ok_new, ok_bin, ok_un, ok_call, ok_callL, ok_test, tst_bl, ok_notT, ok_andT, ok_orT, ok_if, ok_ifS, ok_and, ok_or, ok_not, ok_mt, ok_put, ok_extend, pr2_mk, ok_par2, ok_asg, ok_for, ok_lc, ok_yes, ok_noPart, prt_int, ok_part, ok_sl, ok_gNm, ok_gTp, ok_gsN, ok_gsC, rg1_mk, rg2_mk, ok_rng1, ok_rng2, srcK_tup, srcK_ls, ok_src, finK_next, finK_ret, List.set_cons_zero, List.set_cons_succ, List.map_cons, List.map_nil, List.replicate, List.cons_append, List.nil_append, List.length_cons, List.length_nil, Bool.false_eq_true, eq_self, if_true, if_false, Nat.zero_add, len_ls]
  refine (ht f r ((lots.map Dv.str).length : Int) hw (by omega) (by rw [List.length_map]; omega) (by rw [List.length_map]; omega) hf).mono ?_
  rintro d s ⟨x, f1, rfl, hx0, hx1, rfl, hw1, hc1⟩
  rw [List.length_map] at hx1
  have p6 : (10 : Int) ^ (Int.toNat 6) = 1000000 := by decide
  have p4 : (10 : Int) ^ (Int.toNat 4) = 10000 := by decide
  simp only [ok_ok, kDrop_ap, kRet_ap, kSet_ap, kCons2_ap, kCons_ap, kTup_ap, kLst_ap, kVal_ap, kNew_ap, kBin2_ap, kBin_ap, kUn_ap, kCall_ap, kCallL_ap, kNotT_ap, kAndT_ap, kOrT_ap, kIf_ap, kIfS_ap, kAnd_ap, kOr_ap, kNot_ap, kMt2_ap, kMt_ap, kPut4_ap, kPut3_ap, kPut2_ap, kPut_ap, kExt2_ap, kExt_ap, kAsg2_ap, kAsg_ap, kFor_ap, kLc_ap, kSl3_ap, kSl2_ap, kSl_ap, kGs_ap, ok_seq, sq_next, sq_ret, sq_brk, sq_cont, ok_nop, ok_brk, ok_cont, ok_drop, ok_ret, ok_retN, ok_set, ok_var0, ok_varS, ok_c, ok_nil, ok_cons, ok_tup, ok_lst, ok_val, ok_new, ok_bin, ok_un, ok_call, ok_callL, ok_test, tst_bl, ok_notT, ok_andT, ok_orT, ok_if, ok_ifS, ok_and, ok_or, ok_not, ok_mt, ok_put, ok_extend, pr2_mk, ok_par2, ok_asg, ok_for, ok_lc, ok_yes, ok_noPart, prt_int, ok_part, ok_sl, ok_gNm, ok_gTp, ok_gsN, ok_gsC, rg1_mk, rg2_mk, ok_rng1, ok_rng2, srcK_tup, srcK_ls, ok_src, finK_next, finK_ret, List.set_cons_zero, List.set_cons_succ, List.map_cons, List.map_nil, List.replicate, List.cons_append, List.nil_append, List.length_cons, List.length_nil, Bool.false_eq_true, eq_self, if_true, if_false, Nat.zero_add]
  split
  · simp only [ok_ok, kDrop_ap, kRet_ap, kSet_ap, kCons2_ap, kCons_ap, kTup_ap, kLst_ap, kVal_ap, kNew_ap, kBin2_ap, kBin_ap, kUn_ap, kCall_ap, kCallL_ap, kNotT_ap, kAndT_ap, kOrT_ap, kIf_ap, kIfS_ap, kAnd_ap, kOr_ap, kNot_ap, kMt2_ap, kMt_ap, kPut4_ap, kPut3_ap, kPut2_ap, kPut_ap, kExt2_ap, kExt_ap, kAsg2_ap, kAsg_ap, kFor_ap, kLc_ap, kSl3_ap, kSl2_ap, kSl_ap, kGs_ap, ok_seq, sq_next, sq_ret, sq_brk, sq_cont, ok_nop, ok_brk, ok_cont, ok_drop, ok_ret, ok_retN, ok_set, ok_var0, ok_varS, ok_c, ok_nil, ok_cons, ok_tup, ok_lst, ok_val, ok_new, ok_bin, ok_un, ok_call, ok_callL, ok_test, tst_bl, ok_notT, ok_andT, ok_orT, ok_if, ok_ifS, ok_and, ok_or, ok_not, ok_mt, ok_put, ok_extend, pr2_mk, ok_par2, ok_asg, ok_for, ok_lc, ok_yes, ok_noPart, prt_int, ok_part, ok_sl, ok_gNm, ok_gTp, ok_gsN, ok_gsC, rg1_mk, rg2_mk, ok_rng1, ok_rng2, srcK_tup, srcK_ls, ok_src, finK_next, finK_ret, List.set_cons_zero, List.set_cons_succ, List.map_cons, List.map_nil, List.replicate, List.cons_append, List.nil_append, List.length_cons, List.length_nil, Bool.false_eq_true, eq_self, if_true, if_false, Nat.zero_add, pow_ok (show (0 : Int) ≤ 6 ∧ (6 : Int) ≤ 1000000 by decide) (show -(2 ^ 64) < (10 : Int) ∧ (10 : Int) < 2 ^ 64 by decide), p6]
    refine (ht f1 r 1000000 hw1 (by omega) (by omega) (by omega) hf).mono ?_
    rintro d s ⟨a, f2, rfl, ha0, ha1, rfl, hw2, hc2⟩
    simp only [ok_ok, kDrop_ap, kRet_ap, kSet_ap, kCons2_ap, kCons_ap, kTup_ap, kLst_ap, kVal_ap, kNew_ap, kBin2_ap, kBin_ap, kUn_ap, kCall_ap, kCallL_ap, kNotT_ap, kAndT_ap, kOrT_ap, kIf_ap, kIfS_ap, kAnd_ap, kOr_ap, kNot_ap, kMt2_ap, kMt_ap, kPut4_ap, kPut3_ap, kPut2_ap, kPut_ap, kExt2_ap, kExt_ap, kAsg2_ap, kAsg_ap, kFor_ap, kLc_ap, kSl3_ap, kSl2_ap, kSl_ap, kGs_ap, ok_seq, sq_next, sq_ret, sq_brk, sq_cont, ok_nop, ok_brk, ok_cont, ok_drop, ok_ret, ok_retN, ok_set, ok_var0, ok_varS, ok_c, ok_nil, ok_cons, ok_tup, ok_lst, ok_val, ok_new, ok_bin, ok_un, ok_call, ok_callL, ok_test, tst_bl, ok_notT, ok_andT, ok_orT, ok_if, ok_ifS, ok_and, ok_or, ok_not, ok_mt, ok_put, ok_extend, pr2_mk, ok_par2, ok_asg, ok_for, ok_lc, ok_yes, ok_noPart, prt_int, ok_part, ok_sl, ok_gNm, ok_gTp, ok_gsN, ok_gsC, rg1_mk, rg2_mk, ok_rng1, ok_rng2, srcK_tup, srcK_ls, ok_src, finK_next, finK_ret, List.set_cons_zero, List.set_cons_succ, List.map_cons, List.map_nil, List.replicate, List.cons_append, List.nil_append, List.length_cons, List.length_nil, Bool.false_eq_true, eq_self, if_true, if_false, Nat.zero_add]
    refine ⟨rfl, ?_⟩
    refine (ht f2 r 3 hw2 (by omega) (by omega) (by omega) hf).mono ?_
    rintro d s ⟨b, f3, rfl, hb0, hb1, rfl, hw3, hc3⟩
    obtain ⟨many, em, hmany⟩ := pick3 (a := 1000000) (b := a) (c := 0) hb0 hb1
    simp only [ok_ok, kDrop_ap, kRet_ap, kSet_ap, kCons2_ap, kCons_ap, kTup_ap, kLst_ap, kVal_ap, kNew_ap, kBin2_ap, kBin_ap, kUn_ap, kCall_ap, kCallL_ap, kNotT_ap, kAndT_ap, kOrT_ap, kIf_ap, kIfS_ap, kAnd_ap, kOr_ap, kNot_ap, kMt2_ap, kMt_ap, kPut4_ap, kPut3_ap, kPut2_ap, kPut_ap, kExt2_ap, kExt_ap, kAsg2_ap, kAsg_ap, kFor_ap, kLc_ap, kSl3_ap, kSl2_ap, kSl_ap, kGs_ap, ok_seq, sq_next, sq_ret, sq_brk, sq_cont, ok_nop, ok_brk, ok_cont, ok_drop, ok_ret, ok_retN, ok_set, ok_var0, ok_varS, ok_c, ok_nil, ok_cons, ok_tup, ok_lst, ok_val, ok_new, ok_bin, ok_un, ok_call, ok_callL, ok_test, tst_bl, ok_notT, ok_andT, ok_orT, ok_if, ok_ifS, ok_and, ok_or, ok_not, ok_mt, ok_put, ok_extend, pr2_mk, ok_par2, ok_asg, ok_for, ok_lc, ok_yes, ok_noPart, prt_int, ok_part, ok_sl, ok_gNm, ok_gTp, ok_gsN, ok_gsC, rg1_mk, rg2_mk, ok_rng1, ok_rng2, srcK_tup, srcK_ls, ok_src, finK_next, finK_ret, List.set_cons_zero, List.set_cons_succ, List.map_cons, List.map_nil, List.replicate, List.cons_append, List.nil_append, List.length_cons, List.length_nil, Bool.false_eq_true, eq_self, if_true, if_false, Nat.zero_add, em, pow_ok (show (0 : Int) ≤ 4 ∧ (4 : Int) ≤ 1000000 by decide) (show -(2 ^ 64) < (10 : Int) ∧ (10 : Int) < 2 ^ 64 by decide), p4]
    refine (ht f3 r 10000 hw3 (by omega) (by omega) (by omega) hf).mono ?_
    rintro d s ⟨a2, f4, rfl, ha20, ha21, rfl, hw4, hc4⟩
    simp only [ok_ok, kDrop_ap, kRet_ap, kSet_ap, kCons2_ap, kCons_ap, kTup_ap, kLst_ap, kVal_ap, kNew_ap, kBin2_ap, kBin_ap, kUn_ap, kCall_ap, kCallL_ap, kNotT_ap, kAndT_ap, kOrT_ap, kIf_ap, kIfS_ap, kAnd_ap, kOr_ap, kNot_ap, kMt2_ap, kMt_ap, kPut4_ap, kPut3_ap, kPut2_ap, kPut_ap, kExt2_ap, kExt_ap, kAsg2_ap, kAsg_ap, kFor_ap, kLc_ap, kSl3_ap, kSl2_ap, kSl_ap, kGs_ap, ok_seq, sq_next, sq_ret, sq_brk, sq_cont, ok_nop, ok_brk, ok_cont, ok_drop, ok_ret, ok_retN, ok_set, ok_var0, ok_varS, ok_c, ok_nil, ok_cons, ok_tup, ok_lst, ok_val, ok_new, ok_bin, ok_un, ok_call, ok_callL, ok_test, tst_bl, ok_notT, ok_andT, ok_orT, ok_if, ok_ifS, ok_and, ok_or, ok_not, ok_mt, ok_put, ok_extend, pr2_mk, ok_par2, ok_asg, ok_for, ok_lc, ok_yes, ok_noPart, prt_int, ok_part, ok_sl, ok_gNm, ok_gTp, ok_gsN, ok_gsC, rg1_mk, rg2_mk, ok_rng1, ok_rng2, srcK_tup, srcK_ls, ok_src, finK_next, finK_ret, List.set_cons_zero, List.set_cons_succ, List.map_cons, List.map_nil, List.replicate, List.cons_append, List.nil_append, List.length_cons, List.length_nil, Bool.false_eq_true, eq_self, if_true, if_false, Nat.zero_add]
    refine ⟨rfl, ?_⟩
    refine (ht f4 r 3 hw4 (by omega) (by omega) (by omega) hf).mono ?_
    rintro d s ⟨b2, f5, rfl, hb20, hb21, rfl, hw5, hc5⟩
    obtain ⟨slip, es, hslip⟩ := pick3 (a := 10000) (b := a2) (c := 0) hb20 hb21
    simp only [ok_ok, kDrop_ap, kRet_ap, kSet_ap, kCons2_ap, kCons_ap, kTup_ap, kLst_ap, kVal_ap, kNew_ap, kBin2_ap, kBin_ap, kUn_ap, kCall_ap, kCallL_ap, kNotT_ap, kAndT_ap, kOrT_ap, kIf_ap, kIfS_ap, kAnd_ap, kOr_ap, kNot_ap, kMt2_ap, kMt_ap, kPut4_ap, kPut3_ap, kPut2_ap, kPut_ap, kExt2_ap, kExt_ap, kAsg2_ap, kAsg_ap, kFor_ap, kLc_ap, kSl3_ap, kSl2_ap, kSl_ap, kGs_ap, ok_seq, sq_next, sq_ret, sq_brk, sq_cont, ok_nop, ok_brk, ok_cont, ok_drop, ok_ret, ok_retN, ok_set, ok_var0, ok_varS, ok_c, ok_nil, ok_cons, ok_tup, ok_lst, ok_val, ok_new, ok_bin, ok_un, ok_call, ok_callL, ok_test, tst_bl, ok_notT, ok_andT, ok_orT, ok_if, ok_ifS, ok_and, ok_or, ok_not, ok_mt, ok_put, ok_extend, pr2_mk, ok_par2, ok_asg, ok_for, ok_lc, ok_yes, ok_noPart, prt_int, ok_part, ok_sl, ok_gNm, ok_gTp, ok_gsN, ok_gsC, rg1_mk, rg2_mk, ok_rng1, ok_rng2, srcK_tup, srcK_ls, ok_src, finK_next, finK_ret, List.set_cons_zero, List.set_cons_succ, List.map_cons, List.map_nil, List.replicate, List.cons_append, List.nil_append, List.length_cons, List.length_nil, Bool.false_eq_true, eq_self, if_true, if_false, Nat.zero_add, es]
    exact oth f5 x many slip hw5 (by omega) (by omega) hx0 hx1 (by omega) (by omega) (by omega) (by omega)
  · refine (ht f1 r 12 hw1 (by omega) (by omega) (by omega) hf).mono ?_
    rintro d s ⟨many, f2, rfl, ha0, ha1, rfl, hw2, hc2⟩
    simp only [ok_ok, kDrop_ap, kRet_ap, kSet_ap, kCons2_ap, kCons_ap, kTup_ap, kLst_ap, kVal_ap, kNew_ap, kBin2_ap, kBin_ap, kUn_ap, kCall_ap, kCallL_ap, kNotT_ap, kAndT_ap, kOrT_ap, kIf_ap, kIfS_ap, kAnd_ap, kOr_ap, kNot_ap, kMt2_ap, kMt_ap, kPut4_ap, kPut3_ap, kPut2_ap, kPut_ap, kExt2_ap, kExt_ap, kAsg2_ap, kAsg_ap, kFor_ap, kLc_ap, kSl3_ap, kSl2_ap, kSl_ap, kGs_ap, ok_seq, sq_next, sq_ret, sq_brk, sq_cont, ok_nop, ok_brk, ok_cont, ok_drop, ok_ret, ok_retN, ok_set, ok_var0, ok_varS, ok_c, ok_nil, ok_cons, ok_tup, ok_lst, ok_val, ok_new, ok_bin, ok_un, ok_call, ok_callL, ok_test, tst_bl, ok_notT, ok_andT, ok_orT, ok_if, ok_ifS, ok_and, ok_or, ok_not, ok_mt, ok_put, ok_extend, pr2_mk, ok_par2, ok_asg, ok_for, ok_lc, ok_yes, ok_noPart, prt_int, ok_part, ok_sl, ok_gNm, ok_gTp, ok_gsN, ok_gsC, rg1_mk, rg2_mk, ok_rng1, ok_rng2, srcK_tup, srcK_ls, ok_src, finK_next, finK_ret, List.set_cons_zero, List.set_cons_succ, List.map_cons, List.map_nil, List.replicate, List.cons_append, List.nil_append, List.length_cons, List.length_nil, Bool.false_eq_true, eq_self, if_true, if_false, Nat.zero_add]
    refine ⟨rfl, ?_⟩
    refine (ht f2 r 4 hw2 (by omega) (by omega) (by omega) hf).mono ?_
    rintro d s ⟨b, f3, rfl, hb0, hb1, rfl, hw3, hc3⟩
    obtain ⟨slip, es, hslip⟩ := pick4 (a := 0) (b := 1) (c := 2) (d := 5) hb0 hb1
    simp only [ok_ok, kDrop_ap, kRet_ap, kSet_ap, kCons2_ap, kCons_ap, kTup_ap, kLst_ap, kVal_ap, kNew_ap, kBin2_ap, kBin_ap, kUn_ap, kCall_ap, kCallL_ap, kNotT_ap, kAndT_ap, kOrT_ap, kIf_ap, kIfS_ap, kAnd_ap, kOr_ap, kNot_ap, kMt2_ap, kMt_ap, kPut4_ap, kPut3_ap, kPut2_ap, kPut_ap, kExt2_ap, kExt_ap, kAsg2_ap, kAsg_ap, kFor_ap, kLc_ap, kSl3_ap, kSl2_ap, kSl_ap, kGs_ap, ok_seq, sq_next, sq_ret, sq_brk, sq_cont, ok_nop, ok_brk, ok_cont, ok_drop, ok_ret, ok_retN, ok_set, ok_var0, ok_varS, ok_c, ok_nil, ok_cons, ok_tup, ok_lst, ok_val, ok_new, ok_bin, ok_un, ok_call, ok_callL, ok_test, tst_bl, ok_notT, ok_andT, ok_orT, ok_if, ok_ifS, ok_and, ok_or, ok_not, ok_mt, ok_put, ok_extend, pr2_mk, ok_par2, ok_asg, ok_for, ok_lc, ok_yes, ok_noPart, prt_int, ok_part, ok_sl, ok_gNm, ok_gTp, ok_gsN, ok_gsC, rg1_mk, rg2_mk, ok_rng1, ok_rng2, srcK_tup, srcK_ls, ok_src, finK_next, finK_ret, List.set_cons_zero, List.set_cons_succ, List.map_cons, List.map_nil, List.replicate, List.cons_append, List.nil_append, List.length_cons, List.length_nil, Bool.false_eq_true, eq_self, if_true, if_false, Nat.zero_add, es]
    exact oth f3 x many slip hw3 (by omega) (by omega) hx0 hx1 (by omega) (by omega) (by omega) (by omega)
end Z

namespace Z
open PySem PySem.Spec L2

/-! ### counts by the feed -/
theorem eq_tupN {xs : List Str} {s : Sto} (hs : ∀ x ∈ xs, PyData.strOk x = true) : gEq (.tup (xs.map .str)) (.tup []) s = .ok (.bl xs.isEmpty) s := by
  have h1 : pyOf s (.tup (xs.map .str)) = some (.tuple (xs.map .str)) := by
    show ((xs.map Dv.str).mapM (py s 39)).map _ = _
    rw [mapM_map (g := py s 39) (f := Dv.str) (h := PyData.str) (xs := xs) fun x _ => rfl]; rfl
  have h2 : pyOf s (.tup []) = some (.tuple []) := rfl
  have h3 : SeqAt.shaped (.tuple (xs.map .str)) = true := by
    have a : ∀ xs : List Str, (∀ x ∈ xs, PyData.strOk x = true) → PyData.canLayAll0 (xs.map .str) = true ∧ PyData.depthAll (xs.map .str) = 0 := by
      intro xs
      induction xs with
      | nil => exact fun _ => ⟨by simp [PyData.canLayAll0], by simp [PyData.depthAll]⟩
      | cons x l ih =>
        intro h
        have ih := ih fun y hy => h y (List.mem_cons_of_mem _ hy)
        exact ⟨by simp [PyData.canLayAll0, PyData.canLay0, ih.1, h x List.mem_cons_self], by simpa [PyData.depthAll, PyData.depth] using ih.2⟩
    simp [SeqAt.shaped, PyData.canLay0, PyData.depth, (a xs hs).1, (a xs hs).2]
  have h4 : SeqAt.shaped (.tuple []) = true := by simp [SeqAt.shaped, PyData.canLay0, PyData.canLayAll0, PyData.depth, PyData.depthAll]
  show (match pyOf s (.tup (xs.map .str)), pyOf s (.tup []) with | some p, some q => Rs.iff (SeqAt.shaped p && SeqAt.shaped q) (Rs.ok (Dv.bl (PyData.eqv p q)) s) | _, _ => .bad) = _
  rw [h1, h2]
  show Rs.iff (SeqAt.shaped (.tuple (xs.map .str)) && SeqAt.shaped (.tuple [])) _ = _
  rw [h3, h4]
  cases xs with
  | nil => simp [Rs.iff, PyData.eqv, PyData.eqvAll]
  | cons x l => simp [Rs.iff, PyData.eqv, PyData.eqvAll]
theorem ne_tupN {xs : List Str} {s : Sto} (hs : ∀ x ∈ xs, PyData.strOk x = true) : gNe (encS xs) (.tup []) s = .ok (.bl (!xs.isEmpty)) s := by
  show (gEq (.tup (xs.map .str)) (.tup []) s).bind _ = _
  rw [eq_tupN hs]; rfl
theorem toInt_bl {b : Bool} {s : Sto} : gToInt [.bl b] s = .ok (.int (if b = true then 1 else 0)) s := rfl
theorem toInt_int {i : Int} {s : Sto} : gToInt [.int i] s = .ok (.int i) s := rfl
def bCountT : Fn Ct := (fRet (fTup (fCons (fCall gTuple (fCons (fVar 1) (fNil))) (fCons (fCall gTuple (fCons (fVar 5) (fNil))) (fCons (fCall gTuple (fCons (fVar 9) (fNil))) (fNil))))))
def bCountDB (φd : Phi) : Fn Ct := (fSeq (fSet 10 (fVal (fCallL gSorted (fCons (fVal (fLc (fSrc (fVar 1)) [11] (gNm 11) (fTest (fBin gEq (fCall φd (fCons (fVar 0) (fCons (fC (.int 2)) (fNil)))) (fC (.int 0)))) (fVar 11))) (fNil)))))
  (fDrop (fMt isL gAppend (fVar 9) (fCons (fCall gTuple (fCons (fIf (fTest (fBin gNe (fVar 10) (fVal (fLst (fNil))))) (fVar 10) (fSl (fVar 1) (fNoPart) (fPart (fC (.int 1))))) (fNil))) (fNil)))))
def bCountD (φd : Phi) : Fn Ct :=
  (fSeq (fSet 9 (fNew (fLst (fNil))))
  (fSeq (fFor (fRng1 (fCons (fBin gIx (fVar 4) (fCall φd (fCons (fVar 0) (fCons (fC (.int 4)) (fNil))))) (fNil))) (gNm 7) (bCountDB φd))
  bCountT))
def bCountO (φd φp : Phi) : Fn Ct :=
  fSeq (fPar2 5 6 (fCons (fNew (fLst (fNil))) (fCons (fC (.int 0)) (fNil))))
  (fSeq (fFor (fRng1 (fCons (fVar 2) (fNil))) (gNm 7) (fSeq (fSet 8 (fCall φp (fCons (fVar 0) (fCons (fVar 1) (fCons (fVar 3) (fCons (fBin gLt (fVar 6) (fC (.int 3))) (fNil)))))))
  (fSeq (fSet 6 (fBin gAdd (fVar 6) (fCall gToInt (fCons (fBin gNe (fBin gIx (fVar 8) (fC (.int 3))) (fTup (fNil))) (fNil)))))
  (fDrop (fMt isL gAppend (fVar 5) (fCons (fVar 8) (fNil)))))))
  (bCountD φd))
def CountO (φ : Phi) : Prop := ∀ (f : Feed) (r : Sto) (lots : List Str) (m x3 : Int) (g : Bool), f.Wf → f.calls + 400 ≤ 1000000 → 2 ≤ lots.length → lots.length ≤ 6 → lots.Nodup → (∀ x ∈ lots, isWordS x = true) → 0 ≤ m → m ≤ 10 → 0 ≤ x3 → x3 ≤ 12 → Fl r →
  Ok (φ [.loc 0, .ls (lots.map .str), .int m, .bl g, .ls [.int 0, .int 1, .int 2, .int x3]] (feedOb f :: r)) fun d s' => ∃ (c : Cnt) (f' : Feed), d = encC c ∧ CntOk c ∧ c.lots = lots ∧ (c.piles.length : Int) = m ∧ s' = feedOb f' :: r ∧ f'.Wf ∧ f.calls ≤ f'.calls ∧ f'.calls ≤ f.calls + 400
theorem srtS_one (x : Str) : srtS [x] = [x] := List.mergeSort_singleton x
theorem oth_words {lots : List Str} {p : Pil} (h : PilOk lots p) (hw : ∀ x ∈ lots, isWordS x = true) : ∀ x ∈ p.others, PyData.strOk x = true := by
  intro x hx
  rcases h.others with e | ⟨ws, e, h1, _⟩
  · rw [e] at hx; cases hx
  · rw [e] at hx; exact (word_ok (hw x (h1.subset ((srtS_perm ws).mem_iff.mp hx)))).1
theorem countO_spec {φd φp : Phi} (ht : DrawS φd) (hp : PileC φp) : CountO (fDef 5 12 (bCountO φd φp)) := by
  intro f r lots m x3 g hw hc hl2 hl6 hnd hwd hm0 hm10 hx0 hx12 hf
  rw [ok_def]
  refine ⟨rfl, ?_⟩
  unfold bCountO
  simp only [ok_ok, kDrop_ap, kRet_ap, kSet_ap, kCons2_ap, kCons_ap, kTup_ap, kLst_ap, kVal_ap, kNew_ap, kBin2_ap, kBin_ap, kUn_ap, kCall_ap, kCallL_ap, kNotT_ap, kAndT_ap, kOrT_ap, kIf_ap, kIfS_ap, kAnd_ap, kOr_ap, kNot_ap, kMt2_ap, kMt_ap, kPut4_ap, kPut3_ap, kPut2_ap, kPut_ap, kExt2_ap, kExt_ap, kAsg2_ap, kAsg_ap, kFor_ap, kLc_ap, kSl3_ap, kSl2_ap, kSl_ap, kGs_ap, ok_seq, sq_next, sq_ret, sq_brk, sq_cont, ok_nop, ok_brk, ok_cont, ok_drop, ok_ret, ok_retN, ok_set, ok_var0, ok_varS, ok_c, ok_nil, ok_cons, ok_tup, ok_lst, ok_val, ok_new, ok_bin, ok_un, ok_call, ok_callL, ok_test, tst_bl, ok_notT, ok_andT, ok_orT, ok_if, ok_ifS, ok_and, ok_or, ok_not, ok_mt, ok_put, ok_extend, pr2_mk, ok_par2, ok_asg, ok_for, ok_lc, ok_yes, ok_noPart, prt_int, ok_part, ok_sl, ok_gNm, ok_gTp, ok_gsN, ok_gsC, rg1_mk, rg2_mk, ok_rng1, ok_rng2, srcK_tup, srcK_ls, ok_src, finK_next, finK_ret, List.set_cons_zero, List.set_cons_succ, List.map_cons, List.map_nil, List.replicate, List.cons_append, List.nil_append, List.length_cons, List.length_nil, Bool.false_eq_true, eq_self, if_true, if_false, Nat.zero_add]
  refine ⟨rfl, inRng_small (by omega) (by omega), ?_⟩
  refine ok_loop (fun i env s => ∃ (t' : Feed) (ps : List Pil) (few : Int) (v7 v8 : Option Dv), env = [some (.loc 0), some (.ls (lots.map .str)), some (.int m), some (.bl g), some (.ls [.int 0, .int 1, .int 2, .int x3]), some (.loc (r.length + 1)), some (.int few), v7, v8, none, none, none] ∧
      s = feedOb t' :: (r ++ [.lst (ps.map encP)]) ∧ ps.length = i ∧ (∀ p ∈ ps, PilOk lots p) ∧ ((ps.filter fun p => !p.others.isEmpty).length : Int) = few ∧ few ≤ 3 ∧ t'.Wf ∧ f.calls ≤ t'.calls ∧ t'.calls ≤ f.calls + 20 * i)
    (fun _ _ _ _ => rfl) (fun i d env s hd h => ?_) (fun env s h => ?_) ⟨f, [], 0, _, _, rfl, rfl, rfl, fun p hp => absurd hp List.not_mem_nil, rfl, by decide, hw, by omega, by omega⟩
  · obtain ⟨t1, ps, few, v7, v8, rfl, rfl, rfl, hps, hfew, hf3, hw1, hg1, hl1⟩ := h
    obtain ⟨hi, rfl⟩ := rngD_get hd
    have hfr : ∀ ps : List Pil, Fl (r ++ [Ob.lst (ps.map encP)]) := fun ps => hf.app (.one (belows_map (below_encP 0) ps))
    simp only [ok_ok, kDrop_ap, kRet_ap, kSet_ap, kCons2_ap, kCons_ap, kTup_ap, kLst_ap, kVal_ap, kNew_ap, kBin2_ap, kBin_ap, kUn_ap, kCall_ap, kCallL_ap, kNotT_ap, kAndT_ap, kOrT_ap, kIf_ap, kIfS_ap, kAnd_ap, kOr_ap, kNot_ap, kMt2_ap, kMt_ap, kPut4_ap, kPut3_ap, kPut2_ap, kPut_ap, kExt2_ap, kExt_ap, kAsg2_ap, kAsg_ap, kFor_ap, kLc_ap, kSl3_ap, kSl2_ap, kSl_ap, kGs_ap, ok_seq, sq_next, sq_ret, sq_brk, sq_cont, ok_nop, ok_brk, ok_cont, ok_drop, ok_ret, ok_retN, ok_set, ok_var0, ok_varS, ok_c, ok_nil, ok_cons, ok_tup, ok_lst, ok_val, ok_new, ok_bin, ok_un, ok_call, ok_callL, ok_test, tst_bl, ok_notT, ok_andT, ok_orT, ok_if, ok_ifS, ok_and, ok_or, ok_not, ok_mt, ok_put, ok_extend, pr2_mk, ok_par2, ok_asg, ok_for, ok_lc, ok_yes, ok_noPart, prt_int, ok_part, ok_sl, ok_gNm, ok_gTp, ok_gsN, ok_gsC, rg1_mk, rg2_mk, ok_rng1, ok_rng2, srcK_tup, srcK_ls, ok_src, finK_next, finK_ret, List.set_cons_zero, List.set_cons_succ, List.map_cons, List.map_nil, List.replicate, List.cons_append, List.nil_append, List.length_cons, List.length_nil, Bool.false_eq_true, eq_self, if_true, if_false, Nat.zero_add, lt_int]
    refine (hp t1 _ lots g (decide (few < 3)) hw1 (by omega) (by omega) hl6 (hfr ps)).mono ?_
    rintro d s ⟨p, t2, rfl, hpo, hno, rfl, hw2, hg2, hl2'⟩
    have hew := oth_words hpo hwd
    simp only [ok_ok, kDrop_ap, kRet_ap, kSet_ap, kCons2_ap, kCons_ap, kTup_ap, kLst_ap, kVal_ap, kNew_ap, kBin2_ap, kBin_ap, kUn_ap, kCall_ap, kCallL_ap, kNotT_ap, kAndT_ap, kOrT_ap, kIf_ap, kIfS_ap, kAnd_ap, kOr_ap, kNot_ap, kMt2_ap, kMt_ap, kPut4_ap, kPut3_ap, kPut2_ap, kPut_ap, kExt2_ap, kExt_ap, kAsg2_ap, kAsg_ap, kFor_ap, kLc_ap, kSl3_ap, kSl2_ap, kSl_ap, kGs_ap, ok_seq, sq_next, sq_ret, sq_brk, sq_cont, ok_nop, ok_brk, ok_cont, ok_drop, ok_ret, ok_retN, ok_set, ok_var0, ok_varS, ok_c, ok_nil, ok_cons, ok_tup, ok_lst, ok_val, ok_new, ok_bin, ok_un, ok_call, ok_callL, ok_test, tst_bl, ok_notT, ok_andT, ok_orT, ok_if, ok_ifS, ok_and, ok_or, ok_not, ok_mt, ok_put, ok_extend, pr2_mk, ok_par2, ok_asg, ok_for, ok_lc, ok_yes, ok_noPart, prt_int, ok_part, ok_sl, ok_gNm, ok_gTp, ok_gsN, ok_gsC, rg1_mk, rg2_mk, ok_rng1, ok_rng2, srcK_tup, srcK_ls, ok_src, finK_next, finK_ret, List.set_cons_zero, List.set_cons_succ, List.map_cons, List.map_nil, List.replicate, List.cons_append, List.nil_append, List.length_cons, List.length_nil, Bool.false_eq_true, eq_self, if_true, if_false, Nat.zero_add, ixP3]
    refine ⟨rfl, ?_⟩
    simp only [ok_ok, kDrop_ap, kRet_ap, kSet_ap, kCons2_ap, kCons_ap, kTup_ap, kLst_ap, kVal_ap, kNew_ap, kBin2_ap, kBin_ap, kUn_ap, kCall_ap, kCallL_ap, kNotT_ap, kAndT_ap, kOrT_ap, kIf_ap, kIfS_ap, kAnd_ap, kOr_ap, kNot_ap, kMt2_ap, kMt_ap, kPut4_ap, kPut3_ap, kPut2_ap, kPut_ap, kExt2_ap, kExt_ap, kAsg2_ap, kAsg_ap, kFor_ap, kLc_ap, kSl3_ap, kSl2_ap, kSl_ap, kGs_ap, ok_seq, sq_next, sq_ret, sq_brk, sq_cont, ok_nop, ok_brk, ok_cont, ok_drop, ok_ret, ok_retN, ok_set, ok_var0, ok_varS, ok_c, ok_nil, ok_cons, ok_tup, ok_lst, ok_val, ok_new, ok_bin, ok_un, ok_call, ok_callL, ok_test, tst_bl, ok_notT, ok_andT, ok_orT, ok_if, ok_ifS, ok_and, ok_or, ok_not, ok_mt, ok_put, ok_extend, pr2_mk, ok_par2, ok_asg, ok_for, ok_lc, ok_yes, ok_noPart, prt_int, ok_part, ok_sl, ok_gNm, ok_gTp, ok_gsN, ok_gsC, rg1_mk, rg2_mk, ok_rng1, ok_rng2, srcK_tup, srcK_ls, ok_src, finK_next, finK_ret, List.set_cons_zero, List.set_cons_succ, List.map_cons, List.map_nil, List.replicate, List.cons_append, List.nil_append, List.length_cons, List.length_nil, Bool.false_eq_true, eq_self, if_true, if_false, Nat.zero_add, ne_tupN hew, toInt_bl, add_int]
    refine ⟨isL_loc st_get1, ?_⟩
    rw [append_loc st_get1 (by rw [List.length_map]; omega), st_set1, ok_ok]
    have hcnt : (((ps ++ [p]).filter fun p => !p.others.isEmpty).length : Int) = few + (if (!p.others.isEmpty) = true then 1 else 0) := by
      rw [List.filter_append, List.length_append]
      push_cast
      rw [hfew]
      congr 1
      cases h : p.others.isEmpty <;> simp [h]
    refine ⟨t2, ps ++ [p], _, _, _, rfl, by simp, by simp, fun q hq => ?_, hcnt, ?_, hw2, by omega, by push_cast; omega⟩
    · rcases List.mem_append.mp hq with z | z
      · exact hps q z
      · rw [List.mem_singleton.mp z]; exact hpo
    · by_cases h3 : few < 3
      · split <;> omega
      · rw [hno (decide_eq_false h3)]
        simp; omega
  · obtain ⟨t1, ps, few, v7, v8, rfl, rfl, hpl, hps, hfew, hf3, hw1, hg1, hl1⟩ := h
    rw [rngD_len] at hpl hl1
    unfold bCountD
    have hfr : ∀ ds : List (List Str), Fl (r ++ [Ob.lst (ps.map encP), Ob.lst (ds.map encS)]) := fun ds => hf.app (.two (belows_map (below_encP 0) ps) (belows_map (below_encS 0) ds))
    simp only [ok_ok, kDrop_ap, kRet_ap, kSet_ap, kCons2_ap, kCons_ap, kTup_ap, kLst_ap, kVal_ap, kNew_ap, kBin2_ap, kBin_ap, kUn_ap, kCall_ap, kCallL_ap, kNotT_ap, kAndT_ap, kOrT_ap, kIf_ap, kIfS_ap, kAnd_ap, kOr_ap, kNot_ap, kMt2_ap, kMt_ap, kPut4_ap, kPut3_ap, kPut2_ap, kPut_ap, kExt2_ap, kExt_ap, kAsg2_ap, kAsg_ap, kFor_ap, kLc_ap, kSl3_ap, kSl2_ap, kSl_ap, kGs_ap, ok_seq, sq_next, sq_ret, sq_brk, sq_cont, ok_nop, ok_brk, ok_cont, ok_drop, ok_ret, ok_retN, ok_set, ok_var0, ok_varS, ok_c, ok_nil, ok_cons, ok_tup, ok_lst, ok_val, ok_new, ok_bin, ok_un, ok_call, ok_callL, ok_test, tst_bl, ok_notT, ok_andT, ok_orT, ok_if, ok_ifS, ok_and, ok_or, ok_not, ok_mt, ok_put, ok_extend, pr2_mk, ok_par2, ok_asg, ok_for, ok_lc, ok_yes, ok_noPart, prt_int, ok_part, ok_sl, ok_gNm, ok_gTp, ok_gsN, ok_gsC, rg1_mk, rg2_mk, ok_rng1, ok_rng2, srcK_tup, srcK_ls, ok_src, finK_next, finK_ret, List.set_cons_zero, List.set_cons_succ, List.map_cons, List.map_nil, List.replicate, List.cons_append, List.nil_append, List.length_cons, List.length_nil, Bool.false_eq_true, eq_self, if_true, if_false, Nat.zero_add, app2, len2]
    refine ⟨rfl, ?_⟩
    refine (ht t1 _ 4 hw1 (by omega) (by omega) (by omega) (hfr [])).mono ?_
    rintro d s ⟨x, t2, rfl, h10, h11, rfl, hw2, hc2⟩
    obtain ⟨y, ey, hy⟩ := pick4 (a := 0) (b := 1) (c := 2) (d := x3) h10 h11
    simp only [ok_ok, kDrop_ap, kRet_ap, kSet_ap, kCons2_ap, kCons_ap, kTup_ap, kLst_ap, kVal_ap, kNew_ap, kBin2_ap, kBin_ap, kUn_ap, kCall_ap, kCallL_ap, kNotT_ap, kAndT_ap, kOrT_ap, kIf_ap, kIfS_ap, kAnd_ap, kOr_ap, kNot_ap, kMt2_ap, kMt_ap, kPut4_ap, kPut3_ap, kPut2_ap, kPut_ap, kExt2_ap, kExt_ap, kAsg2_ap, kAsg_ap, kFor_ap, kLc_ap, kSl3_ap, kSl2_ap, kSl_ap, kGs_ap, ok_seq, sq_next, sq_ret, sq_brk, sq_cont, ok_nop, ok_brk, ok_cont, ok_drop, ok_ret, ok_retN, ok_set, ok_var0, ok_varS, ok_c, ok_nil, ok_cons, ok_tup, ok_lst, ok_val, ok_new, ok_bin, ok_un, ok_call, ok_callL, ok_test, tst_bl, ok_notT, ok_andT, ok_orT, ok_if, ok_ifS, ok_and, ok_or, ok_not, ok_mt, ok_put, ok_extend, pr2_mk, ok_par2, ok_asg, ok_for, ok_lc, ok_yes, ok_noPart, prt_int, ok_part, ok_sl, ok_gNm, ok_gTp, ok_gsN, ok_gsC, rg1_mk, rg2_mk, ok_rng1, ok_rng2, srcK_tup, srcK_ls, ok_src, finK_next, finK_ret, List.set_cons_zero, List.set_cons_succ, List.map_cons, List.map_nil, List.replicate, List.cons_append, List.nil_append, List.length_cons, List.length_nil, Bool.false_eq_true, eq_self, if_true, if_false, Nat.zero_add, ey]
    have hy12 : 0 ≤ y ∧ y ≤ 12 := by omega
    refine ⟨inRng_small (by omega) (by omega), ?_⟩
    refine ok_loop (fun i env s => ∃ (t' : Feed) (ds : List (List Str)) (v7 v10 : Option Dv), env = [some (.loc 0), some (.ls (lots.map .str)), some (.int m), some (.bl g), some (.ls [.int 0, .int 1, .int 2, .int x3]), some (.loc (r.length + 1)), some (.int few), v7, v8, some (.loc (r.length + 2)), v10, none] ∧
        s = feedOb t' :: (r ++ [.lst (ps.map encP), .lst (ds.map encS)]) ∧ ds.length = i ∧ (∀ d ∈ ds, ∃ ws : List Str, d = srtS ws ∧ ws.Sublist lots ∧ ws ≠ []) ∧ t'.Wf ∧ f.calls ≤ t'.calls ∧ t'.calls ≤ f.calls + 210 + 10 * i)
      (fun _ _ _ _ => rfl) (fun i d env s hd h => ?_) (fun env s h => ?_) ⟨t2, [], _, _, rfl, rfl, rfl, fun p hp => absurd hp List.not_mem_nil, hw2, by omega, by omega⟩
    · obtain ⟨t3, ds, v7, v10, rfl, rfl, rfl, hds, hw3, hg3, hl3⟩ := h
      obtain ⟨hi, rfl⟩ := rngD_get hd
      unfold bCountDB
      simp only [ok_ok, kDrop_ap, kRet_ap, kSet_ap, kCons2_ap, kCons_ap, kTup_ap, kLst_ap, kVal_ap, kNew_ap, kBin2_ap, kBin_ap, kUn_ap, kCall_ap, kCallL_ap, kNotT_ap, kAndT_ap, kOrT_ap, kIf_ap, kIfS_ap, kAnd_ap, kOr_ap, kNot_ap, kMt2_ap, kMt_ap, kPut4_ap, kPut3_ap, kPut2_ap, kPut_ap, kExt2_ap, kExt_ap, kAsg2_ap, kAsg_ap, kFor_ap, kLc_ap, kSl3_ap, kSl2_ap, kSl_ap, kGs_ap, ok_seq, sq_next, sq_ret, sq_brk, sq_cont, ok_nop, ok_brk, ok_cont, ok_drop, ok_ret, ok_retN, ok_set, ok_var0, ok_varS, ok_c, ok_nil, ok_cons, ok_tup, ok_lst, ok_val, ok_new, ok_bin, ok_un, ok_call, ok_callL, ok_test, tst_bl, ok_notT, ok_andT, ok_orT, ok_if, ok_ifS, ok_and, ok_or, ok_not, ok_mt, ok_put, ok_extend, pr2_mk, ok_par2, ok_asg, ok_for, ok_lc, ok_yes, ok_noPart, prt_int, ok_part, ok_sl, ok_gNm, ok_gTp, ok_gsN, ok_gsC, rg1_mk, rg2_mk, ok_rng1, ok_rng2, srcK_tup, srcK_ls, ok_src, finK_next, finK_ret, List.set_cons_zero, List.set_cons_succ, List.map_cons, List.map_nil, List.replicate, List.cons_append, List.nil_append, List.length_cons, List.length_nil, Bool.false_eq_true, eq_self, if_true, if_false, Nat.zero_add]
      refine ⟨decide_eq_true (by rw [List.length_map]; omega), ?_⟩
      refine ok_lcI (fun i acc s => ∃ (t' : Feed) (ws : List Str), acc = ws.map .str ∧ s = feedOb t' :: (r ++ [.lst (ps.map encP), .lst (ds.map encS)]) ∧ ws.Sublist (lots.take i) ∧ t'.Wf ∧ f.calls ≤ t'.calls ∧ t'.calls ≤ t3.calls + i)
        (fun _ _ _ _ => rfl) (fun i d acc s hd h => ?_) (fun acc s h => ?_) ⟨t3, [], rfl, rfl, List.nil_sublist _, hw3, by omega, by omega⟩
      · obtain ⟨t', ws, rfl, rfl, hs, hw', hc1, hc2⟩ := h
        have hi : i < lots.length := by have := (List.getElem?_eq_some_iff.mp hd).1; rwa [List.length_map] at this
        rw [List.getElem?_map, List.getElem?_eq_getElem hi] at hd
        cases hd
        simp only [ok_ok, kDrop_ap, kRet_ap, kSet_ap, kCons2_ap, kCons_ap, kTup_ap, kLst_ap, kVal_ap, kNew_ap, kBin2_ap, kBin_ap, kUn_ap, kCall_ap, kCallL_ap, kNotT_ap, kAndT_ap, kOrT_ap, kIf_ap, kIfS_ap, kAnd_ap, kOr_ap, kNot_ap, kMt2_ap, kMt_ap, kPut4_ap, kPut3_ap, kPut2_ap, kPut_ap, kExt2_ap, kExt_ap, kAsg2_ap, kAsg_ap, kFor_ap, kLc_ap, kSl3_ap, kSl2_ap, kSl_ap, kGs_ap, ok_seq, sq_next, sq_ret, sq_brk, sq_cont, ok_nop, ok_brk, ok_cont, ok_drop, ok_ret, ok_retN, ok_set, ok_var0, ok_varS, ok_c, ok_nil, ok_cons, ok_tup, ok_lst, ok_val, ok_new, ok_bin, ok_un, ok_call, ok_callL, ok_test, tst_bl, ok_notT, ok_andT, ok_orT, ok_if, ok_ifS, ok_and, ok_or, ok_not, ok_mt, ok_put, ok_extend, pr2_mk, ok_par2, ok_asg, ok_for, ok_lc, ok_yes, ok_noPart, prt_int, ok_part, ok_sl, ok_gNm, ok_gTp, ok_gsN, ok_gsC, rg1_mk, rg2_mk, ok_rng1, ok_rng2, srcK_tup, srcK_ls, ok_src, finK_next, finK_ret, List.set_cons_zero, List.set_cons_succ, List.map_cons, List.map_nil, List.replicate, List.cons_append, List.nil_append, List.length_cons, List.length_nil, Bool.false_eq_true, eq_self, if_true, if_false, Nat.zero_add, wipeZ]
        refine (ht t' _ 2 hw' (by omega) (by omega) (by omega) (hfr ds)).mono ?_
        rintro d s ⟨x, t2, rfl, hx0, hx1, rfl, hw2, hc2'⟩
        simp only [ok_ok, kDrop_ap, kRet_ap, kSet_ap, kCons2_ap, kCons_ap, kTup_ap, kLst_ap, kVal_ap, kNew_ap, kBin2_ap, kBin_ap, kUn_ap, kCall_ap, kCallL_ap, kNotT_ap, kAndT_ap, kOrT_ap, kIf_ap, kIfS_ap, kAnd_ap, kOr_ap, kNot_ap, kMt2_ap, kMt_ap, kPut4_ap, kPut3_ap, kPut2_ap, kPut_ap, kExt2_ap, kExt_ap, kAsg2_ap, kAsg_ap, kFor_ap, kLc_ap, kSl3_ap, kSl2_ap, kSl_ap, kGs_ap, ok_seq, sq_next, sq_ret, sq_brk, sq_cont, ok_nop, ok_brk, ok_cont, ok_drop, ok_ret, ok_retN, ok_set, ok_var0, ok_varS, ok_c, ok_nil, ok_cons, ok_tup, ok_lst, ok_val, ok_new, ok_bin, ok_un, ok_call, ok_callL, ok_test, tst_bl, ok_notT, ok_andT, ok_orT, ok_if, ok_ifS, ok_and, ok_or, ok_not, ok_mt, ok_put, ok_extend, pr2_mk, ok_par2, ok_asg, ok_for, ok_lc, ok_yes, ok_noPart, prt_int, ok_part, ok_sl, ok_gNm, ok_gTp, ok_gsN, ok_gsC, rg1_mk, rg2_mk, ok_rng1, ok_rng2, srcK_tup, srcK_ls, ok_src, finK_next, finK_ret, List.set_cons_zero, List.set_cons_succ, List.map_cons, List.map_nil, List.replicate, List.cons_append, List.nil_append, List.length_cons, List.length_nil, Bool.false_eq_true, eq_self, if_true, if_false, Nat.zero_add, eq_int]
        split
        · refine ⟨t2, ws ++ [lots[i]], by simp, rfl, ?_, hw2, by omega, by push_cast; omega⟩
          rw [take_succ' (List.getElem?_eq_getElem hi)]; exact hs.append (List.Sublist.refl _)
        · exact ⟨t2, ws, rfl, rfl, by rw [take_succ' (List.getElem?_eq_getElem hi)]; exact hs.trans (List.sublist_append_left _ _), hw2, by omega, by push_cast; omega⟩
      · obtain ⟨t', ws, rfl, rfl, hs, hw', hc1, hc2⟩ := h
        rw [List.length_map] at hs hc2
        rw [List.take_length] at hs
        have hso : ∀ x ∈ srtS ws, PyData.strOk x = true := fun x hx => (word_ok (hwd x (hs.subset ((srtS_perm ws).mem_iff.mp hx)))).1
        have gg := st_get2 (t := feedOb t') (o := Ob.lst (ps.map encP)) (o2 := Ob.lst (ds.map encS)) (r := r) (l := [])
        have sl1 : gSl (.ls (lots.map .str)) none (some 1) (feedOb t' :: (r ++ [.lst (ps.map encP), .lst (ds.map encS)])) = .ok (.ls ((lots.take 1).map .str)) (feedOb t' :: (r ++ [.lst (ps.map encP), .lst (ds.map encS)])) := by
          show Rs.ok (Dv.ls (cutD _ _ _)) _ = _
          rw [cut_take (by decide), List.map_take]; rfl
        have fin : ∀ (q : List Str) (v10 : Option Dv), (∃ us : List Str, q = srtS us ∧ us.Sublist lots ∧ us ≠ []) → Ok (gAppend (.loc (r.length + 2)) [.tup (q.map .str)] (feedOb t' :: (r ++ [.lst (ps.map encP), .lst (ds.map encS)]))) fun _ s2 =>
            ∃ (t'' : Feed) (ds' : List (List Str)) (w7 w10 : Option Dv), [some (.loc 0), some (.ls (lots.map .str)), some (.int m), some (.bl g), some (.ls [.int 0, .int 1, .int 2, .int x3]), some (.loc (r.length + 1)), some (.int few), some (.int (0 + (ds.length : Int))), v8, some (.loc (r.length + 2)), v10, none] =
              [some (.loc 0), some (.ls (lots.map .str)), some (.int m), some (.bl g), some (.ls [.int 0, .int 1, .int 2, .int x3]), some (.loc (r.length + 1)), some (.int few), w7, v8, some (.loc (r.length + 2)), w10, none] ∧ s2 = feedOb t'' :: (r ++ [.lst (ps.map encP), .lst (ds'.map encS)]) ∧ ds'.length = ds.length + 1 ∧
              (∀ d ∈ ds', ∃ ws : List Str, d = srtS ws ∧ ws.Sublist lots ∧ ws ≠ []) ∧ t''.Wf ∧ f.calls ≤ t''.calls ∧ t''.calls ≤ f.calls + 210 + 10 * ((ds.length + 1 : Nat) : Int) := by
          intro q v10 hq
          rw [append_loc st_get2 (by rw [List.length_map]; omega), st_set2, ok_ok]
          refine ⟨t', ds ++ [q], _, _, rfl, by simp [encS], by simp, fun d hd => ?_, hw', hc1, by push_cast; omega⟩
          rcases List.mem_append.mp hd with z | z
          · exact hds d z
          · rw [List.mem_singleton.mp z]; exact hq
        simp only [ok_ok, kDrop_ap, kRet_ap, kSet_ap, kCons2_ap, kCons_ap, kTup_ap, kLst_ap, kVal_ap, kNew_ap, kBin2_ap, kBin_ap, kUn_ap, kCall_ap, kCallL_ap, kNotT_ap, kAndT_ap, kOrT_ap, kIf_ap, kIfS_ap, kAnd_ap, kOr_ap, kNot_ap, kMt2_ap, kMt_ap, kPut4_ap, kPut3_ap, kPut2_ap, kPut_ap, kExt2_ap, kExt_ap, kAsg2_ap, kAsg_ap, kFor_ap, kLc_ap, kSl3_ap, kSl2_ap, kSl_ap, kGs_ap, ok_seq, sq_next, sq_ret, sq_brk, sq_cont, ok_nop, ok_brk, ok_cont, ok_drop, ok_ret, ok_retN, ok_set, ok_var0, ok_varS, ok_c, ok_nil, ok_cons, ok_tup, ok_lst, ok_val, ok_new, ok_bin, ok_un, ok_call, ok_callL, ok_test, tst_bl, ok_notT, ok_andT, ok_orT, ok_if, ok_ifS, ok_and, ok_or, ok_not, ok_mt, ok_put, ok_extend, pr2_mk, ok_par2, ok_asg, ok_for, ok_lc, ok_yes, ok_noPart, prt_int, ok_part, ok_sl, ok_gNm, ok_gTp, ok_gsN, ok_gsC, rg1_mk, rg2_mk, ok_rng1, ok_rng2, srcK_tup, srcK_ls, ok_src, finK_next, finK_ret, List.set_cons_zero, List.set_cons_succ, List.map_cons, List.map_nil, List.replicate, List.cons_append, List.nil_append, List.length_cons, List.length_nil, Bool.false_eq_true, eq_self, if_true, if_false, Nat.zero_add, sorted_ls]
        refine ⟨isL_loc gg, ?_⟩
        refine ⟨rfl, ?_⟩
        simp only [ok_ok, kDrop_ap, kRet_ap, kSet_ap, kCons2_ap, kCons_ap, kTup_ap, kLst_ap, kVal_ap, kNew_ap, kBin2_ap, kBin_ap, kUn_ap, kCall_ap, kCallL_ap, kNotT_ap, kAndT_ap, kOrT_ap, kIf_ap, kIfS_ap, kAnd_ap, kOr_ap, kNot_ap, kMt2_ap, kMt_ap, kPut4_ap, kPut3_ap, kPut2_ap, kPut_ap, kExt2_ap, kExt_ap, kAsg2_ap, kAsg_ap, kFor_ap, kLc_ap, kSl3_ap, kSl2_ap, kSl_ap, kGs_ap, ok_seq, sq_next, sq_ret, sq_brk, sq_cont, ok_nop, ok_brk, ok_cont, ok_drop, ok_ret, ok_retN, ok_set, ok_var0, ok_varS, ok_c, ok_nil, ok_cons, ok_tup, ok_lst, ok_val, ok_new, ok_bin, ok_un, ok_call, ok_callL, ok_test, tst_bl, ok_notT, ok_andT, ok_orT, ok_if, ok_ifS, ok_and, ok_or, ok_not, ok_mt, ok_put, ok_extend, pr2_mk, ok_par2, ok_asg, ok_for, ok_lc, ok_yes, ok_noPart, prt_int, ok_part, ok_sl, ok_gNm, ok_gTp, ok_gsN, ok_gsC, rg1_mk, rg2_mk, ok_rng1, ok_rng2, srcK_tup, srcK_ls, ok_src, finK_next, finK_ret, List.set_cons_zero, List.set_cons_succ, List.map_cons, List.map_nil, List.replicate, List.cons_append, List.nil_append, List.length_cons, List.length_nil, Bool.false_eq_true, eq_self, if_true, if_false, Nat.zero_add, ne_nil hso]
        split
        · rename_i hne
          simp only [ok_ok, kDrop_ap, kRet_ap, kSet_ap, kCons2_ap, kCons_ap, kTup_ap, kLst_ap, kVal_ap, kNew_ap, kBin2_ap, kBin_ap, kUn_ap, kCall_ap, kCallL_ap, kNotT_ap, kAndT_ap, kOrT_ap, kIf_ap, kIfS_ap, kAnd_ap, kOr_ap, kNot_ap, kMt2_ap, kMt_ap, kPut4_ap, kPut3_ap, kPut2_ap, kPut_ap, kExt2_ap, kExt_ap, kAsg2_ap, kAsg_ap, kFor_ap, kLc_ap, kSl3_ap, kSl2_ap, kSl_ap, kGs_ap, ok_seq, sq_next, sq_ret, sq_brk, sq_cont, ok_nop, ok_brk, ok_cont, ok_drop, ok_ret, ok_retN, ok_set, ok_var0, ok_varS, ok_c, ok_nil, ok_cons, ok_tup, ok_lst, ok_val, ok_new, ok_bin, ok_un, ok_call, ok_callL, ok_test, tst_bl, ok_notT, ok_andT, ok_orT, ok_if, ok_ifS, ok_and, ok_or, ok_not, ok_mt, ok_put, ok_extend, pr2_mk, ok_par2, ok_asg, ok_for, ok_lc, ok_yes, ok_noPart, prt_int, ok_part, ok_sl, ok_gNm, ok_gTp, ok_gsN, ok_gsC, rg1_mk, rg2_mk, ok_rng1, ok_rng2, srcK_tup, srcK_ls, ok_src, finK_next, finK_ret, List.set_cons_zero, List.set_cons_succ, List.map_cons, List.map_nil, List.replicate, List.cons_append, List.nil_append, List.length_cons, List.length_nil, Bool.false_eq_true, eq_self, if_true, if_false, Nat.zero_add, tuple_ls]
          refine (fin (srtS ws) _ ⟨ws, rfl, hs, fun z => ?_⟩).mono fun _ _ h => h
          rw [z, srtS_nil] at hne; exact absurd hne (by decide)
        · simp only [ok_ok, kDrop_ap, kRet_ap, kSet_ap, kCons2_ap, kCons_ap, kTup_ap, kLst_ap, kVal_ap, kNew_ap, kBin2_ap, kBin_ap, kUn_ap, kCall_ap, kCallL_ap, kNotT_ap, kAndT_ap, kOrT_ap, kIf_ap, kIfS_ap, kAnd_ap, kOr_ap, kNot_ap, kMt2_ap, kMt_ap, kPut4_ap, kPut3_ap, kPut2_ap, kPut_ap, kExt2_ap, kExt_ap, kAsg2_ap, kAsg_ap, kFor_ap, kLc_ap, kSl3_ap, kSl2_ap, kSl_ap, kGs_ap, ok_seq, sq_next, sq_ret, sq_brk, sq_cont, ok_nop, ok_brk, ok_cont, ok_drop, ok_ret, ok_retN, ok_set, ok_var0, ok_varS, ok_c, ok_nil, ok_cons, ok_tup, ok_lst, ok_val, ok_new, ok_bin, ok_un, ok_call, ok_callL, ok_test, tst_bl, ok_notT, ok_andT, ok_orT, ok_if, ok_ifS, ok_and, ok_or, ok_not, ok_mt, ok_put, ok_extend, pr2_mk, ok_par2, ok_asg, ok_for, ok_lc, ok_yes, ok_noPart, prt_int, ok_part, ok_sl, ok_gNm, ok_gTp, ok_gsN, ok_gsC, rg1_mk, rg2_mk, ok_rng1, ok_rng2, srcK_tup, srcK_ls, ok_src, finK_next, finK_ret, List.set_cons_zero, List.set_cons_succ, List.map_cons, List.map_nil, List.replicate, List.cons_append, List.nil_append, List.length_cons, List.length_nil, Bool.false_eq_true, eq_self, if_true, if_false, Nat.zero_add, sl1, tuple_ls]
          refine (fin (lots.take 1) _ ⟨lots.take 1, ?_, List.take_sublist _ _, fun z => ?_⟩).mono fun _ _ h => h
          · match lots, hl2 with
            | a :: b :: l, _ => exact (srtS_one a).symm
          · have := congrArg List.length z
            rw [List.length_take, List.length_nil] at this; omega
    · obtain ⟨t3, ds, v7, v10, rfl, rfl, hdl, hds, hw3, hg3, hl3⟩ := h
      rw [rngD_len] at hdl hl3
      have g1 := st_get1 (t := feedOb t3) (o := Ob.lst (ps.map encP)) (r := r) (l := [Ob.lst (ds.map encS)])
      have g2 := st_get2 (t := feedOb t3) (o := Ob.lst (ps.map encP)) (o2 := Ob.lst (ds.map encS)) (r := r) (l := [])
      unfold bCountT
      simp only [ok_ok, kDrop_ap, kRet_ap, kSet_ap, kCons2_ap, kCons_ap, kTup_ap, kLst_ap, kVal_ap, kNew_ap, kBin2_ap, kBin_ap, kUn_ap, kCall_ap, kCallL_ap, kNotT_ap, kAndT_ap, kOrT_ap, kIf_ap, kIfS_ap, kAnd_ap, kOr_ap, kNot_ap, kMt2_ap, kMt_ap, kPut4_ap, kPut3_ap, kPut2_ap, kPut_ap, kExt2_ap, kExt_ap, kAsg2_ap, kAsg_ap, kFor_ap, kLc_ap, kSl3_ap, kSl2_ap, kSl_ap, kGs_ap, ok_seq, sq_next, sq_ret, sq_brk, sq_cont, ok_nop, ok_brk, ok_cont, ok_drop, ok_ret, ok_retN, ok_set, ok_var0, ok_varS, ok_c, ok_nil, ok_cons, ok_tup, ok_lst, ok_val, ok_new, ok_bin, ok_un, ok_call, ok_callL, ok_test, tst_bl, ok_notT, ok_andT, ok_orT, ok_if, ok_ifS, ok_and, ok_or, ok_not, ok_mt, ok_put, ok_extend, pr2_mk, ok_par2, ok_asg, ok_for, ok_lc, ok_yes, ok_noPart, prt_int, ok_part, ok_sl, ok_gNm, ok_gTp, ok_gsN, ok_gsC, rg1_mk, rg2_mk, ok_rng1, ok_rng2, srcK_tup, srcK_ls, ok_src, finK_next, finK_ret, List.set_cons_zero, List.set_cons_succ, List.map_cons, List.map_nil, List.replicate, List.cons_append, List.nil_append, List.length_cons, List.length_nil, Bool.false_eq_true, eq_self, if_true, if_false, Nat.zero_add, tuple_ls, tuple_loc g1, tuple_loc g2]
      refine ⟨rfl, ?_⟩
      refine fin_feed hf (below_encC 0 ⟨lots, ps, ds⟩) ⟨⟨lots, ps, ds⟩, t3, rfl, ⟨hl2, hl6, hnd, hwd, hps, by show ps.length ≤ 10; omega, by show (ps.filter fun p => !p.others.isEmpty).length ≤ 3; omega, hds, by show ds.length ≤ 12; omega⟩, rfl, by show (ps.length : Int) = m; omega, rfl, hw3, hg3, by omega⟩
end Z

namespace Z
open PySem PySem.Spec L2
def bCountC2 (φo : Phi) : Fn Ct := (fRet (fCall φo (fCons (fVar 0) (fCons (fVar 3) (fCons (fVar 4) (fCons (fVar 2) (fCons (fVal (fLst (fCons (fC (.int 0)) (fCons (fC (.int 1)) (fCons (fC (.int 2)) (fCons (fIf (fTest (fBin gGt (fVar 1) (fC (.int 5)))) (fC (.int 12)) (fC (.int 3))) (fNil))))))) (fNil))))))))
def bCountC1 (φd φl φo : Phi) : Fn Ct :=
  (fSeq (fSet 3 (fCall φl (fCons (fVar 0) (fCons (fBin gAdd (fC (.int 2)) (fCall φd (fCons (fVar 0) (fCons (fIf (fTest (fBin gGt (fVar 1) (fC (.int 5)))) (fC (.int 5)) (fC (.int 3))) (fNil))))) (fNil)))))
  (fSeq (fSet 4 (fIf (fTest (fVar 2)) (fVar 1) (fCall φd (fCons (fVar 0) (fCons (fBin gAdd (fVar 1) (fC (.int 1))) (fNil))))))
  (bCountC2 φo)))
def bCountC (φd φl φo : Phi) : Fn Ct :=
  fSeq (fSet 2 (fAnd (fBin gGt (fVar 1) (fC (.int 8))) (fBin gEq (fCall φd (fCons (fVar 0) (fCons (fC (.int 2)) (fNil)))) (fC (.int 0)))))
  (bCountC1 φd φl φo)
def CountC (φ : Phi) : Prop := ∀ (f : Feed) (r : Sto) (most : Int), f.Wf → f.calls + 1000 ≤ 1000000 → 1 ≤ most → most ≤ 10 → Fl r →
  Ok (φ [.loc 0, .int most] (feedOb f :: r)) fun d s' => ∃ (c : Cnt) (f' : Feed), d = encC c ∧ CntOk c ∧ s' = feedOb f' :: r ∧ f'.Wf ∧ f.calls ≤ f'.calls ∧ f'.calls ≤ f.calls + 1000
theorem countC_spec {φd φl φo : Phi} (ht : DrawS φd) (hl : LotsC φl) (ho : CountO φo) : CountC (fDef 2 5 (bCountC φd φl φo)) := by
  intro f r most hw hc h1 h10 hf
  rw [ok_def]
  refine ⟨rfl, ?_⟩
  have last : ∀ (f1 : Feed) (lots : List Str) (m : Int) (g : Bool), f1.Wf → f.calls ≤ f1.calls → f1.calls ≤ f.calls + 50 → 2 ≤ lots.length → lots.length ≤ 6 → lots.Nodup → (∀ x ∈ lots, isWordS x = true) → 0 ≤ m → m ≤ 10 →
      Ok (bCountC2 φo [some (.loc 0), some (.int most), some (.bl g), some (.ls (lots.map .str)), some (.int m)] (feedOb f1 :: r)) (finK (r.length + 1) fun d s' => ∃ (c : Cnt) (f' : Feed), d = encC c ∧ CntOk c ∧ s' = feedOb f' :: r ∧ f'.Wf ∧ f.calls ≤ f'.calls ∧ f'.calls ≤ f.calls + 1000) := by
    intro f1 lots m g hw1 hg1 hl1 l2 l6 hn hwd hm0 hm1
    have fin : ∀ x3 : Int, 0 ≤ x3 → x3 ≤ 12 → Ok (φo [.loc 0, .ls (lots.map .str), .int m, .bl g, .ls [.int 0, .int 1, .int 2, .int x3]] (feedOb f1 :: r)) fun d s' => Ok (gcZ (r.length + 1) d s') fun d s' => ∃ (c : Cnt) (f' : Feed), d = encC c ∧ CntOk c ∧ s' = feedOb f' :: r ∧ f'.Wf ∧ f.calls ≤ f'.calls ∧ f'.calls ≤ f.calls + 1000 := fun x3 a b => by
      refine (ho f1 r lots m x3 g hw1 (by omega) l2 l6 hn hwd hm0 hm1 a b hf).mono ?_
      rintro d s ⟨c, f2, rfl, hc2, _, _, rfl, hw2, hg2, hl2⟩
      exact fin_feed0 hf (below_encC 0 c) ⟨c, f2, rfl, hc2, rfl, hw2, by omega, by omega⟩
    unfold bCountC2
    simp only [ok_ok, kDrop_ap, kRet_ap, kSet_ap, kCons2_ap, kCons_ap, kTup_ap, kLst_ap, kVal_ap, kNew_ap, kBin2_ap, kBin_ap, kUn_ap, kCall_ap, kCallL_ap, kNotT_ap, kAndT_ap, kOrT_ap, kIf_ap, kIfS_ap, kAnd_ap, kOr_ap, kNot_ap, kMt2_ap, kMt_ap, kPut4_ap, kPut3_ap, kPut2_ap, kPut_ap, kExt2_ap, kExt_ap, kAsg2_ap, kAsg_ap, kFor_ap, kLc_ap, kSl3_ap, kSl2_ap, kSl_ap, kGs_ap, ok_seq, sq_next, sq_ret, sq_brk, sq_cont, ok_nop, ok_brk, ok_cont, ok_drop, ok_ret, ok_retN, ok_set, ok_var0, ok_varS, ok_c, ok_nil, ok_cons, ok_tup, ok_lst, ok_val, ok_new, ok_bin, ok_un, ok_call, ok_callL, ok_test, tst_bl, ok_notT, ok_andT, ok_orT, ok_if, ok_ifS, ok_and, ok_or, ok_not, ok_mt, ok_put, ok_extend, pr2_mk, ok_par2, ok_asg, ok_for, ok_lc, ok_yes, ok_noPart, prt_int, ok_part, ok_sl, ok_gNm, ok_gTp, ok_gsN, ok_gsC, rg1_mk, rg2_mk, ok_rng1, ok_rng2, srcK_tup, srcK_ls, ok_src, finK_next, finK_ret, List.set_cons_zero, List.set_cons_succ, List.map_cons, List.map_nil, List.replicate, List.cons_append, List.nil_append, List.length_cons, List.length_nil, Bool.false_eq_true, eq_self, if_true, if_false, Nat.zero_add, gt_int]
    split
    · refine ⟨rfl, ?_⟩
      exact (fin 12 (by decide) (by decide)).mono fun _ _ h => h
    · refine ⟨rfl, ?_⟩
      exact (fin 3 (by decide) (by decide)).mono fun _ _ h => h
  have mid : ∀ (f1 : Feed) (g : Bool), f1.Wf → f.calls ≤ f1.calls → f1.calls ≤ f.calls + 1 → Ok (bCountC1 φd φl φo [some (.loc 0), some (.int most), some (.bl g), none, none] (feedOb f1 :: r)) (finK (r.length + 1) fun d s' => ∃ (c : Cnt) (f' : Feed), d = encC c ∧ CntOk c ∧ s' = feedOb f' :: r ∧ f'.Wf ∧ f.calls ≤ f'.calls ∧ f'.calls ≤ f.calls + 1000) := by
    intro f1 g hw1 hg1 hl1
    have go : ∀ k : Int, 1 ≤ k → k ≤ 5 → ∀ T : Dv → Sto → Prop, (∀ (lots : List Str) (f2 : Feed), f2.Wf → f.calls ≤ f2.calls → f2.calls ≤ f.calls + 20 → 2 ≤ lots.length → lots.length ≤ 6 → lots.Nodup → (∀ x ∈ lots, isWordS x = true) → T (.ls (lots.map .str)) (feedOb f2 :: r)) →
        Ok (φd [.loc 0, .int k] (feedOb f1 :: r)) fun d s => Ok (gAdd (.int 2) d s) fun d s => Ok (φl [.loc 0, d] s) T := by
      intro k hk1 hk5 T hT
      refine (ht f1 r k hw1 (by omega) hk1 (by omega) hf).mono ?_
      rintro d s ⟨x, f2, rfl, hx0, hx1, rfl, hw2, hc2⟩
      rw [add_int, ok_ok]
      refine (hl f2 r (2 + x) hw2 (by omega) (by omega) (by omega) hf).mono ?_
      rintro d s ⟨lots, f3, rfl, hll, hn, hwd, rfl, hw3, hg3, hl3⟩
      exact hT lots f3 hw3 (by omega) (by omega) (by omega) (by omega) hn hwd
    have rest : ∀ (lots : List Str) (f2 : Feed), f2.Wf → f.calls ≤ f2.calls → f2.calls ≤ f.calls + 20 → 2 ≤ lots.length → lots.length ≤ 6 → lots.Nodup → (∀ x ∈ lots, isWordS x = true) →
        Ok (fSeq (fSet 4 (fIf (fTest (fVar 2)) (fVar 1) (fCall φd (fCons (fVar 0) (fCons (fBin gAdd (fVar 1) (fC (.int 1))) (fNil)))))) (bCountC2 φo) [some (.loc 0), some (.int most), some (.bl g), some (.ls (lots.map .str)), none] (feedOb f2 :: r))
          (finK (r.length + 1) fun d s' => ∃ (c : Cnt) (f' : Feed), d = encC c ∧ CntOk c ∧ s' = feedOb f' :: r ∧ f'.Wf ∧ f.calls ≤ f'.calls ∧ f'.calls ≤ f.calls + 1000) := by
      intro lots f2 hw2 hg2 hl2 l2 l6 hn hwd
      simp only [ok_ok, kDrop_ap, kRet_ap, kSet_ap, kCons2_ap, kCons_ap, kTup_ap, kLst_ap, kVal_ap, kNew_ap, kBin2_ap, kBin_ap, kUn_ap, kCall_ap, kCallL_ap, kNotT_ap, kAndT_ap, kOrT_ap, kIf_ap, kIfS_ap, kAnd_ap, kOr_ap, kNot_ap, kMt2_ap, kMt_ap, kPut4_ap, kPut3_ap, kPut2_ap, kPut_ap, kExt2_ap, kExt_ap, kAsg2_ap, kAsg_ap, kFor_ap, kLc_ap, kSl3_ap, kSl2_ap, kSl_ap, kGs_ap, ok_seq, sq_next, sq_ret, sq_brk, sq_cont, ok_nop, ok_brk, ok_cont, ok_drop, ok_ret, ok_retN, ok_set, ok_var0, ok_varS, ok_c, ok_nil, ok_cons, ok_tup, ok_lst, ok_val, ok_new, ok_bin, ok_un, ok_call, ok_callL, ok_test, tst_bl, ok_notT, ok_andT, ok_orT, ok_if, ok_ifS, ok_and, ok_or, ok_not, ok_mt, ok_put, ok_extend, pr2_mk, ok_par2, ok_asg, ok_for, ok_lc, ok_yes, ok_noPart, prt_int, ok_part, ok_sl, ok_gNm, ok_gTp, ok_gsN, ok_gsC, rg1_mk, rg2_mk, ok_rng1, ok_rng2, srcK_tup, srcK_ls, ok_src, finK_next, finK_ret, List.set_cons_zero, List.set_cons_succ, List.map_cons, List.map_nil, List.replicate, List.cons_append, List.nil_append, List.length_cons, List.length_nil, Bool.false_eq_true, eq_self, if_true, if_false, Nat.zero_add]
      split
      · exact last f2 lots most g hw2 hg2 (by omega) l2 l6 hn hwd (by omega) h10
      · simp only [ok_ok, kDrop_ap, kRet_ap, kSet_ap, kCons2_ap, kCons_ap, kTup_ap, kLst_ap, kVal_ap, kNew_ap, kBin2_ap, kBin_ap, kUn_ap, kCall_ap, kCallL_ap, kNotT_ap, kAndT_ap, kOrT_ap, kIf_ap, kIfS_ap, kAnd_ap, kOr_ap, kNot_ap, kMt2_ap, kMt_ap, kPut4_ap, kPut3_ap, kPut2_ap, kPut_ap, kExt2_ap, kExt_ap, kAsg2_ap, kAsg_ap, kFor_ap, kLc_ap, kSl3_ap, kSl2_ap, kSl_ap, kGs_ap, ok_seq, sq_next, sq_ret, sq_brk, sq_cont, ok_nop, ok_brk, ok_cont, ok_drop, ok_ret, ok_retN, ok_set, ok_var0, ok_varS, ok_c, ok_nil, ok_cons, ok_tup, ok_lst, ok_val, ok_new, ok_bin, ok_un, ok_call, ok_callL, ok_test, tst_bl, ok_notT, ok_andT, ok_orT, ok_if, ok_ifS, ok_and, ok_or, ok_not, ok_mt, ok_put, ok_extend, pr2_mk, ok_par2, ok_asg, ok_for, ok_lc, ok_yes, ok_noPart, prt_int, ok_part, ok_sl, ok_gNm, ok_gTp, ok_gsN, ok_gsC, rg1_mk, rg2_mk, ok_rng1, ok_rng2, srcK_tup, srcK_ls, ok_src, finK_next, finK_ret, List.set_cons_zero, List.set_cons_succ, List.map_cons, List.map_nil, List.replicate, List.cons_append, List.nil_append, List.length_cons, List.length_nil, Bool.false_eq_true, eq_self, if_true, if_false, Nat.zero_add, add_int]
        refine (ht f2 r (most + 1) hw2 (by omega) (by omega) (by omega) hf).mono ?_
        rintro d s ⟨x, f3, rfl, hx0, hx1, rfl, hw3, hc3⟩
        simp only [ok_ok, kDrop_ap, kRet_ap, kSet_ap, kCons2_ap, kCons_ap, kTup_ap, kLst_ap, kVal_ap, kNew_ap, kBin2_ap, kBin_ap, kUn_ap, kCall_ap, kCallL_ap, kNotT_ap, kAndT_ap, kOrT_ap, kIf_ap, kIfS_ap, kAnd_ap, kOr_ap, kNot_ap, kMt2_ap, kMt_ap, kPut4_ap, kPut3_ap, kPut2_ap, kPut_ap, kExt2_ap, kExt_ap, kAsg2_ap, kAsg_ap, kFor_ap, kLc_ap, kSl3_ap, kSl2_ap, kSl_ap, kGs_ap, ok_seq, sq_next, sq_ret, sq_brk, sq_cont, ok_nop, ok_brk, ok_cont, ok_drop, ok_ret, ok_retN, ok_set, ok_var0, ok_varS, ok_c, ok_nil, ok_cons, ok_tup, ok_lst, ok_val, ok_new, ok_bin, ok_un, ok_call, ok_callL, ok_test, tst_bl, ok_notT, ok_andT, ok_orT, ok_if, ok_ifS, ok_and, ok_or, ok_not, ok_mt, ok_put, ok_extend, pr2_mk, ok_par2, ok_asg, ok_for, ok_lc, ok_yes, ok_noPart, prt_int, ok_part, ok_sl, ok_gNm, ok_gTp, ok_gsN, ok_gsC, rg1_mk, rg2_mk, ok_rng1, ok_rng2, srcK_tup, srcK_ls, ok_src, finK_next, finK_ret, List.set_cons_zero, List.set_cons_succ, List.map_cons, List.map_nil, List.replicate, List.cons_append, List.nil_append, List.length_cons, List.length_nil, Bool.false_eq_true, eq_self, if_true, if_false, Nat.zero_add]
        exact last f3 lots x g hw3 (by omega) (by omega) l2 l6 hn hwd hx0 (by omega)
    unfold bCountC1
    simp only [ok_ok, kDrop_ap, kRet_ap, kSet_ap, kCons2_ap, kCons_ap, kTup_ap, kLst_ap, kVal_ap, kNew_ap, kBin2_ap, kBin_ap, kUn_ap, kCall_ap, kCallL_ap, kNotT_ap, kAndT_ap, kOrT_ap, kIf_ap, kIfS_ap, kAnd_ap, kOr_ap, kNot_ap, kMt2_ap, kMt_ap, kPut4_ap, kPut3_ap, kPut2_ap, kPut_ap, kExt2_ap, kExt_ap, kAsg2_ap, kAsg_ap, kFor_ap, kLc_ap, kSl3_ap, kSl2_ap, kSl_ap, kGs_ap, ok_seq, sq_next, sq_ret, sq_brk, sq_cont, ok_nop, ok_brk, ok_cont, ok_drop, ok_ret, ok_retN, ok_set, ok_var0, ok_varS, ok_c, ok_nil, ok_cons, ok_tup, ok_lst, ok_val, ok_new, ok_bin, ok_un, ok_call, ok_callL, ok_test, tst_bl, ok_notT, ok_andT, ok_orT, ok_if, ok_ifS, ok_and, ok_or, ok_not, ok_mt, ok_put, ok_extend, pr2_mk, ok_par2, ok_asg, ok_for, ok_lc, ok_yes, ok_noPart, prt_int, ok_part, ok_sl, ok_gNm, ok_gTp, ok_gsN, ok_gsC, rg1_mk, rg2_mk, ok_rng1, ok_rng2, srcK_tup, srcK_ls, ok_src, finK_next, finK_ret, List.set_cons_zero, List.set_cons_succ, List.map_cons, List.map_nil, List.replicate, List.cons_append, List.nil_append, List.length_cons, List.length_nil, Bool.false_eq_true, eq_self, if_true, if_false, Nat.zero_add, gt_int]
    split
    · refine (go 5 (by decide) (by decide) _ fun lots f2 a b c d e g h => ?_).mono fun d s h => h
      exact rest lots f2 a b c d e g h
    · refine (go 3 (by decide) (by decide) _ fun lots f2 a b c d e g h => ?_).mono fun d s h => h
      exact rest lots f2 a b c d e g h
  unfold bCountC
  simp only [ok_ok, kDrop_ap, kRet_ap, kSet_ap, kCons2_ap, kCons_ap, kTup_ap, kLst_ap, kVal_ap, kNew_ap, kBin2_ap, kBin_ap, kUn_ap, kCall_ap, kCallL_ap, kNotT_ap, kAndT_ap, kOrT_ap, kIf_ap, kIfS_ap, kAnd_ap, kOr_ap, kNot_ap, kMt2_ap, kMt_ap, kPut4_ap, kPut3_ap, kPut2_ap, kPut_ap, kExt2_ap, kExt_ap, kAsg2_ap, kAsg_ap, kFor_ap, kLc_ap, kSl3_ap, kSl2_ap, kSl_ap, kGs_ap, ok_seq, sq_next, sq_ret, sq_brk, sq_cont, ok_nop, ok_brk, ok_cont, ok_drop, ok_ret, ok_retN, ok_set, ok_var0, ok_varS, ok_c, ok_nil, ok_cons, ok_tup, ok_lst, ok_val, ok_new, ok_bin, ok_un, ok_call, ok_callL, ok_test, tst_bl, ok_notT, ok_andT, ok_orT, ok_if, ok_ifS, ok_and, ok_or, ok_not, ok_mt, ok_put, ok_extend, pr2_mk, ok_par2, ok_asg, ok_for, ok_lc, ok_yes, ok_noPart, prt_int, ok_part, ok_sl, ok_gNm, ok_gTp, ok_gsN, ok_gsC, rg1_mk, rg2_mk, ok_rng1, ok_rng2, srcK_tup, srcK_ls, ok_src, finK_next, finK_ret, List.set_cons_zero, List.set_cons_succ, List.map_cons, List.map_nil, List.replicate, List.cons_append, List.nil_append, List.length_cons, List.length_nil, Bool.false_eq_true, eq_self, if_true, if_false, Nat.zero_add, gt_int]
  split
  · refine (ht f r 2 hw (by omega) (by omega) (by omega) hf).mono ?_
    rintro d s ⟨x, f1, rfl, hx0, hx1, rfl, hw1, hc1⟩
    simp only [ok_ok, kDrop_ap, kRet_ap, kSet_ap, kCons2_ap, kCons_ap, kTup_ap, kLst_ap, kVal_ap, kNew_ap, kBin2_ap, kBin_ap, kUn_ap, kCall_ap, kCallL_ap, kNotT_ap, kAndT_ap, kOrT_ap, kIf_ap, kIfS_ap, kAnd_ap, kOr_ap, kNot_ap, kMt2_ap, kMt_ap, kPut4_ap, kPut3_ap, kPut2_ap, kPut_ap, kExt2_ap, kExt_ap, kAsg2_ap, kAsg_ap, kFor_ap, kLc_ap, kSl3_ap, kSl2_ap, kSl_ap, kGs_ap, ok_seq, sq_next, sq_ret, sq_brk, sq_cont, ok_nop, ok_brk, ok_cont, ok_drop, ok_ret, ok_retN, ok_set, ok_var0, ok_varS, ok_c, ok_nil, ok_cons, ok_tup, ok_lst, ok_val, ok_new, ok_bin, ok_un, ok_call, ok_callL, ok_test, tst_bl, ok_notT, ok_andT, ok_orT, ok_if, ok_ifS, ok_and, ok_or, ok_not, ok_mt, ok_put, ok_extend, pr2_mk, ok_par2, ok_asg, ok_for, ok_lc, ok_yes, ok_noPart, prt_int, ok_part, ok_sl, ok_gNm, ok_gTp, ok_gsN, ok_gsC, rg1_mk, rg2_mk, ok_rng1, ok_rng2, srcK_tup, srcK_ls, ok_src, finK_next, finK_ret, List.set_cons_zero, List.set_cons_succ, List.map_cons, List.map_nil, List.replicate, List.cons_append, List.nil_append, List.length_cons, List.length_nil, Bool.false_eq_true, eq_self, if_true, if_false, Nat.zero_add, eq_int]
    exact mid f1 _ hw1 (by omega) (by omega)
  · exact mid f false hw (by omega) (by omega)
def bFree (φd : Phi) : Fn Ct :=
  fSeq (fIfS (fTest (fBin gEq (fCall φd (fCons (fVar 0) (fCons (fC (.int 2)) (fNil)))) (fC (.int 0)))) (fRet (fTup (fNil))) (fNop))
  (fRet (fCall gTuple (fCons (fVal (fLc (fRng1 (fCons (fCall gLen (fCons (fBin gIx (fVar 1) (fC (.int 1))) (fNil))) (fNil))) [2] (gNm 2) (fTest (fBin gEq (fCall φd (fCons (fVar 0) (fCons (fC (.int 4)) (fNil)))) (fC (.int 0)))) (fVar 2))) (fNil))))
def FreeC (φ : Phi) : Prop := ∀ (f : Feed) (r : Sto) (c : Cnt), f.Wf → f.calls + 100 ≤ 1000000 → c.piles.length ≤ 10 → Fl r →
  Ok (φ [.loc 0, encC c] (feedOb f :: r)) fun d s' => ∃ (ks : List Int) (f' : Feed), d = .tup (ks.map .int) ∧ (∀ k ∈ ks, 0 ≤ k ∧ k < c.piles.length) ∧ ks.length ≤ c.piles.length ∧ s' = feedOb f' :: r ∧ f'.Wf ∧ f.calls ≤ f'.calls ∧ f'.calls ≤ f.calls + 100
theorem free_spec {φd : Phi} (ht : DrawS φd) : FreeC (fDef 2 3 (bFree φd)) := by
  intro f r c hw hc hp hf
  rw [ok_def]
  refine ⟨rfl, ?_⟩
  unfold bFree
  simp only [ok_ok, kDrop_ap, kRet_ap, kSet_ap, kCons2_ap, kCons_ap, kTup_ap, kLst_ap, kVal_ap, kNew_ap, kBin2_ap, kBin_ap, kUn_ap, kCall_ap, kCallL_ap, kNotT_ap, kAndT_ap, kOrT_ap, kIf_ap, kIfS_ap, kAnd_ap, kOr_ap, kNot_ap, kMt2_ap, kMt_ap, kPut4_ap, kPut3_ap, kPut2_ap, kPut_ap, kExt2_ap, kExt_ap, kAsg2_ap, kAsg_ap, kFor_ap, kLc_ap, kSl3_ap, kSl2_ap, kSl_ap, kGs_ap, ok_seq, sq_next, sq_ret, sq_brk, sq_cont, ok_nop, ok_brk, ok_cont, ok_drop, ok_ret, ok_retN, ok_set, ok_var0, ok_varS, ok_c, ok_nil, ok_cons, ok_tup, ok_lst, ok_val, ok_new, ok_bin, ok_un, ok_call, ok_callL, ok_test, tst_bl, ok_notT, ok_andT, ok_orT, ok_if, ok_ifS, ok_and, ok_or, ok_not, ok_mt, ok_put, ok_extend, pr2_mk, ok_par2, ok_asg, ok_for, ok_lc, ok_yes, ok_noPart, prt_int, ok_part, ok_sl, ok_gNm, ok_gTp, ok_gsN, ok_gsC, rg1_mk, rg2_mk, ok_rng1, ok_rng2, srcK_tup, srcK_ls, ok_src, finK_next, finK_ret, List.set_cons_zero, List.set_cons_succ, List.map_cons, List.map_nil, List.replicate, List.cons_append, List.nil_append, List.length_cons, List.length_nil, Bool.false_eq_true, eq_self, if_true, if_false, Nat.zero_add]
  refine (ht f r 2 hw (by omega) (by omega) (by omega) hf).mono ?_
  rintro d s ⟨x, f1, rfl, hx0, hx1, rfl, hw1, hc1⟩
  simp only [ok_ok, kDrop_ap, kRet_ap, kSet_ap, kCons2_ap, kCons_ap, kTup_ap, kLst_ap, kVal_ap, kNew_ap, kBin2_ap, kBin_ap, kUn_ap, kCall_ap, kCallL_ap, kNotT_ap, kAndT_ap, kOrT_ap, kIf_ap, kIfS_ap, kAnd_ap, kOr_ap, kNot_ap, kMt2_ap, kMt_ap, kPut4_ap, kPut3_ap, kPut2_ap, kPut_ap, kExt2_ap, kExt_ap, kAsg2_ap, kAsg_ap, kFor_ap, kLc_ap, kSl3_ap, kSl2_ap, kSl_ap, kGs_ap, ok_seq, sq_next, sq_ret, sq_brk, sq_cont, ok_nop, ok_brk, ok_cont, ok_drop, ok_ret, ok_retN, ok_set, ok_var0, ok_varS, ok_c, ok_nil, ok_cons, ok_tup, ok_lst, ok_val, ok_new, ok_bin, ok_un, ok_call, ok_callL, ok_test, tst_bl, ok_notT, ok_andT, ok_orT, ok_if, ok_ifS, ok_and, ok_or, ok_not, ok_mt, ok_put, ok_extend, pr2_mk, ok_par2, ok_asg, ok_for, ok_lc, ok_yes, ok_noPart, prt_int, ok_part, ok_sl, ok_gNm, ok_gTp, ok_gsN, ok_gsC, rg1_mk, rg2_mk, ok_rng1, ok_rng2, srcK_tup, srcK_ls, ok_src, finK_next, finK_ret, List.set_cons_zero, List.set_cons_succ, List.map_cons, List.map_nil, List.replicate, List.cons_append, List.nil_append, List.length_cons, List.length_nil, Bool.false_eq_true, eq_self, if_true, if_false, Nat.zero_add, eq_int]
  split
  · refine ⟨rfl, ?_⟩
    exact fin_feed0 hf rfl ⟨[], f1, rfl, fun k hk => (List.not_mem_nil hk).elim, Nat.zero_le _, rfl, hw1, by omega, by omega⟩
  · simp only [ok_ok, kDrop_ap, kRet_ap, kSet_ap, kCons2_ap, kCons_ap, kTup_ap, kLst_ap, kVal_ap, kNew_ap, kBin2_ap, kBin_ap, kUn_ap, kCall_ap, kCallL_ap, kNotT_ap, kAndT_ap, kOrT_ap, kIf_ap, kIfS_ap, kAnd_ap, kOr_ap, kNot_ap, kMt2_ap, kMt_ap, kPut4_ap, kPut3_ap, kPut2_ap, kPut_ap, kExt2_ap, kExt_ap, kAsg2_ap, kAsg_ap, kFor_ap, kLc_ap, kSl3_ap, kSl2_ap, kSl_ap, kGs_ap, ok_seq, sq_next, sq_ret, sq_brk, sq_cont, ok_nop, ok_brk, ok_cont, ok_drop, ok_ret, ok_retN, ok_set, ok_var0, ok_varS, ok_c, ok_nil, ok_cons, ok_tup, ok_lst, ok_val, ok_new, ok_bin, ok_un, ok_call, ok_callL, ok_test, tst_bl, ok_notT, ok_andT, ok_orT, ok_if, ok_ifS, ok_and, ok_or, ok_not, ok_mt, ok_put, ok_extend, pr2_mk, ok_par2, ok_asg, ok_for, ok_lc, ok_yes, ok_noPart, prt_int, ok_part, ok_sl, ok_gNm, ok_gTp, ok_gsN, ok_gsC, rg1_mk, rg2_mk, ok_rng1, ok_rng2, srcK_tup, srcK_ls, ok_src, finK_next, finK_ret, List.set_cons_zero, List.set_cons_succ, List.map_cons, List.map_nil, List.replicate, List.cons_append, List.nil_append, List.length_cons, List.length_nil, Bool.false_eq_true, eq_self, if_true, if_false, Nat.zero_add, ixC1, len_tup]
    refine ⟨inRng_small (by omega) (by rw [List.length_map]; omega), ?_⟩
    refine ⟨decide_eq_true (by rw [rngD_len, List.length_map]; omega), ?_⟩
    refine ok_lcI (fun i acc s => ∃ (t' : Feed) (ks : List Int), acc = ks.map .int ∧ s = feedOb t' :: r ∧ (∀ k ∈ ks, 0 ≤ k ∧ k < c.piles.length) ∧ ks.length ≤ i ∧ i ≤ c.piles.length ∧ t'.Wf ∧ f.calls ≤ t'.calls ∧ t'.calls ≤ f.calls + 1 + i)
      (fun _ _ _ _ => rfl) (fun i d acc s hd h => ?_) (fun acc s h => ?_) ⟨f1, [], rfl, rfl, fun k hk => (List.not_mem_nil hk).elim, Nat.le_refl _, Nat.zero_le _, hw1, by omega, by omega⟩
    · obtain ⟨t', ks, rfl, rfl, hks, hkl, hil, hw', hc1, hc2⟩ := h
      obtain ⟨hi, rfl⟩ := rngD_get hd
      rw [List.length_map] at hi
      have hi' : i < c.piles.length := by omega
      simp only [ok_ok, kDrop_ap, kRet_ap, kSet_ap, kCons2_ap, kCons_ap, kTup_ap, kLst_ap, kVal_ap, kNew_ap, kBin2_ap, kBin_ap, kUn_ap, kCall_ap, kCallL_ap, kNotT_ap, kAndT_ap, kOrT_ap, kIf_ap, kIfS_ap, kAnd_ap, kOr_ap, kNot_ap, kMt2_ap, kMt_ap, kPut4_ap, kPut3_ap, kPut2_ap, kPut_ap, kExt2_ap, kExt_ap, kAsg2_ap, kAsg_ap, kFor_ap, kLc_ap, kSl3_ap, kSl2_ap, kSl_ap, kGs_ap, ok_seq, sq_next, sq_ret, sq_brk, sq_cont, ok_nop, ok_brk, ok_cont, ok_drop, ok_ret, ok_retN, ok_set, ok_var0, ok_varS, ok_c, ok_nil, ok_cons, ok_tup, ok_lst, ok_val, ok_new, ok_bin, ok_un, ok_call, ok_callL, ok_test, tst_bl, ok_notT, ok_andT, ok_orT, ok_if, ok_ifS, ok_and, ok_or, ok_not, ok_mt, ok_put, ok_extend, pr2_mk, ok_par2, ok_asg, ok_for, ok_lc, ok_yes, ok_noPart, prt_int, ok_part, ok_sl, ok_gNm, ok_gTp, ok_gsN, ok_gsC, rg1_mk, rg2_mk, ok_rng1, ok_rng2, srcK_tup, srcK_ls, ok_src, finK_next, finK_ret, List.set_cons_zero, List.set_cons_succ, List.map_cons, List.map_nil, List.replicate, List.cons_append, List.nil_append, List.length_cons, List.length_nil, Bool.false_eq_true, eq_self, if_true, if_false, Nat.zero_add, wipeZ]
      refine (ht t' r 4 hw' (by omega) (by omega) (by omega) hf).mono ?_
      rintro d s ⟨x, t2, rfl, hx0, hx1, rfl, hw2, hc2'⟩
      simp only [ok_ok, kDrop_ap, kRet_ap, kSet_ap, kCons2_ap, kCons_ap, kTup_ap, kLst_ap, kVal_ap, kNew_ap, kBin2_ap, kBin_ap, kUn_ap, kCall_ap, kCallL_ap, kNotT_ap, kAndT_ap, kOrT_ap, kIf_ap, kIfS_ap, kAnd_ap, kOr_ap, kNot_ap, kMt2_ap, kMt_ap, kPut4_ap, kPut3_ap, kPut2_ap, kPut_ap, kExt2_ap, kExt_ap, kAsg2_ap, kAsg_ap, kFor_ap, kLc_ap, kSl3_ap, kSl2_ap, kSl_ap, kGs_ap, ok_seq, sq_next, sq_ret, sq_brk, sq_cont, ok_nop, ok_brk, ok_cont, ok_drop, ok_ret, ok_retN, ok_set, ok_var0, ok_varS, ok_c, ok_nil, ok_cons, ok_tup, ok_lst, ok_val, ok_new, ok_bin, ok_un, ok_call, ok_callL, ok_test, tst_bl, ok_notT, ok_andT, ok_orT, ok_if, ok_ifS, ok_and, ok_or, ok_not, ok_mt, ok_put, ok_extend, pr2_mk, ok_par2, ok_asg, ok_for, ok_lc, ok_yes, ok_noPart, prt_int, ok_part, ok_sl, ok_gNm, ok_gTp, ok_gsN, ok_gsC, rg1_mk, rg2_mk, ok_rng1, ok_rng2, srcK_tup, srcK_ls, ok_src, finK_next, finK_ret, List.set_cons_zero, List.set_cons_succ, List.map_cons, List.map_nil, List.replicate, List.cons_append, List.nil_append, List.length_cons, List.length_nil, Bool.false_eq_true, eq_self, if_true, if_false, Nat.zero_add, eq_int]
      split
      · refine ⟨t2, ks ++ [(0 : Int) + (i : Int)], by simp, rfl, fun k hk => ?_, by rw [List.length_append, List.length_singleton]; omega, by omega, hw2, by omega, by push_cast; omega⟩
        rcases List.mem_append.mp hk with z | z
        · exact hks k z
        · rw [List.mem_singleton.mp z]; omega
      · exact ⟨t2, ks, rfl, rfl, hks, by omega, by omega, hw2, by omega, by push_cast; omega⟩
    · obtain ⟨t', ks, rfl, rfl, hks, hkl, hil, hw', hc1, hc2⟩ := h
      simp only [ok_ok, kDrop_ap, kRet_ap, kSet_ap, kCons2_ap, kCons_ap, kTup_ap, kLst_ap, kVal_ap, kNew_ap, kBin2_ap, kBin_ap, kUn_ap, kCall_ap, kCallL_ap, kNotT_ap, kAndT_ap, kOrT_ap, kIf_ap, kIfS_ap, kAnd_ap, kOr_ap, kNot_ap, kMt2_ap, kMt_ap, kPut4_ap, kPut3_ap, kPut2_ap, kPut_ap, kExt2_ap, kExt_ap, kAsg2_ap, kAsg_ap, kFor_ap, kLc_ap, kSl3_ap, kSl2_ap, kSl_ap, kGs_ap, ok_seq, sq_next, sq_ret, sq_brk, sq_cont, ok_nop, ok_brk, ok_cont, ok_drop, ok_ret, ok_retN, ok_set, ok_var0, ok_varS, ok_c, ok_nil, ok_cons, ok_tup, ok_lst, ok_val, ok_new, ok_bin, ok_un, ok_call, ok_callL, ok_test, tst_bl, ok_notT, ok_andT, ok_orT, ok_if, ok_ifS, ok_and, ok_or, ok_not, ok_mt, ok_put, ok_extend, pr2_mk, ok_par2, ok_asg, ok_for, ok_lc, ok_yes, ok_noPart, prt_int, ok_part, ok_sl, ok_gNm, ok_gTp, ok_gsN, ok_gsC, rg1_mk, rg2_mk, ok_rng1, ok_rng2, srcK_tup, srcK_ls, ok_src, finK_next, finK_ret, List.set_cons_zero, List.set_cons_succ, List.map_cons, List.map_nil, List.replicate, List.cons_append, List.nil_append, List.length_cons, List.length_nil, Bool.false_eq_true, eq_self, if_true, if_false, Nat.zero_add, tuple_ls]
      exact fin_feed0 hf (below_tup (belows_ints _ _)) ⟨ks, t', rfl, hks, by omega, rfl, hw', hc1, by omega⟩
end Z

/-! # The widths (37): what a pile adds -/
namespace Z
open PySem PySem.Spec L2
def minI : List Int → Int
  | [] => 0
  | n :: r => r.foldl (fun a b => if decide (a ≤ b) = true then a else b) n
theorem min_ls {zs : List Int} {s : Sto} (h : zs ≠ []) : gExt1 (fun a b => decide (a ≤ b)) [.ls (zs.map Dv.int)] s = .ok (.int (minI zs)) s := by
  cases zs with
  | nil => exact absurd rfl h
  | cons n r =>
    show (match intsOf ((n :: r).map Dv.int) with | some (n :: r) => Rs.iff true (Rs.ok (Dv.int (r.foldl (fun a b => if decide (a ≤ b) = true then a else b) n)) s) | _ => .bad) = _
    rw [ints_map]; rfl
theorem min_loc {k : Nat} {zs : List Int} {s : Sto} (h : zs ≠ []) (hk : s[k]? = some (.lst (zs.map Dv.int))) : gExt1 (fun a b => decide (a ≤ b)) [.loc k] s = .ok (.int (minI zs)) s := by
  cases zs with
  | nil => exact absurd rfl h
  | cons n r =>
    show (match (seqOf s (.loc k)).bind intsOf with | some (n :: r) => Rs.iff (isL (.loc k) s) (Rs.ok (Dv.int (r.foldl (fun a b => if decide (a ≤ b) = true then a else b) n)) s) | _ => .bad) = _
    have e : seqOf s (.loc k) = some ((n :: r).map Dv.int) := by
      show (match s[k]? with | some (.lst ds) => some ds | _ => none) = _
      rw [hk]
    rw [e]
    show (match intsOf ((n :: r).map Dv.int) with | some (n :: r) => Rs.iff (isL (.loc k) s) (Rs.ok (Dv.int (r.foldl (fun a b => if decide (a ≤ b) = true then a else b) n)) s) | _ => .bad) = _
    rw [ints_map, isL_loc hk]; rfl
theorem add_tup {a b : List Dv} {s : Sto} (h : a.length + b.length ≤ 16777216) : gAdd (.tup a) (.tup b) s = .ok (.tup (a ++ b)) s := by
  show Rs.iff _ _ = _
  rw [decide_eq_true h]; rfl
theorem app_base {s : Sto} {ds : List Dv} {d : Dv} (h : ds.length < 16777216) : gAppend (.loc s.length) [d] (s ++ [.lst ds]) = .ok .non (s ++ [.lst (ds ++ [d])]) := by rw [append_loc bs_get h, bs_set]
/-- what number laid for a adds to y's catching up with x -/
def adS (a : Str) (m : Int) (x y : Str) : Int := m * ((if (a == x) = true then 1 else 0) - (if (a == y) = true then 1 else 0))
def AddsS (φ : Phi) : Prop := ∀ (a : Str) (m : Int) (x y : Str) (s : Sto) (T : Dv → Sto → Prop), T (.int (adS a m x y)) s → Ok (φ [.str a, .int m, .str x, .str y] s) T
def bAdds : Fn Ct := fRet (fBin gMul (fVar 1) (fBin gSub (fCall gToInt (fCons (fBin gEq (fVar 0) (fVar 2)) (fNil))) (fCall gToInt (fCons (fBin gEq (fVar 0) (fVar 3)) (fNil)))))
theorem adds_spec : AddsS (fDef 4 4 bAdds) := by
  intro a m x y s T h
  rw [ok_def]
  refine ⟨rfl, ?_⟩
  unfold bAdds
  simp only [ok_ok, kDrop_ap, kRet_ap, kSet_ap, kCons2_ap, kCons_ap, kTup_ap, kLst_ap, kVal_ap, kNew_ap, kBin2_ap, kBin_ap, kUn_ap, kCall_ap, kCallL_ap, kNotT_ap, kAndT_ap, kOrT_ap, kIf_ap, kIfS_ap, kAnd_ap, kOr_ap, kNot_ap, kMt2_ap, kMt_ap, kPut4_ap, kPut3_ap, kPut2_ap, kPut_ap, kExt2_ap, kExt_ap, kAsg2_ap, kAsg_ap, kFor_ap, kLc_ap, kSl3_ap, kSl2_ap, kSl_ap, kGs_ap, ok_seq, sq_next, sq_ret, sq_brk, sq_cont, ok_nop, ok_brk, ok_cont, ok_drop, ok_ret, ok_retN, ok_set, ok_var0, ok_varS, ok_c, ok_nil, ok_cons, ok_tup, ok_lst, ok_val, ok_new, ok_bin, ok_un, ok_call, ok_callL, ok_test, tst_bl, ok_notT, ok_andT, ok_orT, ok_if, ok_ifS, ok_and, ok_or, ok_not, ok_mt, ok_put, ok_extend, pr2_mk, ok_par2, ok_asg, ok_for, ok_lc, ok_yes, ok_noPart, prt_int, ok_part, ok_sl, ok_gNm, ok_gTp, ok_gsN, ok_gsC, rg1_mk, rg2_mk, ok_rng1, ok_rng2, srcK_tup, srcK_ls, ok_src, finK_next, finK_ret, List.set_cons_zero, List.set_cons_succ, List.map_cons, List.map_nil, List.replicate, List.cons_append, List.nil_append, List.length_cons, List.length_nil, Bool.false_eq_true, eq_self, if_true, if_false, Nat.zero_add, Z.eq_str, toInt_bl, sub_int]
  have e : gMul (.int m) (.int ((if (a == x) = true then 1 else 0) - (if (a == y) = true then 1 else 0))) s = .ok (.int (adS a m x y)) s := by
    rw [mul_int]
    have q : ∀ b c : Bool, (decide (-(2 ^ 64) < ((if b = true then (1 : Int) else 0) - (if c = true then 1 else 0))) && decide (((if b = true then (1 : Int) else 0) - (if c = true then 1 else 0)) < 2 ^ 64)) = true := by decide +kernel
    rw [q, Bool.or_true]; rfl
  rw [e]
  exact fin_any (fun n => nofun) h
def bLawAdds : Fn Ct :=
  fSeq (fIfS (fTest (fBin gEq (fVar 2) (fVar 3))) (fRet (fC (.int 0))) (fNop))
  (fRet (fIf (fTest (fBin gEq (fVar 0) (fVar 2))) (fVar 1) (fIf (fTest (fBin gEq (fVar 0) (fVar 3))) (fBin gSub (fC (.int 0)) (fVar 1)) (fC (.int 0)))))
theorem lawAdds_spec : AddsS (fDef 4 4 bLawAdds) := by
  intro a m x y s T h
  rw [ok_def]
  refine ⟨rfl, ?_⟩
  unfold bLawAdds
  simp only [ok_ok, kDrop_ap, kRet_ap, kSet_ap, kCons2_ap, kCons_ap, kTup_ap, kLst_ap, kVal_ap, kNew_ap, kBin2_ap, kBin_ap, kUn_ap, kCall_ap, kCallL_ap, kNotT_ap, kAndT_ap, kOrT_ap, kIf_ap, kIfS_ap, kAnd_ap, kOr_ap, kNot_ap, kMt2_ap, kMt_ap, kPut4_ap, kPut3_ap, kPut2_ap, kPut_ap, kExt2_ap, kExt_ap, kAsg2_ap, kAsg_ap, kFor_ap, kLc_ap, kSl3_ap, kSl2_ap, kSl_ap, kGs_ap, ok_seq, sq_next, sq_ret, sq_brk, sq_cont, ok_nop, ok_brk, ok_cont, ok_drop, ok_ret, ok_retN, ok_set, ok_var0, ok_varS, ok_c, ok_nil, ok_cons, ok_tup, ok_lst, ok_val, ok_new, ok_bin, ok_un, ok_call, ok_callL, ok_test, tst_bl, ok_notT, ok_andT, ok_orT, ok_if, ok_ifS, ok_and, ok_or, ok_not, ok_mt, ok_put, ok_extend, pr2_mk, ok_par2, ok_asg, ok_for, ok_lc, ok_yes, ok_noPart, prt_int, ok_part, ok_sl, ok_gNm, ok_gTp, ok_gsN, ok_gsC, rg1_mk, rg2_mk, ok_rng1, ok_rng2, srcK_tup, srcK_ls, ok_src, finK_next, finK_ret, List.set_cons_zero, List.set_cons_succ, List.map_cons, List.map_nil, List.replicate, List.cons_append, List.nil_append, List.length_cons, List.length_nil, Bool.false_eq_true, eq_self, if_true, if_false, Nat.zero_add, Z.eq_str]
  unfold adS at h
  by_cases h1 : (x == y) = true
  · rw [h1]
    have : x = y := eq_of_beq h1
    subst this
    simp only [ok_ok, kDrop_ap, kRet_ap, kSet_ap, kCons2_ap, kCons_ap, kTup_ap, kLst_ap, kVal_ap, kNew_ap, kBin2_ap, kBin_ap, kUn_ap, kCall_ap, kCallL_ap, kNotT_ap, kAndT_ap, kOrT_ap, kIf_ap, kIfS_ap, kAnd_ap, kOr_ap, kNot_ap, kMt2_ap, kMt_ap, kPut4_ap, kPut3_ap, kPut2_ap, kPut_ap, kExt2_ap, kExt_ap, kAsg2_ap, kAsg_ap, kFor_ap, kLc_ap, kSl3_ap, kSl2_ap, kSl_ap, kGs_ap, ok_seq, sq_next, sq_ret, sq_brk, sq_cont, ok_nop, ok_brk, ok_cont, ok_drop, ok_ret, ok_retN, ok_set, ok_var0, ok_varS, ok_c, ok_nil, ok_cons, ok_tup, ok_lst, ok_val, ok_new, ok_bin, ok_un, ok_call, ok_callL, ok_test, tst_bl, ok_notT, ok_andT, ok_orT, ok_if, ok_ifS, ok_and, ok_or, ok_not, ok_mt, ok_put, ok_extend, pr2_mk, ok_par2, ok_asg, ok_for, ok_lc, ok_yes, ok_noPart, prt_int, ok_part, ok_sl, ok_gNm, ok_gTp, ok_gsN, ok_gsC, rg1_mk, rg2_mk, ok_rng1, ok_rng2, srcK_tup, srcK_ls, ok_src, finK_next, finK_ret, List.set_cons_zero, List.set_cons_succ, List.map_cons, List.map_nil, List.replicate, List.cons_append, List.nil_append, List.length_cons, List.length_nil, Bool.false_eq_true, eq_self, if_true, if_false, Nat.zero_add]
    refine fin_any (fun n => nofun) ?_
    rw [Int.sub_self, Int.mul_zero] at h
    exact h
  · rw [Bool.not_eq_true] at h1
    rw [h1]
    simp only [ok_ok, kDrop_ap, kRet_ap, kSet_ap, kCons2_ap, kCons_ap, kTup_ap, kLst_ap, kVal_ap, kNew_ap, kBin2_ap, kBin_ap, kUn_ap, kCall_ap, kCallL_ap, kNotT_ap, kAndT_ap, kOrT_ap, kIf_ap, kIfS_ap, kAnd_ap, kOr_ap, kNot_ap, kMt2_ap, kMt_ap, kPut4_ap, kPut3_ap, kPut2_ap, kPut_ap, kExt2_ap, kExt_ap, kAsg2_ap, kAsg_ap, kFor_ap, kLc_ap, kSl3_ap, kSl2_ap, kSl_ap, kGs_ap, ok_seq, sq_next, sq_ret, sq_brk, sq_cont, ok_nop, ok_brk, ok_cont, ok_drop, ok_ret, ok_retN, ok_set, ok_var0, ok_varS, ok_c, ok_nil, ok_cons, ok_tup, ok_lst, ok_val, ok_new, ok_bin, ok_un, ok_call, ok_callL, ok_test, tst_bl, ok_notT, ok_andT, ok_orT, ok_if, ok_ifS, ok_and, ok_or, ok_not, ok_mt, ok_put, ok_extend, pr2_mk, ok_par2, ok_asg, ok_for, ok_lc, ok_yes, ok_noPart, prt_int, ok_part, ok_sl, ok_gNm, ok_gTp, ok_gsN, ok_gsC, rg1_mk, rg2_mk, ok_rng1, ok_rng2, srcK_tup, srcK_ls, ok_src, finK_next, finK_ret, List.set_cons_zero, List.set_cons_succ, List.map_cons, List.map_nil, List.replicate, List.cons_append, List.nil_append, List.length_cons, List.length_nil, Bool.false_eq_true, eq_self, if_true, if_false, Nat.zero_add, Z.eq_str]
    by_cases h2 : (a == x) = true
    · have : a = x := eq_of_beq h2
      subst this
      rw [h2]
      rw [h2, h1] at h
      simp only [ok_ok, kDrop_ap, kRet_ap, kSet_ap, kCons2_ap, kCons_ap, kTup_ap, kLst_ap, kVal_ap, kNew_ap, kBin2_ap, kBin_ap, kUn_ap, kCall_ap, kCallL_ap, kNotT_ap, kAndT_ap, kOrT_ap, kIf_ap, kIfS_ap, kAnd_ap, kOr_ap, kNot_ap, kMt2_ap, kMt_ap, kPut4_ap, kPut3_ap, kPut2_ap, kPut_ap, kExt2_ap, kExt_ap, kAsg2_ap, kAsg_ap, kFor_ap, kLc_ap, kSl3_ap, kSl2_ap, kSl_ap, kGs_ap, ok_seq, sq_next, sq_ret, sq_brk, sq_cont, ok_nop, ok_brk, ok_cont, ok_drop, ok_ret, ok_retN, ok_set, ok_var0, ok_varS, ok_c, ok_nil, ok_cons, ok_tup, ok_lst, ok_val, ok_new, ok_bin, ok_un, ok_call, ok_callL, ok_test, tst_bl, ok_notT, ok_andT, ok_orT, ok_if, ok_ifS, ok_and, ok_or, ok_not, ok_mt, ok_put, ok_extend, pr2_mk, ok_par2, ok_asg, ok_for, ok_lc, ok_yes, ok_noPart, prt_int, ok_part, ok_sl, ok_gNm, ok_gTp, ok_gsN, ok_gsC, rg1_mk, rg2_mk, ok_rng1, ok_rng2, srcK_tup, srcK_ls, ok_src, finK_next, finK_ret, List.set_cons_zero, List.set_cons_succ, List.map_cons, List.map_nil, List.replicate, List.cons_append, List.nil_append, List.length_cons, List.length_nil, Bool.false_eq_true, eq_self, if_true, if_false, Nat.zero_add]
      refine fin_any (fun n => nofun) ?_
      simpa using h
    · rw [Bool.not_eq_true] at h2
      rw [h2]
      rw [h2] at h
      simp only [ok_ok, kDrop_ap, kRet_ap, kSet_ap, kCons2_ap, kCons_ap, kTup_ap, kLst_ap, kVal_ap, kNew_ap, kBin2_ap, kBin_ap, kUn_ap, kCall_ap, kCallL_ap, kNotT_ap, kAndT_ap, kOrT_ap, kIf_ap, kIfS_ap, kAnd_ap, kOr_ap, kNot_ap, kMt2_ap, kMt_ap, kPut4_ap, kPut3_ap, kPut2_ap, kPut_ap, kExt2_ap, kExt_ap, kAsg2_ap, kAsg_ap, kFor_ap, kLc_ap, kSl3_ap, kSl2_ap, kSl_ap, kGs_ap, ok_seq, sq_next, sq_ret, sq_brk, sq_cont, ok_nop, ok_brk, ok_cont, ok_drop, ok_ret, ok_retN, ok_set, ok_var0, ok_varS, ok_c, ok_nil, ok_cons, ok_tup, ok_lst, ok_val, ok_new, ok_bin, ok_un, ok_call, ok_callL, ok_test, tst_bl, ok_notT, ok_andT, ok_orT, ok_if, ok_ifS, ok_and, ok_or, ok_not, ok_mt, ok_put, ok_extend, pr2_mk, ok_par2, ok_asg, ok_for, ok_lc, ok_yes, ok_noPart, prt_int, ok_part, ok_sl, ok_gNm, ok_gTp, ok_gsN, ok_gsC, rg1_mk, rg2_mk, ok_rng1, ok_rng2, srcK_tup, srcK_ls, ok_src, finK_next, finK_ret, List.set_cons_zero, List.set_cons_succ, List.map_cons, List.map_nil, List.replicate, List.cons_append, List.nil_append, List.length_cons, List.length_nil, Bool.false_eq_true, eq_self, if_true, if_false, Nat.zero_add, Z.eq_str]
      by_cases h3 : (a == y) = true
      · rw [h3]
        rw [h3] at h
        simp only [ok_ok, kDrop_ap, kRet_ap, kSet_ap, kCons2_ap, kCons_ap, kTup_ap, kLst_ap, kVal_ap, kNew_ap, kBin2_ap, kBin_ap, kUn_ap, kCall_ap, kCallL_ap, kNotT_ap, kAndT_ap, kOrT_ap, kIf_ap, kIfS_ap, kAnd_ap, kOr_ap, kNot_ap, kMt2_ap, kMt_ap, kPut4_ap, kPut3_ap, kPut2_ap, kPut_ap, kExt2_ap, kExt_ap, kAsg2_ap, kAsg_ap, kFor_ap, kLc_ap, kSl3_ap, kSl2_ap, kSl_ap, kGs_ap, ok_seq, sq_next, sq_ret, sq_brk, sq_cont, ok_nop, ok_brk, ok_cont, ok_drop, ok_ret, ok_retN, ok_set, ok_var0, ok_varS, ok_c, ok_nil, ok_cons, ok_tup, ok_lst, ok_val, ok_new, ok_bin, ok_un, ok_call, ok_callL, ok_test, tst_bl, ok_notT, ok_andT, ok_orT, ok_if, ok_ifS, ok_and, ok_or, ok_not, ok_mt, ok_put, ok_extend, pr2_mk, ok_par2, ok_asg, ok_for, ok_lc, ok_yes, ok_noPart, prt_int, ok_part, ok_sl, ok_gNm, ok_gTp, ok_gsN, ok_gsC, rg1_mk, rg2_mk, ok_rng1, ok_rng2, srcK_tup, srcK_ls, ok_src, finK_next, finK_ret, List.set_cons_zero, List.set_cons_succ, List.map_cons, List.map_nil, List.replicate, List.cons_append, List.nil_append, List.length_cons, List.length_nil, Bool.false_eq_true, eq_self, if_true, if_false, Nat.zero_add, sub_int]
        refine fin_any (fun n => nofun) ?_
        have e : m * ((if false = true then (1 : Int) else 0) - (if true = true then 1 else 0)) = 0 - m := by simp
        rw [e] at h; exact h
      · rw [Bool.not_eq_true] at h3
        rw [h3]
        rw [h3] at h
        simp only [ok_ok, kDrop_ap, kRet_ap, kSet_ap, kCons2_ap, kCons_ap, kTup_ap, kLst_ap, kVal_ap, kNew_ap, kBin2_ap, kBin_ap, kUn_ap, kCall_ap, kCallL_ap, kNotT_ap, kAndT_ap, kOrT_ap, kIf_ap, kIfS_ap, kAnd_ap, kOr_ap, kNot_ap, kMt2_ap, kMt_ap, kPut4_ap, kPut3_ap, kPut2_ap, kPut_ap, kExt2_ap, kExt_ap, kAsg2_ap, kAsg_ap, kFor_ap, kLc_ap, kSl3_ap, kSl2_ap, kSl_ap, kGs_ap, ok_seq, sq_next, sq_ret, sq_brk, sq_cont, ok_nop, ok_brk, ok_cont, ok_drop, ok_ret, ok_retN, ok_set, ok_var0, ok_varS, ok_c, ok_nil, ok_cons, ok_tup, ok_lst, ok_val, ok_new, ok_bin, ok_un, ok_call, ok_callL, ok_test, tst_bl, ok_notT, ok_andT, ok_orT, ok_if, ok_ifS, ok_and, ok_or, ok_not, ok_mt, ok_put, ok_extend, pr2_mk, ok_par2, ok_asg, ok_for, ok_lc, ok_yes, ok_noPart, prt_int, ok_part, ok_sl, ok_gNm, ok_gTp, ok_gsN, ok_gsC, rg1_mk, rg2_mk, ok_rng1, ok_rng2, srcK_tup, srcK_ls, ok_src, finK_next, finK_ret, List.set_cons_zero, List.set_cons_succ, List.map_cons, List.map_nil, List.replicate, List.cons_append, List.nil_append, List.length_cons, List.length_nil, Bool.false_eq_true, eq_self, if_true, if_false, Nat.zero_add]
        refine fin_any (fun n => nofun) ?_
        simpa using h
def bToldA (φa : Phi) : Fn Ct := fRet (fCall φa (fCons (fBin gIx (fVar 0) (fC (.int 0))) (fCons (fBin gIx (fVar 0) (fC (.int 1))) (fCons (fVar 1) (fCons (fVar 2) (fNil))))))
def ToldA (φ : Phi) : Prop := ∀ (p : Pil) (x y : Str) (s : Sto) (T : Dv → Sto → Prop), T (.int (adS p.name p.many x y)) s → Ok (φ [encP p, .str x, .str y] s) T
theorem toldA_spec {φa : Phi} (ha : AddsS φa) : ToldA (fDef 3 3 (bToldA φa)) := by
  intro p x y s T h
  rw [ok_def]
  refine ⟨rfl, ?_⟩
  unfold bToldA
  simp only [ok_ok, kDrop_ap, kRet_ap, kSet_ap, kCons2_ap, kCons_ap, kTup_ap, kLst_ap, kVal_ap, kNew_ap, kBin2_ap, kBin_ap, kUn_ap, kCall_ap, kCallL_ap, kNotT_ap, kAndT_ap, kOrT_ap, kIf_ap, kIfS_ap, kAnd_ap, kOr_ap, kNot_ap, kMt2_ap, kMt_ap, kPut4_ap, kPut3_ap, kPut2_ap, kPut_ap, kExt2_ap, kExt_ap, kAsg2_ap, kAsg_ap, kFor_ap, kLc_ap, kSl3_ap, kSl2_ap, kSl_ap, kGs_ap, ok_seq, sq_next, sq_ret, sq_brk, sq_cont, ok_nop, ok_brk, ok_cont, ok_drop, ok_ret, ok_retN, ok_set, ok_var0, ok_varS, ok_c, ok_nil, ok_cons, ok_tup, ok_lst, ok_val, ok_new, ok_bin, ok_un, ok_call, ok_callL, ok_test, tst_bl, ok_notT, ok_andT, ok_orT, ok_if, ok_ifS, ok_and, ok_or, ok_not, ok_mt, ok_put, ok_extend, pr2_mk, ok_par2, ok_asg, ok_for, ok_lc, ok_yes, ok_noPart, prt_int, ok_part, ok_sl, ok_gNm, ok_gTp, ok_gsN, ok_gsC, rg1_mk, rg2_mk, ok_rng1, ok_rng2, srcK_tup, srcK_ls, ok_src, finK_next, finK_ret, List.set_cons_zero, List.set_cons_succ, List.map_cons, List.map_nil, List.replicate, List.cons_append, List.nil_append, List.length_cons, List.length_nil, Bool.false_eq_true, eq_self, if_true, if_false, Nat.zero_add, ixP0, ixP1]
  refine ha _ _ _ _ _ _ ?_
  simp only [ok_ok, kDrop_ap, kRet_ap, kSet_ap, kCons2_ap, kCons_ap, kTup_ap, kLst_ap, kVal_ap, kNew_ap, kBin2_ap, kBin_ap, kUn_ap, kCall_ap, kCallL_ap, kNotT_ap, kAndT_ap, kOrT_ap, kIf_ap, kIfS_ap, kAnd_ap, kOr_ap, kNot_ap, kMt2_ap, kMt_ap, kPut4_ap, kPut3_ap, kPut2_ap, kPut_ap, kExt2_ap, kExt_ap, kAsg2_ap, kAsg_ap, kFor_ap, kLc_ap, kSl3_ap, kSl2_ap, kSl_ap, kGs_ap, ok_seq, sq_next, sq_ret, sq_brk, sq_cont, ok_nop, ok_brk, ok_cont, ok_drop, ok_ret, ok_retN, ok_set, ok_var0, ok_varS, ok_c, ok_nil, ok_cons, ok_tup, ok_lst, ok_val, ok_new, ok_bin, ok_un, ok_call, ok_callL, ok_test, tst_bl, ok_notT, ok_andT, ok_orT, ok_if, ok_ifS, ok_and, ok_or, ok_not, ok_mt, ok_put, ok_extend, pr2_mk, ok_par2, ok_asg, ok_for, ok_lc, ok_yes, ok_noPart, prt_int, ok_part, ok_sl, ok_gNm, ok_gTp, ok_gsN, ok_gsC, rg1_mk, rg2_mk, ok_rng1, ok_rng2, srcK_tup, srcK_ls, ok_src, finK_next, finK_ret, List.set_cons_zero, List.set_cons_succ, List.map_cons, List.map_nil, List.replicate, List.cons_append, List.nil_append, List.length_cons, List.length_nil, Bool.false_eq_true, eq_self, if_true, if_false, Nat.zero_add]
  exact fin_any (fun n => nofun) h
def loH (p : Pil) : Int := if p.many - p.slip > 0 then p.many - p.slip else 0
def duo (p : Pil) (x y o : Str) : List Int := [adS o (loH p) x y, adS o (p.many + p.slip) x y]
def duos (p : Pil) (x y : Str) (os : List Str) : List Int := os.flatMap (duo p x y)
def leastA (p : Pil) (x y : Str) : Int := minI (duos p x y (p.name :: p.others))
theorem duos_len (p : Pil) (x y : Str) (os : List Str) : (duos p x y os).length = 2 * os.length := by
  induction os with
  | nil => rfl
  | cons o r ih => rw [duos, List.flatMap_cons, List.length_append]; have : (r.flatMap (duo p x y)).length = 2 * r.length := ih; rw [this, List.length_cons]; show 2 + _ = _; omega
theorem duos_ne (p : Pil) (x y : Str) (o : Str) (os : List Str) : duos p x y (o :: os) ≠ [] := by intro z; have := duos_len p x y (o :: os); rw [z] at this; simp at this
theorem duos_app (p : Pil) (x y : Str) (os : List Str) (o : Str) : (duos p x y (os ++ [o])).map Dv.int = ((duos p x y os).map .int ++ [.int (adS o (loH p) x y)]) ++ [.int (adS o (p.many + p.slip) x y)] := by
  rw [duos, List.flatMap_append, List.map_append]; simp [duos, duo]
theorem own_tup {p : Pil} {s : Sto} (h : p.others.length ≤ 1000) : gAdd (.tup [.str p.name]) (encS p.others) s = .ok (.tup ((p.name :: p.others).map .str)) s := by
  show gAdd (.tup [.str p.name]) (.tup (p.others.map .str)) s = _
  rw [add_tup (by rw [List.length_map]; show 1 + _ ≤ _; omega)]; rfl
def bLeastA (φa : Phi) : Fn Ct :=
  fSeq (fAsg (fVar 0) (gTp 4 (gsCons (gNm 3) (gsCons (gNm 4) (gsCons (gNm 5) (gsCons (gNm 6) (gsNil)))))))
  (fSeq (fSet 7 (fNew (fLst (fNil))))
  (fSeq (fFor (fSrc (fBin gAdd (fTup (fCons (fVar 3) (fNil))) (fVar 6))) (gNm 8) (fSeq (fDrop (fMt isL gAppend (fVar 7) (fCons (fCall φa (fCons (fVar 8) (fCons (fCall (gTwo fun i j => if j > i then j else i) (fCons (fC (.int 0)) (fCons (fBin gSub (fVar 4) (fVar 5)) (fNil)))) (fCons (fVar 1) (fCons (fVar 2) (fNil)))))) (fNil))))
  (fDrop (fMt isL gAppend (fVar 7) (fCons (fCall φa (fCons (fVar 8) (fCons (fBin gAdd (fVar 4) (fVar 5)) (fCons (fVar 1) (fCons (fVar 2) (fNil)))))) (fNil))))))
  (fRet (fCall (gExt1 fun a b => decide (a ≤ b)) (fCons (fVar 7) (fNil))))))
def LeastA (φ : Phi) : Prop := ∀ (p : Pil) (x y : Str) (s : Sto) (T : Dv → Sto → Prop), p.others.length ≤ 1000 → Fl s → T (.int (leastA p x y)) s → Ok (φ [encP p, .str x, .str y] s) T
theorem leastA_spec {φa : Phi} (ha : AddsS φa) : LeastA (fDef 3 9 (bLeastA φa)) := by
  intro p x y s T ho hf h
  rw [ok_def]
  refine ⟨rfl, ?_⟩
  unfold bLeastA
  simp only [ok_ok, kDrop_ap, kRet_ap, kSet_ap, kCons2_ap, kCons_ap, kTup_ap, kLst_ap, kVal_ap, kNew_ap, kBin2_ap, kBin_ap, kUn_ap, kCall_ap, kCallL_ap, kNotT_ap, kAndT_ap, kOrT_ap, kIf_ap, kIfS_ap, kAnd_ap, kOr_ap, kNot_ap, kMt2_ap, kMt_ap, kPut4_ap, kPut3_ap, kPut2_ap, kPut_ap, kExt2_ap, kExt_ap, kAsg2_ap, kAsg_ap, kFor_ap, kLc_ap, kSl3_ap, kSl2_ap, kSl_ap, kGs_ap, ok_seq, sq_next, sq_ret, sq_brk, sq_cont, ok_nop, ok_brk, ok_cont, ok_drop, ok_ret, ok_retN, ok_set, ok_var0, ok_varS, ok_c, ok_nil, ok_cons, ok_tup, ok_lst, ok_val, ok_new, ok_bin, ok_un, ok_call, ok_callL, ok_test, tst_bl, ok_notT, ok_andT, ok_orT, ok_if, ok_ifS, ok_and, ok_or, ok_not, ok_mt, ok_put, ok_extend, pr2_mk, ok_par2, ok_asg, ok_for, ok_lc, ok_yes, ok_noPart, prt_int, ok_part, ok_sl, ok_gNm, ok_gTp, ok_gsN, ok_gsC, rg1_mk, rg2_mk, ok_rng1, ok_rng2, srcK_tup, srcK_ls, ok_src, finK_next, finK_ret, List.set_cons_zero, List.set_cons_succ, List.map_cons, List.map_nil, List.replicate, List.cons_append, List.nil_append, List.length_cons, List.length_nil, Bool.false_eq_true, eq_self, if_true, if_false, Nat.zero_add, gTp_P]
  refine ⟨rfl, rfl, ?_⟩
  obtain ⟨os, hos⟩ : ∃ os, os = p.name :: p.others := ⟨_, rfl⟩
  have hi2 : os.length = p.others.length + 1 := by rw [hos]; rfl
  have hne : duos p x y os ≠ [] := by rw [hos]; exact duos_ne p x y _ _
  unfold leastA at h
  rw [← hos] at h
  rw [own_tup ho, ← hos]
  simp only [ok_ok, kDrop_ap, kRet_ap, kSet_ap, kCons2_ap, kCons_ap, kTup_ap, kLst_ap, kVal_ap, kNew_ap, kBin2_ap, kBin_ap, kUn_ap, kCall_ap, kCallL_ap, kNotT_ap, kAndT_ap, kOrT_ap, kIf_ap, kIfS_ap, kAnd_ap, kOr_ap, kNot_ap, kMt2_ap, kMt_ap, kPut4_ap, kPut3_ap, kPut2_ap, kPut_ap, kExt2_ap, kExt_ap, kAsg2_ap, kAsg_ap, kFor_ap, kLc_ap, kSl3_ap, kSl2_ap, kSl_ap, kGs_ap, ok_seq, sq_next, sq_ret, sq_brk, sq_cont, ok_nop, ok_brk, ok_cont, ok_drop, ok_ret, ok_retN, ok_set, ok_var0, ok_varS, ok_c, ok_nil, ok_cons, ok_tup, ok_lst, ok_val, ok_new, ok_bin, ok_un, ok_call, ok_callL, ok_test, tst_bl, ok_notT, ok_andT, ok_orT, ok_if, ok_ifS, ok_and, ok_or, ok_not, ok_mt, ok_put, ok_extend, pr2_mk, ok_par2, ok_asg, ok_for, ok_lc, ok_yes, ok_noPart, prt_int, ok_part, ok_sl, ok_gNm, ok_gTp, ok_gsN, ok_gsC, rg1_mk, rg2_mk, ok_rng1, ok_rng2, srcK_tup, srcK_ls, ok_src, finK_next, finK_ret, List.set_cons_zero, List.set_cons_succ, List.map_cons, List.map_nil, List.replicate, List.cons_append, List.nil_append, List.length_cons, List.length_nil, Bool.false_eq_true, eq_self, if_true, if_false, Nat.zero_add]
  refine ok_loop (fun i env s' => ∃ v8 : Option Dv, env = [some (encP p), some (.str x), some (.str y), some (.str p.name), some (.int p.many), some (.int p.slip), some (encS p.others), some (.loc s.length), v8] ∧ s' = s ++ [.lst ((duos p x y (os.take i)).map .int)])
    (fun _ _ _ _ => rfl) (fun i d env s' hd h => ?_) (fun env s' h' => ?_) ⟨_, rfl, rfl⟩
  · obtain ⟨v8, rfl, rfl⟩ := h
    have hi : i < os.length := by have := (List.getElem?_eq_some_iff.mp hd).1; rwa [List.length_map] at this
    rw [List.getElem?_map, List.getElem?_eq_getElem hi] at hd
    cases hd
    have hl := duos_len p x y (os.take i)
    rw [List.length_take] at hl
    simp only [ok_ok, kDrop_ap, kRet_ap, kSet_ap, kCons2_ap, kCons_ap, kTup_ap, kLst_ap, kVal_ap, kNew_ap, kBin2_ap, kBin_ap, kUn_ap, kCall_ap, kCallL_ap, kNotT_ap, kAndT_ap, kOrT_ap, kIf_ap, kIfS_ap, kAnd_ap, kOr_ap, kNot_ap, kMt2_ap, kMt_ap, kPut4_ap, kPut3_ap, kPut2_ap, kPut_ap, kExt2_ap, kExt_ap, kAsg2_ap, kAsg_ap, kFor_ap, kLc_ap, kSl3_ap, kSl2_ap, kSl_ap, kGs_ap, ok_seq, sq_next, sq_ret, sq_brk, sq_cont, ok_nop, ok_brk, ok_cont, ok_drop, ok_ret, ok_retN, ok_set, ok_var0, ok_varS, ok_c, ok_nil, ok_cons, ok_tup, ok_lst, ok_val, ok_new, ok_bin, ok_un, ok_call, ok_callL, ok_test, tst_bl, ok_notT, ok_andT, ok_orT, ok_if, ok_ifS, ok_and, ok_or, ok_not, ok_mt, ok_put, ok_extend, pr2_mk, ok_par2, ok_asg, ok_for, ok_lc, ok_yes, ok_noPart, prt_int, ok_part, ok_sl, ok_gNm, ok_gTp, ok_gsN, ok_gsC, rg1_mk, rg2_mk, ok_rng1, ok_rng2, srcK_tup, srcK_ls, ok_src, finK_next, finK_ret, List.set_cons_zero, List.set_cons_succ, List.map_cons, List.map_nil, List.replicate, List.cons_append, List.nil_append, List.length_cons, List.length_nil, Bool.false_eq_true, eq_self, if_true, if_false, Nat.zero_add, sub_int, two_ok]
    refine ⟨isL_loc bs_get, ?_⟩
    refine ha _ _ _ _ _ _ ?_
    simp only [ok_ok, kDrop_ap, kRet_ap, kSet_ap, kCons2_ap, kCons_ap, kTup_ap, kLst_ap, kVal_ap, kNew_ap, kBin2_ap, kBin_ap, kUn_ap, kCall_ap, kCallL_ap, kNotT_ap, kAndT_ap, kOrT_ap, kIf_ap, kIfS_ap, kAnd_ap, kOr_ap, kNot_ap, kMt2_ap, kMt_ap, kPut4_ap, kPut3_ap, kPut2_ap, kPut_ap, kExt2_ap, kExt_ap, kAsg2_ap, kAsg_ap, kFor_ap, kLc_ap, kSl3_ap, kSl2_ap, kSl_ap, kGs_ap, ok_seq, sq_next, sq_ret, sq_brk, sq_cont, ok_nop, ok_brk, ok_cont, ok_drop, ok_ret, ok_retN, ok_set, ok_var0, ok_varS, ok_c, ok_nil, ok_cons, ok_tup, ok_lst, ok_val, ok_new, ok_bin, ok_un, ok_call, ok_callL, ok_test, tst_bl, ok_notT, ok_andT, ok_orT, ok_if, ok_ifS, ok_and, ok_or, ok_not, ok_mt, ok_put, ok_extend, pr2_mk, ok_par2, ok_asg, ok_for, ok_lc, ok_yes, ok_noPart, prt_int, ok_part, ok_sl, ok_gNm, ok_gTp, ok_gsN, ok_gsC, rg1_mk, rg2_mk, ok_rng1, ok_rng2, srcK_tup, srcK_ls, ok_src, finK_next, finK_ret, List.set_cons_zero, List.set_cons_succ, List.map_cons, List.map_nil, List.replicate, List.cons_append, List.nil_append, List.length_cons, List.length_nil, Bool.false_eq_true, eq_self, if_true, if_false, Nat.zero_add]
    rw [app_base (by rw [List.length_map]; omega)]
    simp only [ok_ok, kDrop_ap, kRet_ap, kSet_ap, kCons2_ap, kCons_ap, kTup_ap, kLst_ap, kVal_ap, kNew_ap, kBin2_ap, kBin_ap, kUn_ap, kCall_ap, kCallL_ap, kNotT_ap, kAndT_ap, kOrT_ap, kIf_ap, kIfS_ap, kAnd_ap, kOr_ap, kNot_ap, kMt2_ap, kMt_ap, kPut4_ap, kPut3_ap, kPut2_ap, kPut_ap, kExt2_ap, kExt_ap, kAsg2_ap, kAsg_ap, kFor_ap, kLc_ap, kSl3_ap, kSl2_ap, kSl_ap, kGs_ap, ok_seq, sq_next, sq_ret, sq_brk, sq_cont, ok_nop, ok_brk, ok_cont, ok_drop, ok_ret, ok_retN, ok_set, ok_var0, ok_varS, ok_c, ok_nil, ok_cons, ok_tup, ok_lst, ok_val, ok_new, ok_bin, ok_un, ok_call, ok_callL, ok_test, tst_bl, ok_notT, ok_andT, ok_orT, ok_if, ok_ifS, ok_and, ok_or, ok_not, ok_mt, ok_put, ok_extend, pr2_mk, ok_par2, ok_asg, ok_for, ok_lc, ok_yes, ok_noPart, prt_int, ok_part, ok_sl, ok_gNm, ok_gTp, ok_gsN, ok_gsC, rg1_mk, rg2_mk, ok_rng1, ok_rng2, srcK_tup, srcK_ls, ok_src, finK_next, finK_ret, List.set_cons_zero, List.set_cons_succ, List.map_cons, List.map_nil, List.replicate, List.cons_append, List.nil_append, List.length_cons, List.length_nil, Bool.false_eq_true, eq_self, if_true, if_false, Nat.zero_add, Z.add_int]
    refine ⟨isL_loc bs_get, ?_⟩
    refine ha _ _ _ _ _ _ ?_
    simp only [ok_ok, kDrop_ap, kRet_ap, kSet_ap, kCons2_ap, kCons_ap, kTup_ap, kLst_ap, kVal_ap, kNew_ap, kBin2_ap, kBin_ap, kUn_ap, kCall_ap, kCallL_ap, kNotT_ap, kAndT_ap, kOrT_ap, kIf_ap, kIfS_ap, kAnd_ap, kOr_ap, kNot_ap, kMt2_ap, kMt_ap, kPut4_ap, kPut3_ap, kPut2_ap, kPut_ap, kExt2_ap, kExt_ap, kAsg2_ap, kAsg_ap, kFor_ap, kLc_ap, kSl3_ap, kSl2_ap, kSl_ap, kGs_ap, ok_seq, sq_next, sq_ret, sq_brk, sq_cont, ok_nop, ok_brk, ok_cont, ok_drop, ok_ret, ok_retN, ok_set, ok_var0, ok_varS, ok_c, ok_nil, ok_cons, ok_tup, ok_lst, ok_val, ok_new, ok_bin, ok_un, ok_call, ok_callL, ok_test, tst_bl, ok_notT, ok_andT, ok_orT, ok_if, ok_ifS, ok_and, ok_or, ok_not, ok_mt, ok_put, ok_extend, pr2_mk, ok_par2, ok_asg, ok_for, ok_lc, ok_yes, ok_noPart, prt_int, ok_part, ok_sl, ok_gNm, ok_gTp, ok_gsN, ok_gsC, rg1_mk, rg2_mk, ok_rng1, ok_rng2, srcK_tup, srcK_ls, ok_src, finK_next, finK_ret, List.set_cons_zero, List.set_cons_succ, List.map_cons, List.map_nil, List.replicate, List.cons_append, List.nil_append, List.length_cons, List.length_nil, Bool.false_eq_true, eq_self, if_true, if_false, Nat.zero_add]
    rw [app_base (by rw [List.length_append, List.length_map, List.length_singleton]; omega)]
    simp only [ok_ok, kDrop_ap, kRet_ap, kSet_ap, kCons2_ap, kCons_ap, kTup_ap, kLst_ap, kVal_ap, kNew_ap, kBin2_ap, kBin_ap, kUn_ap, kCall_ap, kCallL_ap, kNotT_ap, kAndT_ap, kOrT_ap, kIf_ap, kIfS_ap, kAnd_ap, kOr_ap, kNot_ap, kMt2_ap, kMt_ap, kPut4_ap, kPut3_ap, kPut2_ap, kPut_ap, kExt2_ap, kExt_ap, kAsg2_ap, kAsg_ap, kFor_ap, kLc_ap, kSl3_ap, kSl2_ap, kSl_ap, kGs_ap, ok_seq, sq_next, sq_ret, sq_brk, sq_cont, ok_nop, ok_brk, ok_cont, ok_drop, ok_ret, ok_retN, ok_set, ok_var0, ok_varS, ok_c, ok_nil, ok_cons, ok_tup, ok_lst, ok_val, ok_new, ok_bin, ok_un, ok_call, ok_callL, ok_test, tst_bl, ok_notT, ok_andT, ok_orT, ok_if, ok_ifS, ok_and, ok_or, ok_not, ok_mt, ok_put, ok_extend, pr2_mk, ok_par2, ok_asg, ok_for, ok_lc, ok_yes, ok_noPart, prt_int, ok_part, ok_sl, ok_gNm, ok_gTp, ok_gsN, ok_gsC, rg1_mk, rg2_mk, ok_rng1, ok_rng2, srcK_tup, srcK_ls, ok_src, finK_next, finK_ret, List.set_cons_zero, List.set_cons_succ, List.map_cons, List.map_nil, List.replicate, List.cons_append, List.nil_append, List.length_cons, List.length_nil, Bool.false_eq_true, eq_self, if_true, if_false, Nat.zero_add]
    refine ⟨_, rfl, ?_⟩
    rw [take_succ' (List.getElem?_eq_getElem hi), duos_app]; rfl
  · obtain ⟨v8, rfl, rfl⟩ := h'
    rw [List.length_map, List.take_length]
    simp only [ok_ok, kDrop_ap, kRet_ap, kSet_ap, kCons2_ap, kCons_ap, kTup_ap, kLst_ap, kVal_ap, kNew_ap, kBin2_ap, kBin_ap, kUn_ap, kCall_ap, kCallL_ap, kNotT_ap, kAndT_ap, kOrT_ap, kIf_ap, kIfS_ap, kAnd_ap, kOr_ap, kNot_ap, kMt2_ap, kMt_ap, kPut4_ap, kPut3_ap, kPut2_ap, kPut_ap, kExt2_ap, kExt_ap, kAsg2_ap, kAsg_ap, kFor_ap, kLc_ap, kSl3_ap, kSl2_ap, kSl_ap, kGs_ap, ok_seq, sq_next, sq_ret, sq_brk, sq_cont, ok_nop, ok_brk, ok_cont, ok_drop, ok_ret, ok_retN, ok_set, ok_var0, ok_varS, ok_c, ok_nil, ok_cons, ok_tup, ok_lst, ok_val, ok_new, ok_bin, ok_un, ok_call, ok_callL, ok_test, tst_bl, ok_notT, ok_andT, ok_orT, ok_if, ok_ifS, ok_and, ok_or, ok_not, ok_mt, ok_put, ok_extend, pr2_mk, ok_par2, ok_asg, ok_for, ok_lc, ok_yes, ok_noPart, prt_int, ok_part, ok_sl, ok_gNm, ok_gTp, ok_gsN, ok_gsC, rg1_mk, rg2_mk, ok_rng1, ok_rng2, srcK_tup, srcK_ls, ok_src, finK_next, finK_ret, List.set_cons_zero, List.set_cons_succ, List.map_cons, List.map_nil, List.replicate, List.cons_append, List.nil_append, List.length_cons, List.length_nil, Bool.false_eq_true, eq_self, if_true, if_false, Nat.zero_add, min_loc hne bs_get]
    exact fin_base hf rfl h
def bWide (φt φl : Phi) : Fn Ct := fRet (fBin gSub (fCall φt (fCons (fVar 0) (fCons (fVar 1) (fCons (fVar 2) (fNil))))) (fCall φl (fCons (fVar 0) (fCons (fVar 1) (fCons (fVar 2) (fNil))))))
def wideA (x y : Str) (p : Pil) : Int := adS p.name p.many x y - leastA p x y
def WideA (φ : Phi) : Prop := ∀ (p : Pil) (x y : Str) (s : Sto) (T : Dv → Sto → Prop), p.others.length ≤ 1000 → Fl s → T (.int (wideA x y p)) s → Ok (φ [encP p, .str x, .str y] s) T
theorem wide_spec {φt φl : Phi} (ht : ToldA φt) (hl : LeastA φl) : WideA (fDef 3 3 (bWide φt φl)) := by
  intro p x y s T ho hf h
  rw [ok_def]
  refine ⟨rfl, ?_⟩
  unfold bWide
  simp only [ok_ok, kDrop_ap, kRet_ap, kSet_ap, kCons2_ap, kCons_ap, kTup_ap, kLst_ap, kVal_ap, kNew_ap, kBin2_ap, kBin_ap, kUn_ap, kCall_ap, kCallL_ap, kNotT_ap, kAndT_ap, kOrT_ap, kIf_ap, kIfS_ap, kAnd_ap, kOr_ap, kNot_ap, kMt2_ap, kMt_ap, kPut4_ap, kPut3_ap, kPut2_ap, kPut_ap, kExt2_ap, kExt_ap, kAsg2_ap, kAsg_ap, kFor_ap, kLc_ap, kSl3_ap, kSl2_ap, kSl_ap, kGs_ap, ok_seq, sq_next, sq_ret, sq_brk, sq_cont, ok_nop, ok_brk, ok_cont, ok_drop, ok_ret, ok_retN, ok_set, ok_var0, ok_varS, ok_c, ok_nil, ok_cons, ok_tup, ok_lst, ok_val, ok_new, ok_bin, ok_un, ok_call, ok_callL, ok_test, tst_bl, ok_notT, ok_andT, ok_orT, ok_if, ok_ifS, ok_and, ok_or, ok_not, ok_mt, ok_put, ok_extend, pr2_mk, ok_par2, ok_asg, ok_for, ok_lc, ok_yes, ok_noPart, prt_int, ok_part, ok_sl, ok_gNm, ok_gTp, ok_gsN, ok_gsC, rg1_mk, rg2_mk, ok_rng1, ok_rng2, srcK_tup, srcK_ls, ok_src, finK_next, finK_ret, List.set_cons_zero, List.set_cons_succ, List.map_cons, List.map_nil, List.replicate, List.cons_append, List.nil_append, List.length_cons, List.length_nil, Bool.false_eq_true, eq_self, if_true, if_false, Nat.zero_add]
  refine ht _ _ _ _ _ ?_
  simp only [ok_ok, kDrop_ap, kRet_ap, kSet_ap, kCons2_ap, kCons_ap, kTup_ap, kLst_ap, kVal_ap, kNew_ap, kBin2_ap, kBin_ap, kUn_ap, kCall_ap, kCallL_ap, kNotT_ap, kAndT_ap, kOrT_ap, kIf_ap, kIfS_ap, kAnd_ap, kOr_ap, kNot_ap, kMt2_ap, kMt_ap, kPut4_ap, kPut3_ap, kPut2_ap, kPut_ap, kExt2_ap, kExt_ap, kAsg2_ap, kAsg_ap, kFor_ap, kLc_ap, kSl3_ap, kSl2_ap, kSl_ap, kGs_ap, ok_seq, sq_next, sq_ret, sq_brk, sq_cont, ok_nop, ok_brk, ok_cont, ok_drop, ok_ret, ok_retN, ok_set, ok_var0, ok_varS, ok_c, ok_nil, ok_cons, ok_tup, ok_lst, ok_val, ok_new, ok_bin, ok_un, ok_call, ok_callL, ok_test, tst_bl, ok_notT, ok_andT, ok_orT, ok_if, ok_ifS, ok_and, ok_or, ok_not, ok_mt, ok_put, ok_extend, pr2_mk, ok_par2, ok_asg, ok_for, ok_lc, ok_yes, ok_noPart, prt_int, ok_part, ok_sl, ok_gNm, ok_gTp, ok_gsN, ok_gsC, rg1_mk, rg2_mk, ok_rng1, ok_rng2, srcK_tup, srcK_ls, ok_src, finK_next, finK_ret, List.set_cons_zero, List.set_cons_succ, List.map_cons, List.map_nil, List.replicate, List.cons_append, List.nil_append, List.length_cons, List.length_nil, Bool.false_eq_true, eq_self, if_true, if_false, Nat.zero_add]
  refine hl _ _ _ _ _ ho hf ?_
  simp only [ok_ok, kDrop_ap, kRet_ap, kSet_ap, kCons2_ap, kCons_ap, kTup_ap, kLst_ap, kVal_ap, kNew_ap, kBin2_ap, kBin_ap, kUn_ap, kCall_ap, kCallL_ap, kNotT_ap, kAndT_ap, kOrT_ap, kIf_ap, kIfS_ap, kAnd_ap, kOr_ap, kNot_ap, kMt2_ap, kMt_ap, kPut4_ap, kPut3_ap, kPut2_ap, kPut_ap, kExt2_ap, kExt_ap, kAsg2_ap, kAsg_ap, kFor_ap, kLc_ap, kSl3_ap, kSl2_ap, kSl_ap, kGs_ap, ok_seq, sq_next, sq_ret, sq_brk, sq_cont, ok_nop, ok_brk, ok_cont, ok_drop, ok_ret, ok_retN, ok_set, ok_var0, ok_varS, ok_c, ok_nil, ok_cons, ok_tup, ok_lst, ok_val, ok_new, ok_bin, ok_un, ok_call, ok_callL, ok_test, tst_bl, ok_notT, ok_andT, ok_orT, ok_if, ok_ifS, ok_and, ok_or, ok_not, ok_mt, ok_put, ok_extend, pr2_mk, ok_par2, ok_asg, ok_for, ok_lc, ok_yes, ok_noPart, prt_int, ok_part, ok_sl, ok_gNm, ok_gTp, ok_gsN, ok_gsC, rg1_mk, rg2_mk, ok_rng1, ok_rng2, srcK_tup, srcK_ls, ok_src, finK_next, finK_ret, List.set_cons_zero, List.set_cons_succ, List.map_cons, List.map_nil, List.replicate, List.cons_append, List.nil_append, List.length_cons, List.length_nil, Bool.false_eq_true, eq_self, if_true, if_false, Nat.zero_add, sub_int]
  exact fin_any (fun n => nofun) h
end Z

/-! # The widths (37): asks, widths, the law's widths -/
namespace Z
open PySem PySem.Spec L2
theorem ext_base {s : Sto} {ds es : List Dv} (h : ds.length + es.length ≤ 16777216) : gExtend (.loc s.length) [.ls es] (s ++ [.lst ds]) = .ok .non (s ++ [.lst (ds ++ es)]) := by rw [extend_loc bs_get h, bs_set]
theorem app_base2 {s l : Sto} {ds : List Dv} {d : Dv} (h : ds.length < 16777216) : gAppend (.loc s.length) [d] ((s ++ .lst ds :: l)) = .ok .non (s ++ .lst (ds ++ [d]) :: l) := by rw [append_loc bs_get h, bs_set]
def bAskN : Fn Ct := fIfS (fTest (fBin gNotIn (fVar 1) (fBin gIx (fVar 0) (fC (.int 0))))) (fNever) (fNop)
def AskN (φ : Phi) : Prop := ∀ (c : Cnt) (x : Str) (s : Sto) (T : Dv → Sto → Prop), x ∈ c.lots → T .non s → Ok (φ [encC c, .str x] s) T
theorem askN_spec : AskN (fDef 2 2 bAskN) := by
  intro c x s T hx h
  rw [ok_def]
  refine ⟨rfl, ?_⟩
  unfold bAskN
  simp only [ok_ok, kDrop_ap, kRet_ap, kSet_ap, kCons2_ap, kCons_ap, kTup_ap, kLst_ap, kVal_ap, kNew_ap, kBin2_ap, kBin_ap, kUn_ap, kCall_ap, kCallL_ap, kNotT_ap, kAndT_ap, kOrT_ap, kIf_ap, kIfS_ap, kAnd_ap, kOr_ap, kNot_ap, kMt2_ap, kMt_ap, kPut4_ap, kPut3_ap, kPut2_ap, kPut_ap, kExt2_ap, kExt_ap, kAsg2_ap, kAsg_ap, kFor_ap, kLc_ap, kSl3_ap, kSl2_ap, kSl_ap, kGs_ap, ok_seq, sq_next, sq_ret, sq_brk, sq_cont, ok_nop, ok_brk, ok_cont, ok_drop, ok_ret, ok_retN, ok_set, ok_var0, ok_varS, ok_c, ok_nil, ok_cons, ok_tup, ok_lst, ok_val, ok_new, ok_bin, ok_un, ok_call, ok_callL, ok_test, tst_bl, ok_notT, ok_andT, ok_orT, ok_if, ok_ifS, ok_and, ok_or, ok_not, ok_mt, ok_put, ok_extend, pr2_mk, ok_par2, ok_asg, ok_for, ok_lc, ok_yes, ok_noPart, prt_int, ok_part, ok_sl, ok_gNm, ok_gTp, ok_gsN, ok_gsC, rg1_mk, rg2_mk, ok_rng1, ok_rng2, srcK_tup, srcK_ls, ok_src, finK_next, finK_ret, List.set_cons_zero, List.set_cons_succ, List.map_cons, List.map_nil, List.replicate, List.cons_append, List.nil_append, List.length_cons, List.length_nil, Bool.false_eq_true, eq_self, if_true, if_false, Nat.zero_add, ixC0, notin_strs, decide_eq_true hx, Bool.not_true]
  exact fin_any (fun n => nofun) h
def bAskP : Fn Ct := fIfS (fNotT (fTest (fChain gLe gLt (fC (.int 0)) (fVar 1) (fCall gLen (fCons (fBin gIx (fVar 0) (fC (.int 1))) (fNil)))))) (fNever) (fNop)
def AskP (φ : Phi) : Prop := ∀ (c : Cnt) (k : Int) (s : Sto) (T : Dv → Sto → Prop), 0 ≤ k → k < c.piles.length → T .non s → Ok (φ [encC c, .int k] s) T
theorem askP_spec : AskP (fDef 2 2 bAskP) := by
  intro c k s T h0 h1 h
  rw [ok_def]
  refine ⟨rfl, ?_⟩
  unfold bAskP
  have e : k < ((c.piles.map encP).length : Nat) := by rw [List.length_map]; exact h1
  simp only [ok_ok, kDrop_ap, kRet_ap, kSet_ap, kCons2_ap, kCons_ap, kTup_ap, kLst_ap, kVal_ap, kNew_ap, kBin2_ap, kBin_ap, kUn_ap, kCall_ap, kCallL_ap, kNotT_ap, kAndT_ap, kOrT_ap, kIf_ap, kIfS_ap, kAnd_ap, kOr_ap, kNot_ap, kMt2_ap, kMt_ap, kPut4_ap, kPut3_ap, kPut2_ap, kPut_ap, kExt2_ap, kExt_ap, kAsg2_ap, kAsg_ap, kFor_ap, kLc_ap, kSl3_ap, kSl2_ap, kSl_ap, kGs_ap, ok_seq, sq_next, sq_ret, sq_brk, sq_cont, ok_nop, ok_brk, ok_cont, ok_drop, ok_ret, ok_retN, ok_set, ok_var0, ok_varS, ok_c, ok_nil, ok_cons, ok_tup, ok_lst, ok_val, ok_new, ok_bin, ok_un, ok_call, ok_callL, ok_test, tst_bl, ok_notT, ok_andT, ok_orT, ok_if, ok_ifS, ok_and, ok_or, ok_not, ok_mt, ok_put, ok_extend, pr2_mk, ok_par2, ok_asg, ok_for, ok_lc, ok_yes, ok_noPart, prt_int, ok_part, ok_sl, ok_gNm, ok_gTp, ok_gsN, ok_gsC, rg1_mk, rg2_mk, ok_rng1, ok_rng2, srcK_tup, srcK_ls, ok_src, finK_next, finK_ret, List.set_cons_zero, List.set_cons_succ, List.map_cons, List.map_nil, List.replicate, List.cons_append, List.nil_append, List.length_cons, List.length_nil, Bool.false_eq_true, eq_self, if_true, if_false, Nat.zero_add, ok_chain, kChain_ap, kChain2_ap, le_int, decide_eq_true h0, kChain3_t, ixC1, len_tup, lt_int, decide_eq_true e, Bool.not_true]
  exact fin_any (fun n => nofun) h
def bWidth (φp φn φw : Phi) : Fn Ct :=
  fSeq (fDrop (fCall φp (fCons (fVar 0) (fCons (fVar 1) (fNil)))))
  (fSeq (fFor (fSrc (fTup (fCons (fVar 2) (fCons (fVar 3) (fNil))))) (gNm 4) (fDrop (fCall φn (fCons (fVar 0) (fCons (fVar 4) (fNil))))))
  (fRet (fCall φw (fCons (fBin gIx (fBin gIx (fVar 0) (fC (.int 1))) (fVar 1)) (fCons (fVar 2) (fCons (fVar 3) (fNil)))))))
def WidthA (φ : Phi) : Prop := ∀ (c : Cnt) (i : Nat) (p : Pil) (x y : Str) (s : Sto) (T : Dv → Sto → Prop), c.piles[i]? = some p → x ∈ c.lots → y ∈ c.lots → p.others.length ≤ 1000 → Fl s → T (.int (wideA x y p)) s → Ok (φ [encC c, .int (i : Nat), .str x, .str y] s) T
theorem width_spec {φp φn φw : Phi} (hp : AskP φp) (hn : AskN φn) (hw : WideA φw) : WidthA (fDef 4 5 (bWidth φp φn φw)) := by
  intro c i p x y s T hi hx hy ho hf h
  rw [ok_def]
  refine ⟨rfl, ?_⟩
  unfold bWidth
  simp only [ok_ok, kDrop_ap, kRet_ap, kSet_ap, kCons2_ap, kCons_ap, kTup_ap, kLst_ap, kVal_ap, kNew_ap, kBin2_ap, kBin_ap, kUn_ap, kCall_ap, kCallL_ap, kNotT_ap, kAndT_ap, kOrT_ap, kIf_ap, kIfS_ap, kAnd_ap, kOr_ap, kNot_ap, kMt2_ap, kMt_ap, kPut4_ap, kPut3_ap, kPut2_ap, kPut_ap, kExt2_ap, kExt_ap, kAsg2_ap, kAsg_ap, kFor_ap, kLc_ap, kSl3_ap, kSl2_ap, kSl_ap, kGs_ap, ok_seq, sq_next, sq_ret, sq_brk, sq_cont, ok_nop, ok_brk, ok_cont, ok_drop, ok_ret, ok_retN, ok_set, ok_var0, ok_varS, ok_c, ok_nil, ok_cons, ok_tup, ok_lst, ok_val, ok_new, ok_bin, ok_un, ok_call, ok_callL, ok_test, tst_bl, ok_notT, ok_andT, ok_orT, ok_if, ok_ifS, ok_and, ok_or, ok_not, ok_mt, ok_put, ok_extend, pr2_mk, ok_par2, ok_asg, ok_for, ok_lc, ok_yes, ok_noPart, prt_int, ok_part, ok_sl, ok_gNm, ok_gTp, ok_gsN, ok_gsC, rg1_mk, rg2_mk, ok_rng1, ok_rng2, srcK_tup, srcK_ls, ok_src, finK_next, finK_ret, List.set_cons_zero, List.set_cons_succ, List.map_cons, List.map_nil, List.replicate, List.cons_append, List.nil_append, List.length_cons, List.length_nil, Bool.false_eq_true, eq_self, if_true, if_false, Nat.zero_add]
  have hl : i < c.piles.length := (List.getElem?_eq_some_iff.mp hi).1
  refine hp _ _ _ _ (Int.natCast_nonneg i) (by omega) ?_
  simp only [ok_ok, kDrop_ap, kRet_ap, kSet_ap, kCons2_ap, kCons_ap, kTup_ap, kLst_ap, kVal_ap, kNew_ap, kBin2_ap, kBin_ap, kUn_ap, kCall_ap, kCallL_ap, kNotT_ap, kAndT_ap, kOrT_ap, kIf_ap, kIfS_ap, kAnd_ap, kOr_ap, kNot_ap, kMt2_ap, kMt_ap, kPut4_ap, kPut3_ap, kPut2_ap, kPut_ap, kExt2_ap, kExt_ap, kAsg2_ap, kAsg_ap, kFor_ap, kLc_ap, kSl3_ap, kSl2_ap, kSl_ap, kGs_ap, ok_seq, sq_next, sq_ret, sq_brk, sq_cont, ok_nop, ok_brk, ok_cont, ok_drop, ok_ret, ok_retN, ok_set, ok_var0, ok_varS, ok_c, ok_nil, ok_cons, ok_tup, ok_lst, ok_val, ok_new, ok_bin, ok_un, ok_call, ok_callL, ok_test, tst_bl, ok_notT, ok_andT, ok_orT, ok_if, ok_ifS, ok_and, ok_or, ok_not, ok_mt, ok_put, ok_extend, pr2_mk, ok_par2, ok_asg, ok_for, ok_lc, ok_yes, ok_noPart, prt_int, ok_part, ok_sl, ok_gNm, ok_gTp, ok_gsN, ok_gsC, rg1_mk, rg2_mk, ok_rng1, ok_rng2, srcK_tup, srcK_ls, ok_src, finK_next, finK_ret, List.set_cons_zero, List.set_cons_succ, List.map_cons, List.map_nil, List.replicate, List.cons_append, List.nil_append, List.length_cons, List.length_nil, Bool.false_eq_true, eq_self, if_true, if_false, Nat.zero_add]
  refine ⟨rfl, ?_⟩
  refine ok_loop (fun j env s' => ∃ v4 : Option Dv, env = [some (encC c), some (.int (i : Nat)), some (.str x), some (.str y), v4] ∧ s' = s)
    (fun _ _ _ _ => rfl) (fun j d env s' hd h => ?_) (fun env s' h' => ?_) ⟨_, rfl, rfl⟩
  · obtain ⟨v4, rfl, rfl⟩ := h
    have one : ∃ z, d = .str z ∧ z ∈ c.lots := by
      rcases List.mem_cons.mp (List.mem_of_getElem? hd) with q | q
      · exact ⟨_, q, hx⟩
      · exact ⟨_, List.mem_singleton.mp q, hy⟩
    obtain ⟨z, rfl, hz⟩ := one
    simp only [ok_ok, kDrop_ap, kRet_ap, kSet_ap, kCons2_ap, kCons_ap, kTup_ap, kLst_ap, kVal_ap, kNew_ap, kBin2_ap, kBin_ap, kUn_ap, kCall_ap, kCallL_ap, kNotT_ap, kAndT_ap, kOrT_ap, kIf_ap, kIfS_ap, kAnd_ap, kOr_ap, kNot_ap, kMt2_ap, kMt_ap, kPut4_ap, kPut3_ap, kPut2_ap, kPut_ap, kExt2_ap, kExt_ap, kAsg2_ap, kAsg_ap, kFor_ap, kLc_ap, kSl3_ap, kSl2_ap, kSl_ap, kGs_ap, ok_seq, sq_next, sq_ret, sq_brk, sq_cont, ok_nop, ok_brk, ok_cont, ok_drop, ok_ret, ok_retN, ok_set, ok_var0, ok_varS, ok_c, ok_nil, ok_cons, ok_tup, ok_lst, ok_val, ok_new, ok_bin, ok_un, ok_call, ok_callL, ok_test, tst_bl, ok_notT, ok_andT, ok_orT, ok_if, ok_ifS, ok_and, ok_or, ok_not, ok_mt, ok_put, ok_extend, pr2_mk, ok_par2, ok_asg, ok_for, ok_lc, ok_yes, ok_noPart, prt_int, ok_part, ok_sl, ok_gNm, ok_gTp, ok_gsN, ok_gsC, rg1_mk, rg2_mk, ok_rng1, ok_rng2, srcK_tup, srcK_ls, ok_src, finK_next, finK_ret, List.set_cons_zero, List.set_cons_succ, List.map_cons, List.map_nil, List.replicate, List.cons_append, List.nil_append, List.length_cons, List.length_nil, Bool.false_eq_true, eq_self, if_true, if_false, Nat.zero_add]
    refine hn _ _ _ _ hz ?_
    simp only [ok_ok, kDrop_ap, kRet_ap, kSet_ap, kCons2_ap, kCons_ap, kTup_ap, kLst_ap, kVal_ap, kNew_ap, kBin2_ap, kBin_ap, kUn_ap, kCall_ap, kCallL_ap, kNotT_ap, kAndT_ap, kOrT_ap, kIf_ap, kIfS_ap, kAnd_ap, kOr_ap, kNot_ap, kMt2_ap, kMt_ap, kPut4_ap, kPut3_ap, kPut2_ap, kPut_ap, kExt2_ap, kExt_ap, kAsg2_ap, kAsg_ap, kFor_ap, kLc_ap, kSl3_ap, kSl2_ap, kSl_ap, kGs_ap, ok_seq, sq_next, sq_ret, sq_brk, sq_cont, ok_nop, ok_brk, ok_cont, ok_drop, ok_ret, ok_retN, ok_set, ok_var0, ok_varS, ok_c, ok_nil, ok_cons, ok_tup, ok_lst, ok_val, ok_new, ok_bin, ok_un, ok_call, ok_callL, ok_test, tst_bl, ok_notT, ok_andT, ok_orT, ok_if, ok_ifS, ok_and, ok_or, ok_not, ok_mt, ok_put, ok_extend, pr2_mk, ok_par2, ok_asg, ok_for, ok_lc, ok_yes, ok_noPart, prt_int, ok_part, ok_sl, ok_gNm, ok_gTp, ok_gsN, ok_gsC, rg1_mk, rg2_mk, ok_rng1, ok_rng2, srcK_tup, srcK_ls, ok_src, finK_next, finK_ret, List.set_cons_zero, List.set_cons_succ, List.map_cons, List.map_nil, List.replicate, List.cons_append, List.nil_append, List.length_cons, List.length_nil, Bool.false_eq_true, eq_self, if_true, if_false, Nat.zero_add]
    exact ⟨_, rfl, by first | rfl | trivial⟩
  · obtain ⟨v4, rfl, rfl⟩ := h'
    simp only [ok_ok, kDrop_ap, kRet_ap, kSet_ap, kCons2_ap, kCons_ap, kTup_ap, kLst_ap, kVal_ap, kNew_ap, kBin2_ap, kBin_ap, kUn_ap, kCall_ap, kCallL_ap, kNotT_ap, kAndT_ap, kOrT_ap, kIf_ap, kIfS_ap, kAnd_ap, kOr_ap, kNot_ap, kMt2_ap, kMt_ap, kPut4_ap, kPut3_ap, kPut2_ap, kPut_ap, kExt2_ap, kExt_ap, kAsg2_ap, kAsg_ap, kFor_ap, kLc_ap, kSl3_ap, kSl2_ap, kSl_ap, kGs_ap, ok_seq, sq_next, sq_ret, sq_brk, sq_cont, ok_nop, ok_brk, ok_cont, ok_drop, ok_ret, ok_retN, ok_set, ok_var0, ok_varS, ok_c, ok_nil, ok_cons, ok_tup, ok_lst, ok_val, ok_new, ok_bin, ok_un, ok_call, ok_callL, ok_test, tst_bl, ok_notT, ok_andT, ok_orT, ok_if, ok_ifS, ok_and, ok_or, ok_not, ok_mt, ok_put, ok_extend, pr2_mk, ok_par2, ok_asg, ok_for, ok_lc, ok_yes, ok_noPart, prt_int, ok_part, ok_sl, ok_gNm, ok_gTp, ok_gsN, ok_gsC, rg1_mk, rg2_mk, ok_rng1, ok_rng2, srcK_tup, srcK_ls, ok_src, finK_next, finK_ret, List.set_cons_zero, List.set_cons_succ, List.map_cons, List.map_nil, List.replicate, List.cons_append, List.nil_append, List.length_cons, List.length_nil, Bool.false_eq_true, eq_self, if_true, if_false, Nat.zero_add, ixC1, ix_tupN (get_map (f := encP) hi)]
    refine hw _ _ _ _ _ ho hf ?_
    simp only [ok_ok, kDrop_ap, kRet_ap, kSet_ap, kCons2_ap, kCons_ap, kTup_ap, kLst_ap, kVal_ap, kNew_ap, kBin2_ap, kBin_ap, kUn_ap, kCall_ap, kCallL_ap, kNotT_ap, kAndT_ap, kOrT_ap, kIf_ap, kIfS_ap, kAnd_ap, kOr_ap, kNot_ap, kMt2_ap, kMt_ap, kPut4_ap, kPut3_ap, kPut2_ap, kPut_ap, kExt2_ap, kExt_ap, kAsg2_ap, kAsg_ap, kFor_ap, kLc_ap, kSl3_ap, kSl2_ap, kSl_ap, kGs_ap, ok_seq, sq_next, sq_ret, sq_brk, sq_cont, ok_nop, ok_brk, ok_cont, ok_drop, ok_ret, ok_retN, ok_set, ok_var0, ok_varS, ok_c, ok_nil, ok_cons, ok_tup, ok_lst, ok_val, ok_new, ok_bin, ok_un, ok_call, ok_callL, ok_test, tst_bl, ok_notT, ok_andT, ok_orT, ok_if, ok_ifS, ok_and, ok_or, ok_not, ok_mt, ok_put, ok_extend, pr2_mk, ok_par2, ok_asg, ok_for, ok_lc, ok_yes, ok_noPart, prt_int, ok_part, ok_sl, ok_gNm, ok_gTp, ok_gsN, ok_gsC, rg1_mk, rg2_mk, ok_rng1, ok_rng2, srcK_tup, srcK_ls, ok_src, finK_next, finK_ret, List.set_cons_zero, List.set_cons_succ, List.map_cons, List.map_nil, List.replicate, List.cons_append, List.nil_append, List.length_cons, List.length_nil, Bool.false_eq_true, eq_self, if_true, if_false, Nat.zero_add]
    exact fin_any (fun n => nofun) h
/-! ### the law's widths -/
def bLawW (φa : Phi) : Fn Ct :=
  fSeq (fSet 3 (fNew (fLst (fNil))))
  (fSeq (fFor (fSrc (fBin gIx (fVar 0) (fC (.int 1)))) (gTp 4 (gsCons (gNm 4) (gsCons (gNm 5) (gsCons (gNm 6) (gsCons (gNm 7) (gsNil)))))) (fSeq (fSet 8 (fNew (fLst (fNil))))
  (fSeq (fFor (fSrc (fBin gAdd (fTup (fCons (fVar 4) (fNil))) (fVar 7))) (gNm 9) (fDrop (fExtend (fVar 8) (fLc (fSrc (fTup (fCons (fCall (gTwo fun i j => if j > i then j else i) (fCons (fC (.int 0)) (fCons (fBin gSub (fVar 5) (fVar 6)) (fNil)))) (fCons (fBin gAdd (fVar 5) (fVar 6)) (fNil))))) [10] (gNm 10) (fYes) (fCall φa (fCons (fVar 9) (fCons (fVar 10) (fCons (fVar 1) (fCons (fVar 2) (fNil))))))))))
  (fDrop (fMt isL gAppend (fVar 3) (fCons (fBin gSub (fCall φa (fCons (fVar 4) (fCons (fVar 5) (fCons (fVar 1) (fCons (fVar 2) (fNil)))))) (fCall (gExt1 fun a b => decide (a ≤ b)) (fCons (fVar 8) (fNil)))) (fNil)))))))
  (fRet (fVar 3)))
def widthsA (c : Cnt) (x y : Str) : List Int := c.piles.map (wideA x y)
def LawW (φ : Phi) : Prop := ∀ (c : Cnt) (x y : Str) (s : Sto) (T : Dv → Sto → Prop), (∀ p ∈ c.piles, p.others.length ≤ 1000) → c.piles.length ≤ 1000 → Fl s → T (.ls ((widthsA c x y).map .int)) s → Ok (φ [encC c, .str x, .str y] s) T
theorem duos_app2 (p : Pil) (x y : Str) (os : List Str) (o : Str) : (duos p x y (os ++ [o])).map Dv.int = (duos p x y os).map .int ++ [.int (adS o (loH p) x y), .int (adS o (p.many + p.slip) x y)] := by
  rw [duos, List.flatMap_append, List.map_append]; simp [duos, duo]
theorem lawW_spec {φa : Phi} (ha : AddsS φa) : LawW (fDef 3 11 (bLawW φa)) := by
  intro c x y s T ho hpl hf h
  rw [ok_def]
  refine ⟨rfl, ?_⟩
  unfold bLawW
  simp only [ok_ok, kDrop_ap, kRet_ap, kSet_ap, kCons2_ap, kCons_ap, kTup_ap, kLst_ap, kVal_ap, kNew_ap, kBin2_ap, kBin_ap, kUn_ap, kCall_ap, kCallL_ap, kNotT_ap, kAndT_ap, kOrT_ap, kIf_ap, kIfS_ap, kAnd_ap, kOr_ap, kNot_ap, kMt2_ap, kMt_ap, kPut4_ap, kPut3_ap, kPut2_ap, kPut_ap, kExt2_ap, kExt_ap, kAsg2_ap, kAsg_ap, kFor_ap, kLc_ap, kSl3_ap, kSl2_ap, kSl_ap, kGs_ap, ok_seq, sq_next, sq_ret, sq_brk, sq_cont, ok_nop, ok_brk, ok_cont, ok_drop, ok_ret, ok_retN, ok_set, ok_var0, ok_varS, ok_c, ok_nil, ok_cons, ok_tup, ok_lst, ok_val, ok_new, ok_bin, ok_un, ok_call, ok_callL, ok_test, tst_bl, ok_notT, ok_andT, ok_orT, ok_if, ok_ifS, ok_and, ok_or, ok_not, ok_mt, ok_put, ok_extend, pr2_mk, ok_par2, ok_asg, ok_for, ok_lc, ok_yes, ok_noPart, prt_int, ok_part, ok_sl, ok_gNm, ok_gTp, ok_gsN, ok_gsC, rg1_mk, rg2_mk, ok_rng1, ok_rng2, srcK_tup, srcK_ls, ok_src, finK_next, finK_ret, List.set_cons_zero, List.set_cons_succ, List.map_cons, List.map_nil, List.replicate, List.cons_append, List.nil_append, List.length_cons, List.length_nil, Bool.false_eq_true, eq_self, if_true, if_false, Nat.zero_add, ixC1]
  refine ⟨rfl, ?_⟩
  refine ok_loop (fun i env s' => ∃ (v4 v5 v6 v7 v8 v9 v10 : Option Dv) (l : Sto), env = [some (encC c), some (.str x), some (.str y), some (.loc s.length), v4, v5, v6, v7, v8, v9, v10] ∧ s' = s ++ .lst (((c.piles.take i).map (wideA x y)).map .int) :: l)
    (fun _ _ _ _ => rfl) (fun i d env s' hd h => ?_) (fun env s' h' => ?_) ⟨_, _, _, _, _, _, _, _, rfl, rfl⟩
  · obtain ⟨v4, v5, v6, v7, v8, v9, v10, l, rfl, rfl⟩ := h
    have hi : i < c.piles.length := by have := (List.getElem?_eq_some_iff.mp hd).1; rwa [List.length_map] at this
    obtain ⟨p, hp⟩ : ∃ p, c.piles[i]? = some p := ⟨_, List.getElem?_eq_getElem hi⟩
    rw [get_map (f := encP) hp] at hd
    cases hd
    have hop := ho p (List.mem_of_getElem? hp)
    simp only [ok_ok, kDrop_ap, kRet_ap, kSet_ap, kCons2_ap, kCons_ap, kTup_ap, kLst_ap, kVal_ap, kNew_ap, kBin2_ap, kBin_ap, kUn_ap, kCall_ap, kCallL_ap, kNotT_ap, kAndT_ap, kOrT_ap, kIf_ap, kIfS_ap, kAnd_ap, kOr_ap, kNot_ap, kMt2_ap, kMt_ap, kPut4_ap, kPut3_ap, kPut2_ap, kPut_ap, kExt2_ap, kExt_ap, kAsg2_ap, kAsg_ap, kFor_ap, kLc_ap, kSl3_ap, kSl2_ap, kSl_ap, kGs_ap, ok_seq, sq_next, sq_ret, sq_brk, sq_cont, ok_nop, ok_brk, ok_cont, ok_drop, ok_ret, ok_retN, ok_set, ok_var0, ok_varS, ok_c, ok_nil, ok_cons, ok_tup, ok_lst, ok_val, ok_new, ok_bin, ok_un, ok_call, ok_callL, ok_test, tst_bl, ok_notT, ok_andT, ok_orT, ok_if, ok_ifS, ok_and, ok_or, ok_not, ok_mt, ok_put, ok_extend, pr2_mk, ok_par2, ok_asg, ok_for, ok_lc, ok_yes, ok_noPart, prt_int, ok_part, ok_sl, ok_gNm, ok_gTp, ok_gsN, ok_gsC, rg1_mk, rg2_mk, ok_rng1, ok_rng2, srcK_tup, srcK_ls, ok_src, finK_next, finK_ret, List.set_cons_zero, List.set_cons_succ, List.map_cons, List.map_nil, List.replicate, List.cons_append, List.nil_append, List.length_cons, List.length_nil, Bool.false_eq_true, eq_self, if_true, if_false, Nat.zero_add, gTp_P]
    refine ⟨rfl, rfl, ?_⟩
    obtain ⟨os, hos⟩ : ∃ os, os = p.name :: p.others := ⟨_, rfl⟩
    have hi2 : os.length = p.others.length + 1 := by rw [hos]; rfl
    have hne : duos p x y os ≠ [] := by rw [hos]; exact duos_ne p x y _ _
    have hw : wideA x y p = adS p.name p.many x y - minI (duos p x y os) := by rw [hos]; rfl
    rw [own_tup hop, ← hos]
    simp only [ok_ok, kDrop_ap, kRet_ap, kSet_ap, kCons2_ap, kCons_ap, kTup_ap, kLst_ap, kVal_ap, kNew_ap, kBin2_ap, kBin_ap, kUn_ap, kCall_ap, kCallL_ap, kNotT_ap, kAndT_ap, kOrT_ap, kIf_ap, kIfS_ap, kAnd_ap, kOr_ap, kNot_ap, kMt2_ap, kMt_ap, kPut4_ap, kPut3_ap, kPut2_ap, kPut_ap, kExt2_ap, kExt_ap, kAsg2_ap, kAsg_ap, kFor_ap, kLc_ap, kSl3_ap, kSl2_ap, kSl_ap, kGs_ap, ok_seq, sq_next, sq_ret, sq_brk, sq_cont, ok_nop, ok_brk, ok_cont, ok_drop, ok_ret, ok_retN, ok_set, ok_var0, ok_varS, ok_c, ok_nil, ok_cons, ok_tup, ok_lst, ok_val, ok_new, ok_bin, ok_un, ok_call, ok_callL, ok_test, tst_bl, ok_notT, ok_andT, ok_orT, ok_if, ok_ifS, ok_and, ok_or, ok_not, ok_mt, ok_put, ok_extend, pr2_mk, ok_par2, ok_asg, ok_for, ok_lc, ok_yes, ok_noPart, prt_int, ok_part, ok_sl, ok_gNm, ok_gTp, ok_gsN, ok_gsC, rg1_mk, rg2_mk, ok_rng1, ok_rng2, srcK_tup, srcK_ls, ok_src, finK_next, finK_ret, List.set_cons_zero, List.set_cons_succ, List.map_cons, List.map_nil, List.replicate, List.cons_append, List.nil_append, List.length_cons, List.length_nil, Bool.false_eq_true, eq_self, if_true, if_false, Nat.zero_add]
    obtain ⟨b, hb⟩ : ∃ b, b = s ++ .lst (((c.piles.take i).map (wideA x y)).map .int) :: l := ⟨_, rfl⟩
    rw [← hb]
    refine ok_loop (fun j env s' => ∃ v9 v10 : Option Dv, env = [some (encC c), some (.str x), some (.str y), some (.loc s.length), some (.str p.name), some (.int p.many), some (.int p.slip), some (encS p.others), some (.loc b.length), v9, v10] ∧ s' = b ++ [.lst ((duos p x y (os.take j)).map .int)])
      (fun _ _ _ _ => rfl) (fun j d env s' hd h => ?_) (fun env s' h' => ?_) ⟨_, _, rfl, rfl⟩
    · obtain ⟨v9, v10, rfl, rfl⟩ := h
      have hj : j < os.length := by have := (List.getElem?_eq_some_iff.mp hd).1; rwa [List.length_map] at this
      obtain ⟨o, hoj⟩ : ∃ o, os[j]? = some o := ⟨_, List.getElem?_eq_getElem hj⟩
      rw [get_map (f := Dv.str) hoj] at hd
      cases hd
      have hl := duos_len p x y (os.take j)
      rw [List.length_take] at hl
      simp only [ok_ok, kDrop_ap, kRet_ap, kSet_ap, kCons2_ap, kCons_ap, kTup_ap, kLst_ap, kVal_ap, kNew_ap, kBin2_ap, kBin_ap, kUn_ap, kCall_ap, kCallL_ap, kNotT_ap, kAndT_ap, kOrT_ap, kIf_ap, kIfS_ap, kAnd_ap, kOr_ap, kNot_ap, kMt2_ap, kMt_ap, kPut4_ap, kPut3_ap, kPut2_ap, kPut_ap, kExt2_ap, kExt_ap, kAsg2_ap, kAsg_ap, kFor_ap, kLc_ap, kSl3_ap, kSl2_ap, kSl_ap, kGs_ap, ok_seq, sq_next, sq_ret, sq_brk, sq_cont, ok_nop, ok_brk, ok_cont, ok_drop, ok_ret, ok_retN, ok_set, ok_var0, ok_varS, ok_c, ok_nil, ok_cons, ok_tup, ok_lst, ok_val, ok_new, ok_bin, ok_un, ok_call, ok_callL, ok_test, tst_bl, ok_notT, ok_andT, ok_orT, ok_if, ok_ifS, ok_and, ok_or, ok_not, ok_mt, ok_put, ok_extend, pr2_mk, ok_par2, ok_asg, ok_for, ok_lc, ok_yes, ok_noPart, prt_int, ok_part, ok_sl, ok_gNm, ok_gTp, ok_gsN, ok_gsC, rg1_mk, rg2_mk, ok_rng1, ok_rng2, srcK_tup, srcK_ls, ok_src, finK_next, finK_ret, List.set_cons_zero, List.set_cons_succ, List.map_cons, List.map_nil, List.replicate, List.cons_append, List.nil_append, List.length_cons, List.length_nil, Bool.false_eq_true, eq_self, if_true, if_false, Nat.zero_add]
      refine ⟨isL_loc bs_get, ?_⟩
      simp only [ok_ok, kDrop_ap, kRet_ap, kSet_ap, kCons2_ap, kCons_ap, kTup_ap, kLst_ap, kVal_ap, kNew_ap, kBin2_ap, kBin_ap, kUn_ap, kCall_ap, kCallL_ap, kNotT_ap, kAndT_ap, kOrT_ap, kIf_ap, kIfS_ap, kAnd_ap, kOr_ap, kNot_ap, kMt2_ap, kMt_ap, kPut4_ap, kPut3_ap, kPut2_ap, kPut_ap, kExt2_ap, kExt_ap, kAsg2_ap, kAsg_ap, kFor_ap, kLc_ap, kSl3_ap, kSl2_ap, kSl_ap, kGs_ap, ok_seq, sq_next, sq_ret, sq_brk, sq_cont, ok_nop, ok_brk, ok_cont, ok_drop, ok_ret, ok_retN, ok_set, ok_var0, ok_varS, ok_c, ok_nil, ok_cons, ok_tup, ok_lst, ok_val, ok_new, ok_bin, ok_un, ok_call, ok_callL, ok_test, tst_bl, ok_notT, ok_andT, ok_orT, ok_if, ok_ifS, ok_and, ok_or, ok_not, ok_mt, ok_put, ok_extend, pr2_mk, ok_par2, ok_asg, ok_for, ok_lc, ok_yes, ok_noPart, prt_int, ok_part, ok_sl, ok_gNm, ok_gTp, ok_gsN, ok_gsC, rg1_mk, rg2_mk, ok_rng1, ok_rng2, srcK_tup, srcK_ls, ok_src, finK_next, finK_ret, List.set_cons_zero, List.set_cons_succ, List.map_cons, List.map_nil, List.replicate, List.cons_append, List.nil_append, List.length_cons, List.length_nil, Bool.false_eq_true, eq_self, if_true, if_false, Nat.zero_add, sub_int, two_ok, Z.add_int]
      refine ⟨rfl, rfl, ?_⟩
      refine ok_map (fun _ => true) (fun d => match d with | .int n => .int (adS o n x y) | _ => .non) (fun d hd => ?_) ?_
      · have one : ∃ n, d = .int n := by
          rcases List.mem_cons.mp hd with q | q
          · exact ⟨_, q⟩
          · exact ⟨_, List.mem_singleton.mp q⟩
        obtain ⟨n, rfl⟩ := one
        simp only [ok_ok, kDrop_ap, kRet_ap, kSet_ap, kCons2_ap, kCons_ap, kTup_ap, kLst_ap, kVal_ap, kNew_ap, kBin2_ap, kBin_ap, kUn_ap, kCall_ap, kCallL_ap, kNotT_ap, kAndT_ap, kOrT_ap, kIf_ap, kIfS_ap, kAnd_ap, kOr_ap, kNot_ap, kMt2_ap, kMt_ap, kPut4_ap, kPut3_ap, kPut2_ap, kPut_ap, kExt2_ap, kExt_ap, kAsg2_ap, kAsg_ap, kFor_ap, kLc_ap, kSl3_ap, kSl2_ap, kSl_ap, kGs_ap, ok_seq, sq_next, sq_ret, sq_brk, sq_cont, ok_nop, ok_brk, ok_cont, ok_drop, ok_ret, ok_retN, ok_set, ok_var0, ok_varS, ok_c, ok_nil, ok_cons, ok_tup, ok_lst, ok_val, ok_new, ok_bin, ok_un, ok_call, ok_callL, ok_test, tst_bl, ok_notT, ok_andT, ok_orT, ok_if, ok_ifS, ok_and, ok_or, ok_not, ok_mt, ok_put, ok_extend, pr2_mk, ok_par2, ok_asg, ok_for, ok_lc, ok_yes, ok_noPart, prt_int, ok_part, ok_sl, ok_gNm, ok_gTp, ok_gsN, ok_gsC, rg1_mk, rg2_mk, ok_rng1, ok_rng2, srcK_tup, srcK_ls, ok_src, finK_next, finK_ret, List.set_cons_zero, List.set_cons_succ, List.map_cons, List.map_nil, List.replicate, List.cons_append, List.nil_append, List.length_cons, List.length_nil, Bool.false_eq_true, eq_self, if_true, if_false, Nat.zero_add, wipeZ]
        refine ⟨trivial, ?_⟩
        refine ha _ _ _ _ _ _ ?_
        exact ⟨rfl, rfl⟩
      · rw [filter_yes]
        simp only [ok_ok, kDrop_ap, kRet_ap, kSet_ap, kCons2_ap, kCons_ap, kTup_ap, kLst_ap, kVal_ap, kNew_ap, kBin2_ap, kBin_ap, kUn_ap, kCall_ap, kCallL_ap, kNotT_ap, kAndT_ap, kOrT_ap, kIf_ap, kIfS_ap, kAnd_ap, kOr_ap, kNot_ap, kMt2_ap, kMt_ap, kPut4_ap, kPut3_ap, kPut2_ap, kPut_ap, kExt2_ap, kExt_ap, kAsg2_ap, kAsg_ap, kFor_ap, kLc_ap, kSl3_ap, kSl2_ap, kSl_ap, kGs_ap, ok_seq, sq_next, sq_ret, sq_brk, sq_cont, ok_nop, ok_brk, ok_cont, ok_drop, ok_ret, ok_retN, ok_set, ok_var0, ok_varS, ok_c, ok_nil, ok_cons, ok_tup, ok_lst, ok_val, ok_new, ok_bin, ok_un, ok_call, ok_callL, ok_test, tst_bl, ok_notT, ok_andT, ok_orT, ok_if, ok_ifS, ok_and, ok_or, ok_not, ok_mt, ok_put, ok_extend, pr2_mk, ok_par2, ok_asg, ok_for, ok_lc, ok_yes, ok_noPart, prt_int, ok_part, ok_sl, ok_gNm, ok_gTp, ok_gsN, ok_gsC, rg1_mk, rg2_mk, ok_rng1, ok_rng2, srcK_tup, srcK_ls, ok_src, finK_next, finK_ret, List.set_cons_zero, List.set_cons_succ, List.map_cons, List.map_nil, List.replicate, List.cons_append, List.nil_append, List.length_cons, List.length_nil, Bool.false_eq_true, eq_self, if_true, if_false, Nat.zero_add]
        rw [ext_base (by rw [List.length_map]; show _ + 2 ≤ _; omega)]
        simp only [ok_ok, kDrop_ap, kRet_ap, kSet_ap, kCons2_ap, kCons_ap, kTup_ap, kLst_ap, kVal_ap, kNew_ap, kBin2_ap, kBin_ap, kUn_ap, kCall_ap, kCallL_ap, kNotT_ap, kAndT_ap, kOrT_ap, kIf_ap, kIfS_ap, kAnd_ap, kOr_ap, kNot_ap, kMt2_ap, kMt_ap, kPut4_ap, kPut3_ap, kPut2_ap, kPut_ap, kExt2_ap, kExt_ap, kAsg2_ap, kAsg_ap, kFor_ap, kLc_ap, kSl3_ap, kSl2_ap, kSl_ap, kGs_ap, ok_seq, sq_next, sq_ret, sq_brk, sq_cont, ok_nop, ok_brk, ok_cont, ok_drop, ok_ret, ok_retN, ok_set, ok_var0, ok_varS, ok_c, ok_nil, ok_cons, ok_tup, ok_lst, ok_val, ok_new, ok_bin, ok_un, ok_call, ok_callL, ok_test, tst_bl, ok_notT, ok_andT, ok_orT, ok_if, ok_ifS, ok_and, ok_or, ok_not, ok_mt, ok_put, ok_extend, pr2_mk, ok_par2, ok_asg, ok_for, ok_lc, ok_yes, ok_noPart, prt_int, ok_part, ok_sl, ok_gNm, ok_gTp, ok_gsN, ok_gsC, rg1_mk, rg2_mk, ok_rng1, ok_rng2, srcK_tup, srcK_ls, ok_src, finK_next, finK_ret, List.set_cons_zero, List.set_cons_succ, List.map_cons, List.map_nil, List.replicate, List.cons_append, List.nil_append, List.length_cons, List.length_nil, Bool.false_eq_true, eq_self, if_true, if_false, Nat.zero_add]
        refine ⟨_, _, rfl, ?_⟩
        rw [take_succ' hoj, duos_app2]; rfl
    · obtain ⟨v9, v10, rfl, rfl⟩ := h'
      rw [List.length_map, List.take_length]
      simp only [ok_ok, kDrop_ap, kRet_ap, kSet_ap, kCons2_ap, kCons_ap, kTup_ap, kLst_ap, kVal_ap, kNew_ap, kBin2_ap, kBin_ap, kUn_ap, kCall_ap, kCallL_ap, kNotT_ap, kAndT_ap, kOrT_ap, kIf_ap, kIfS_ap, kAnd_ap, kOr_ap, kNot_ap, kMt2_ap, kMt_ap, kPut4_ap, kPut3_ap, kPut2_ap, kPut_ap, kExt2_ap, kExt_ap, kAsg2_ap, kAsg_ap, kFor_ap, kLc_ap, kSl3_ap, kSl2_ap, kSl_ap, kGs_ap, ok_seq, sq_next, sq_ret, sq_brk, sq_cont, ok_nop, ok_brk, ok_cont, ok_drop, ok_ret, ok_retN, ok_set, ok_var0, ok_varS, ok_c, ok_nil, ok_cons, ok_tup, ok_lst, ok_val, ok_new, ok_bin, ok_un, ok_call, ok_callL, ok_test, tst_bl, ok_notT, ok_andT, ok_orT, ok_if, ok_ifS, ok_and, ok_or, ok_not, ok_mt, ok_put, ok_extend, pr2_mk, ok_par2, ok_asg, ok_for, ok_lc, ok_yes, ok_noPart, prt_int, ok_part, ok_sl, ok_gNm, ok_gTp, ok_gsN, ok_gsC, rg1_mk, rg2_mk, ok_rng1, ok_rng2, srcK_tup, srcK_ls, ok_src, finK_next, finK_ret, List.set_cons_zero, List.set_cons_succ, List.map_cons, List.map_nil, List.replicate, List.cons_append, List.nil_append, List.length_cons, List.length_nil, Bool.false_eq_true, eq_self, if_true, if_false, Nat.zero_add]
      rw [hb, List.append_assoc, List.cons_append]
      refine ⟨isL_loc bs_get, ?_⟩
      refine ha _ _ _ _ _ _ ?_
      rw [← List.cons_append, ← List.append_assoc, ← hb]
      simp only [ok_ok, kDrop_ap, kRet_ap, kSet_ap, kCons2_ap, kCons_ap, kTup_ap, kLst_ap, kVal_ap, kNew_ap, kBin2_ap, kBin_ap, kUn_ap, kCall_ap, kCallL_ap, kNotT_ap, kAndT_ap, kOrT_ap, kIf_ap, kIfS_ap, kAnd_ap, kOr_ap, kNot_ap, kMt2_ap, kMt_ap, kPut4_ap, kPut3_ap, kPut2_ap, kPut_ap, kExt2_ap, kExt_ap, kAsg2_ap, kAsg_ap, kFor_ap, kLc_ap, kSl3_ap, kSl2_ap, kSl_ap, kGs_ap, ok_seq, sq_next, sq_ret, sq_brk, sq_cont, ok_nop, ok_brk, ok_cont, ok_drop, ok_ret, ok_retN, ok_set, ok_var0, ok_varS, ok_c, ok_nil, ok_cons, ok_tup, ok_lst, ok_val, ok_new, ok_bin, ok_un, ok_call, ok_callL, ok_test, tst_bl, ok_notT, ok_andT, ok_orT, ok_if, ok_ifS, ok_and, ok_or, ok_not, ok_mt, ok_put, ok_extend, pr2_mk, ok_par2, ok_asg, ok_for, ok_lc, ok_yes, ok_noPart, prt_int, ok_part, ok_sl, ok_gNm, ok_gTp, ok_gsN, ok_gsC, rg1_mk, rg2_mk, ok_rng1, ok_rng2, srcK_tup, srcK_ls, ok_src, finK_next, finK_ret, List.set_cons_zero, List.set_cons_succ, List.map_cons, List.map_nil, List.replicate, List.cons_append, List.nil_append, List.length_cons, List.length_nil, Bool.false_eq_true, eq_self, if_true, if_false, Nat.zero_add, min_loc hne bs_get, sub_int]
      rw [hb, List.append_assoc, List.cons_append, app_base2 (by rw [List.length_map, List.length_map, List.length_take]; omega)]
      simp only [ok_ok, kDrop_ap, kRet_ap, kSet_ap, kCons2_ap, kCons_ap, kTup_ap, kLst_ap, kVal_ap, kNew_ap, kBin2_ap, kBin_ap, kUn_ap, kCall_ap, kCallL_ap, kNotT_ap, kAndT_ap, kOrT_ap, kIf_ap, kIfS_ap, kAnd_ap, kOr_ap, kNot_ap, kMt2_ap, kMt_ap, kPut4_ap, kPut3_ap, kPut2_ap, kPut_ap, kExt2_ap, kExt_ap, kAsg2_ap, kAsg_ap, kFor_ap, kLc_ap, kSl3_ap, kSl2_ap, kSl_ap, kGs_ap, ok_seq, sq_next, sq_ret, sq_brk, sq_cont, ok_nop, ok_brk, ok_cont, ok_drop, ok_ret, ok_retN, ok_set, ok_var0, ok_varS, ok_c, ok_nil, ok_cons, ok_tup, ok_lst, ok_val, ok_new, ok_bin, ok_un, ok_call, ok_callL, ok_test, tst_bl, ok_notT, ok_andT, ok_orT, ok_if, ok_ifS, ok_and, ok_or, ok_not, ok_mt, ok_put, ok_extend, pr2_mk, ok_par2, ok_asg, ok_for, ok_lc, ok_yes, ok_noPart, prt_int, ok_part, ok_sl, ok_gNm, ok_gTp, ok_gsN, ok_gsC, rg1_mk, rg2_mk, ok_rng1, ok_rng2, srcK_tup, srcK_ls, ok_src, finK_next, finK_ret, List.set_cons_zero, List.set_cons_succ, List.map_cons, List.map_nil, List.replicate, List.cons_append, List.nil_append, List.length_cons, List.length_nil, Bool.false_eq_true, eq_self, if_true, if_false, Nat.zero_add]
      refine ⟨_, _, _, _, _, _, _, l ++ [.lst ((duos p x y os).map .int)], rfl, ?_⟩
      rw [take_succ' hp, List.map_append, List.map_append, ← hw]; rfl
  · obtain ⟨v4, v5, v6, v7, v8, v9, v10, l, rfl, rfl⟩ := h'
    rw [List.length_map, List.take_length]
    simp only [ok_ok, kDrop_ap, kRet_ap, kSet_ap, kCons2_ap, kCons_ap, kTup_ap, kLst_ap, kVal_ap, kNew_ap, kBin2_ap, kBin_ap, kUn_ap, kCall_ap, kCallL_ap, kNotT_ap, kAndT_ap, kOrT_ap, kIf_ap, kIfS_ap, kAnd_ap, kOr_ap, kNot_ap, kMt2_ap, kMt_ap, kPut4_ap, kPut3_ap, kPut2_ap, kPut_ap, kExt2_ap, kExt_ap, kAsg2_ap, kAsg_ap, kFor_ap, kLc_ap, kSl3_ap, kSl2_ap, kSl_ap, kGs_ap, ok_seq, sq_next, sq_ret, sq_brk, sq_cont, ok_nop, ok_brk, ok_cont, ok_drop, ok_ret, ok_retN, ok_set, ok_var0, ok_varS, ok_c, ok_nil, ok_cons, ok_tup, ok_lst, ok_val, ok_new, ok_bin, ok_un, ok_call, ok_callL, ok_test, tst_bl, ok_notT, ok_andT, ok_orT, ok_if, ok_ifS, ok_and, ok_or, ok_not, ok_mt, ok_put, ok_extend, pr2_mk, ok_par2, ok_asg, ok_for, ok_lc, ok_yes, ok_noPart, prt_int, ok_part, ok_sl, ok_gNm, ok_gTp, ok_gsN, ok_gsC, rg1_mk, rg2_mk, ok_rng1, ok_rng2, srcK_tup, srcK_ls, ok_src, finK_next, finK_ret, List.set_cons_zero, List.set_cons_succ, List.map_cons, List.map_nil, List.replicate, List.cons_append, List.nil_append, List.length_cons, List.length_nil, Bool.false_eq_true, eq_self, if_true, if_false, Nat.zero_add]
    refine ok_gcL rfl hf bs_get (Nat.le_refl _) (belows_map (fun _ => rfl) _) ?_
    exact h
end Z

/-! # The widths (37): what is lacking -/
namespace Z
open PySem PySem.Spec L2
def idxN (xs : List Str) (z : Str) : Nat := (xs.findIdx? (· == z)).getD 0
theorem index_tupD {xs : List Str} {z : Str} {s : Sto} (h : z ∈ xs) : gIndexT (encS xs) [.str z] s = .ok (.int (idxN xs z : Nat)) s ∧ xs[idxN xs z]? = some z := by
  cases e : xs.findIdx? (· == z) with
  | none =>
    have := List.findIdx?_eq_none_iff.mp e z h
    simp at this
  | some k =>
    obtain ⟨h1, h2, _⟩ := List.findIdx?_eq_some_iff_getElem.mp e
    have ek : idxN xs z = k := by rw [idxN, e]; rfl
    rw [ek]
    refine ⟨?_, by rw [List.getElem?_eq_getElem h1, beq_iff_eq.mp h2]⟩
    show (match strsOf (xs.map .str) with | some zs => (match zs.findIdx? (· == z) with | some j => Rs.ok (Dv.int (j : Nat)) s | none => .bad) | none => .bad) = _
    rw [strsOf_map]
    show (match xs.findIdx? (· == z) with | some j => Rs.ok (Dv.int (j : Nat)) s | none => .bad) = _
    rw [e]
theorem idx_ne {xs : List Str} {x y : Str} (hx : x ∈ xs) (hy : y ∈ xs) (h : x ≠ y) : idxN xs x ≠ idxN xs y := fun e => by
  have a := (index_tupD (s := []) hx).2
  have b := (index_tupD (s := []) hy).2
  rw [e] at a
  rw [a] at b
  exact h (Option.some.inj b)
theorem ok_indexT {fo : Fn Dv} {fs : Fn (List Dv)} {env : En} {s : Sto} {T : Dv → Sto → Prop} {xs : List Str} {z : Str} (ho : fo env s = .ok (encS xs) s) (hs : fs env s = .ok [.str z] s) (hz : z ∈ xs) (h : T (.int (idxN xs z : Nat)) s) : Ok (fIndex fo fs env s) T := by
  unfold fIndex
  rw [ho]
  show Ok ((fs env s).bind fun xs' s2 => gIndexT (encS xs) xs' s2) T
  rw [hs]
  show Ok (gIndexT (encS xs) [.str z] s) T
  rw [(index_tupD hz).1]
  exact h
theorem in_ints {k : Int} {fr : List Int} {s : Sto} : gIn (.int k) (.tup (fr.map .int)) s = .ok (.bl (decide (k ∈ fr))) s := by
  have h : (fr.map Dv.int).mapM fV = some (fr.map V.int) := mapM_map (g := fV) (f := Dv.int) (h := V.int) (xs := fr) fun y _ => rfl
  show (match fV (.int k), (seqOf s (.tup (fr.map .int))).bind (·.mapM fV) with | some v, some vs => Rs.ok (Dv.bl (inV v vs)) s | _, _ => .bad) = _
  have e : (seqOf s (.tup (fr.map .int))).bind (·.mapM fV) = some (fr.map V.int) := h
  rw [e]
  show Rs.ok (Dv.bl (inV (.int k) (fr.map V.int))) s = _
  have e2 : inV (.int k) (fr.map V.int) = decide (k ∈ fr) := by
    unfold inV
    rw [List.any_map]
    rw [Bool.eq_iff_iff, List.any_eq_true, decide_eq_true_eq]
    constructor
    · rintro ⟨y, hy, e⟩
      have : y = k := by simpa [eqV] using e
      rw [← this]; exact hy
    · intro hx
      exact ⟨k, hx, by simp [eqV]⟩
  rw [e2]
def kCallD (φ : Phi) (ds : List Dv) (T : Dv → Sto → Prop) : List Dv → Sto → Prop := fun xs s => Ok (φ (xs ++ ds) s) T
theorem kCallD_ap {φ : Phi} {ds xs : List Dv} {s : Sto} {T : Dv → Sto → Prop} : kCallD φ ds T xs s = Ok (φ (xs ++ ds) s) T := rfl
theorem ok_callD {φ : Phi} {ds : List Dv} {f : Fn (List Dv)} {env : En} {s : Sto} {T : Dv → Sto → Prop} : Ok (fCallD φ ds f env s) T ↔ Ok (f env s) (kCallD φ ds T) := ok_bind
def kCallK2 (φ : Phi) (m j : Nat) (xs : List Dv) (T : Dv → Sto → Prop) : List Dv → Sto → Prop := fun zs s => (xs.length == m && zs.length == j) = true ∧ Ok (φ (xs ++ zs) s) T
def kCallK (φ : Phi) (m j : Nat) (g : Fn (List Dv)) (env : En) (T : Dv → Sto → Prop) : List Dv → Sto → Prop := fun xs s => Ok (g env s) (kCallK2 φ m j xs T)
theorem kCallK2_ap {φ : Phi} {m j : Nat} {xs zs : List Dv} {s : Sto} {T : Dv → Sto → Prop} : kCallK2 φ m j xs T zs s = ((xs.length == m && zs.length == j) = true ∧ Ok (φ (xs ++ zs) s) T) := rfl
theorem kCallK_ap {φ : Phi} {m j : Nat} {g : Fn (List Dv)} {env : En} {xs : List Dv} {s : Sto} {T : Dv → Sto → Prop} : kCallK φ m j g env T xs s = Ok (g env s) (kCallK2 φ m j xs T) := rfl
theorem ok_callK {φ : Phi} {m j : Nat} {f g : Fn (List Dv)} {env : En} {s : Sto} {T : Dv → Sto → Prop} : Ok (fCallK φ m j f g env s) T ↔ Ok (f env s) (kCallK φ m j g env T) := by
  unfold fCallK; rw [ok_bind]
  cases f env s with
  | ok xs s1 =>
    show Ok ((g env s1).bind fun zs s2 => Rs.iff (xs.length == m && zs.length == j) (φ (xs ++ zs) s2)) T ↔ Ok (g env s1) (kCallK2 φ m j xs T)
    rw [ok_bind]
    cases g env s1 with
    | ok zs s2 => exact ok_iff
    | _ => exact Iff.rfl
  | _ => exact Iff.rfl
/-! ### what the piles and the doubts add -/
def dbtA (x y : Str) (d : List Str) : Int := minI (d.map fun z => adS z 1 x y)
def dbtV (x y : Str) : Dv → Int | .str z => adS z 1 x y | _ => 0
def dbtW (x y : Str) : Dv → Dv | .tup zs => .int (minI (zs.map (dbtV x y))) | _ => .non
def termA (x y : Str) (fr : List Int) (i : Nat) (p : Pil) : Int := if decide ((i : Int) ∈ fr) = true then adS p.name p.many x y else leastA p x y
def partA (x y : Str) (fr : List Int) (ps : List Pil) : Nat → Int
  | 0 => 0
  | i + 1 => partA x y fr ps i + match ps[i]? with | some p => termA x y fr i p | none => 0
theorem part_succ {x y : Str} {fr : List Int} {ps : List Pil} {i : Nat} {p : Pil} (h : ps[i]? = some p) : partA x y fr ps (i + 1) = partA x y fr ps i + termA x y fr i p := by
  rw [partA, h]
def lackA (c : Cnt) (x y : Str) (fr : List Int) : Int :=
  let j := (if decide (idxN c.lots y < idxN c.lots x) = true then 1 else 0) - ((c.doubts.map (dbtA x y)).sum + partA x y fr c.piles c.piles.length)
  if j > 0 then j else 0
theorem ok_mins {φa : Phi} (ha : AddsS φa) {d : List Str} {x y : Str} {env : En} {s : Sto} {L : List Dv → Sto → Prop} {k : Nat} {te : Fn Dv}
    (hte : ∀ (z : Str) (T : Dv → Sto → Prop), T (.int (adS z 1 x y)) s → Ok (te ((wipeZ env [k]).set k (some (.str z))) s) T) (h : L ((d.map fun z => adS z 1 x y).map .int) s) :
    Ok (lcZ noChk [k] (gNm k) fYes te (d.map .str) env s) L := by
  refine ok_map (fun _ => true) (fun d => match d with | .str z => .int (adS z 1 x y) | _ => .non) (fun d hd => ?_) ?_
  · obtain ⟨z, _, rfl⟩ := List.mem_map.mp hd
    rw [ok_gNm, ok_yes]
    refine ⟨rfl, ?_⟩
    rw [if_pos rfl]
    exact hte z _ ⟨rfl, rfl⟩
  · rw [filter_yes, List.map_map]
    rw [List.map_map] at h
    exact h
def bLacking2 (φt φl : Phi) : Fn Ct :=
  (fSeq (fFor (fEnum (fCons (fVar 5) (fNil))) (gTp 2 (gsCons (gNm 8) (gsCons (gNm 9) (gsNil)))) (fSet 7 (fBin gAdd (fVar 7) (fIf (fTest (fBin gIn (fVar 8) (fVar 3))) (fCall φt (fCons (fVar 9) (fCons (fVar 1) (fCons (fVar 2) (fNil))))) (fCall φl (fCons (fVar 9) (fCons (fVar 1) (fCons (fVar 2) (fNil)))))))))
  (fRet (fCall (gTwo fun i j => if j > i then j else i) (fCons (fC (.int 0)) (fCons (fBin gSub (fCall gToInt (fCons (fBin gGt (fIndex (fVar 4) (fCons (fVar 1) (fNil))) (fIndex (fVar 4) (fCons (fVar 2) (fNil)))) (fNil))) (fVar 7)) (fNil))))))
def bLacking (φa φt φl : Phi) : Fn Ct :=
  fSeq (fAsg (fVar 0) (gTp 3 (gsCons (gNm 4) (gsCons (gNm 5) (gsCons (gNm 6) (gsNil))))))
  (fSeq (fSet 7 (fCall gSum (fCons (fVal (fLc (fSrc (fVar 6)) [10] (gNm 10) (fYes) (fCall (gExt1 fun a b => decide (a ≤ b)) (fCons (fVal (fLc (fSrc (fVar 10)) [11] (gNm 11) (fYes) (fCall φa (fCons (fVar 11) (fCons (fC (.int 1)) (fCons (fVar 1) (fCons (fVar 2) (fNil)))))))) (fNil))))) (fNil))))
  (bLacking2 φt φl))
structure LackOk (c : Cnt) (x y : Str) : Prop where
  hx : x ∈ c.lots
  hy : y ∈ c.lots
  ho : ∀ p ∈ c.piles, p.others.length ≤ 1000
  hp : c.piles.length ≤ 1000
  hd : c.doubts.length ≤ 1000
  hs : ∀ d ∈ c.doubts, d ≠ [] ∧ d.length ≤ 1000
def LackingA (φ : Phi) : Prop := ∀ (c : Cnt) (x y : Str) (fr : List Int) (s : Sto) (T : Dv → Sto → Prop), LackOk c x y → Fl s → T (.int (lackA c x y fr)) s → Ok (φ [encC c, .str x, .str y, .tup (fr.map .int)] s) T
theorem lacking_spec {φa φt φl : Phi} (ha : AddsS φa) (ht : ToldA φt) (hl : LeastA φl) : LackingA (fDef 4 12 (bLacking φa φt φl)) := by
  intro c x y fr s T hk hf h
  rw [ok_def]
  refine ⟨rfl, ?_⟩
  have hd := hk.hd
  have hp := hk.hp
  unfold bLacking
  simp only [ok_ok, kDrop_ap, kRet_ap, kSet_ap, kCons2_ap, kCons_ap, kTup_ap, kLst_ap, kVal_ap, kNew_ap, kBin2_ap, kBin_ap, kUn_ap, kCall_ap, kCallL_ap, kNotT_ap, kAndT_ap, kOrT_ap, kIf_ap, kIfS_ap, kAnd_ap, kOr_ap, kNot_ap, kMt2_ap, kMt_ap, kPut4_ap, kPut3_ap, kPut2_ap, kPut_ap, kExt2_ap, kExt_ap, kAsg2_ap, kAsg_ap, kFor_ap, kLc_ap, kSl3_ap, kSl2_ap, kSl_ap, kGs_ap, ok_seq, sq_next, sq_ret, sq_brk, sq_cont, ok_nop, ok_brk, ok_cont, ok_drop, ok_ret, ok_retN, ok_set, ok_var0, ok_varS, ok_c, ok_nil, ok_cons, ok_tup, ok_lst, ok_val, ok_new, ok_bin, ok_un, ok_call, ok_callL, ok_test, tst_bl, ok_notT, ok_andT, ok_orT, ok_if, ok_ifS, ok_and, ok_or, ok_not, ok_mt, ok_put, ok_extend, pr2_mk, ok_par2, ok_asg, ok_for, ok_lc, ok_yes, ok_noPart, prt_int, ok_part, ok_sl, ok_gNm, ok_gTp, ok_gsN, ok_gsC, rg1_mk, rg2_mk, ok_rng1, ok_rng2, srcK_tup, srcK_ls, ok_src, finK_next, finK_ret, List.set_cons_zero, List.set_cons_succ, List.map_cons, List.map_nil, List.replicate, List.cons_append, List.nil_append, List.length_cons, List.length_nil, Bool.false_eq_true, eq_self, if_true, if_false, Nat.zero_add, gTp_C]
  refine ⟨decide_eq_true (by rw [List.length_map]; omega), ?_⟩
  refine ok_map (fun _ => true) (dbtW x y) (fun d hd => ?_) ?_
  · obtain ⟨q, hq, rfl⟩ := List.mem_map.mp hd
    have q1 := hk.hs q hq
    simp only [ok_ok, kDrop_ap, kRet_ap, kSet_ap, kCons2_ap, kCons_ap, kTup_ap, kLst_ap, kVal_ap, kNew_ap, kBin2_ap, kBin_ap, kUn_ap, kCall_ap, kCallL_ap, kNotT_ap, kAndT_ap, kOrT_ap, kIf_ap, kIfS_ap, kAnd_ap, kOr_ap, kNot_ap, kMt2_ap, kMt_ap, kPut4_ap, kPut3_ap, kPut2_ap, kPut_ap, kExt2_ap, kExt_ap, kAsg2_ap, kAsg_ap, kFor_ap, kLc_ap, kSl3_ap, kSl2_ap, kSl_ap, kGs_ap, ok_seq, sq_next, sq_ret, sq_brk, sq_cont, ok_nop, ok_brk, ok_cont, ok_drop, ok_ret, ok_retN, ok_set, ok_var0, ok_varS, ok_c, ok_nil, ok_cons, ok_tup, ok_lst, ok_val, ok_new, ok_bin, ok_un, ok_call, ok_callL, ok_test, tst_bl, ok_notT, ok_andT, ok_orT, ok_if, ok_ifS, ok_and, ok_or, ok_not, ok_mt, ok_put, ok_extend, pr2_mk, ok_par2, ok_asg, ok_for, ok_lc, ok_yes, ok_noPart, prt_int, ok_part, ok_sl, ok_gNm, ok_gTp, ok_gsN, ok_gsC, rg1_mk, rg2_mk, ok_rng1, ok_rng2, srcK_tup, srcK_ls, ok_src, finK_next, finK_ret, List.set_cons_zero, List.set_cons_succ, List.map_cons, List.map_nil, List.replicate, List.cons_append, List.nil_append, List.length_cons, List.length_nil, Bool.false_eq_true, eq_self, if_true, if_false, Nat.zero_add, wipeZ, encS]
    refine ⟨trivial, ?_⟩
    refine ⟨decide_eq_true (by rw [List.length_map]; omega), ?_⟩
    refine ok_mins (x := x) (y := y) ha (fun z T hT => ?_) ?_
    · simp only [ok_ok, kDrop_ap, kRet_ap, kSet_ap, kCons2_ap, kCons_ap, kTup_ap, kLst_ap, kVal_ap, kNew_ap, kBin2_ap, kBin_ap, kUn_ap, kCall_ap, kCallL_ap, kNotT_ap, kAndT_ap, kOrT_ap, kIf_ap, kIfS_ap, kAnd_ap, kOr_ap, kNot_ap, kMt2_ap, kMt_ap, kPut4_ap, kPut3_ap, kPut2_ap, kPut_ap, kExt2_ap, kExt_ap, kAsg2_ap, kAsg_ap, kFor_ap, kLc_ap, kSl3_ap, kSl2_ap, kSl_ap, kGs_ap, ok_seq, sq_next, sq_ret, sq_brk, sq_cont, ok_nop, ok_brk, ok_cont, ok_drop, ok_ret, ok_retN, ok_set, ok_var0, ok_varS, ok_c, ok_nil, ok_cons, ok_tup, ok_lst, ok_val, ok_new, ok_bin, ok_un, ok_call, ok_callL, ok_test, tst_bl, ok_notT, ok_andT, ok_orT, ok_if, ok_ifS, ok_and, ok_or, ok_not, ok_mt, ok_put, ok_extend, pr2_mk, ok_par2, ok_asg, ok_for, ok_lc, ok_yes, ok_noPart, prt_int, ok_part, ok_sl, ok_gNm, ok_gTp, ok_gsN, ok_gsC, rg1_mk, rg2_mk, ok_rng1, ok_rng2, srcK_tup, srcK_ls, ok_src, finK_next, finK_ret, List.set_cons_zero, List.set_cons_succ, List.map_cons, List.map_nil, List.replicate, List.cons_append, List.nil_append, List.length_cons, List.length_nil, Bool.false_eq_true, eq_self, if_true, if_false, Nat.zero_add, wipeZ]
      exact ha _ _ _ _ _ _ hT
    · simp only [ok_ok, kDrop_ap, kRet_ap, kSet_ap, kCons2_ap, kCons_ap, kTup_ap, kLst_ap, kVal_ap, kNew_ap, kBin2_ap, kBin_ap, kUn_ap, kCall_ap, kCallL_ap, kNotT_ap, kAndT_ap, kOrT_ap, kIf_ap, kIfS_ap, kAnd_ap, kOr_ap, kNot_ap, kMt2_ap, kMt_ap, kPut4_ap, kPut3_ap, kPut2_ap, kPut_ap, kExt2_ap, kExt_ap, kAsg2_ap, kAsg_ap, kFor_ap, kLc_ap, kSl3_ap, kSl2_ap, kSl_ap, kGs_ap, ok_seq, sq_next, sq_ret, sq_brk, sq_cont, ok_nop, ok_brk, ok_cont, ok_drop, ok_ret, ok_retN, ok_set, ok_var0, ok_varS, ok_c, ok_nil, ok_cons, ok_tup, ok_lst, ok_val, ok_new, ok_bin, ok_un, ok_call, ok_callL, ok_test, tst_bl, ok_notT, ok_andT, ok_orT, ok_if, ok_ifS, ok_and, ok_or, ok_not, ok_mt, ok_put, ok_extend, pr2_mk, ok_par2, ok_asg, ok_for, ok_lc, ok_yes, ok_noPart, prt_int, ok_part, ok_sl, ok_gNm, ok_gTp, ok_gsN, ok_gsC, rg1_mk, rg2_mk, ok_rng1, ok_rng2, srcK_tup, srcK_ls, ok_src, finK_next, finK_ret, List.set_cons_zero, List.set_cons_succ, List.map_cons, List.map_nil, List.replicate, List.cons_append, List.nil_append, List.length_cons, List.length_nil, Bool.false_eq_true, eq_self, if_true, if_false, Nat.zero_add]
      rw [min_ls (by simpa using q1.1)]
      refine ⟨?_, rfl⟩
      show _ = Dv.int (minI ((q.map Dv.str).map (dbtV x y)))
      rw [List.map_map]; rfl
  rw [filter_yes]
  have e1 : ((c.doubts.map encS).map (dbtW x y)) = (c.doubts.map (dbtA x y)).map .int := by
    rw [List.map_map, List.map_map]
    refine List.map_congr_left fun q _ => ?_
    show Dv.int (minI ((q.map Dv.str).map (dbtV x y))) = .int (dbtA x y q)
    rw [List.map_map]; rfl
  refine Eq.mpr (congrArg (fun l => kVal _ l _) e1) ?_
  unfold bLacking2
  simp only [ok_ok, kDrop_ap, kRet_ap, kSet_ap, kCons2_ap, kCons_ap, kTup_ap, kLst_ap, kVal_ap, kNew_ap, kBin2_ap, kBin_ap, kUn_ap, kCall_ap, kCallL_ap, kNotT_ap, kAndT_ap, kOrT_ap, kIf_ap, kIfS_ap, kAnd_ap, kOr_ap, kNot_ap, kMt2_ap, kMt_ap, kPut4_ap, kPut3_ap, kPut2_ap, kPut_ap, kExt2_ap, kExt_ap, kAsg2_ap, kAsg_ap, kFor_ap, kLc_ap, kSl3_ap, kSl2_ap, kSl_ap, kGs_ap, ok_seq, sq_next, sq_ret, sq_brk, sq_cont, ok_nop, ok_brk, ok_cont, ok_drop, ok_ret, ok_retN, ok_set, ok_var0, ok_varS, ok_c, ok_nil, ok_cons, ok_tup, ok_lst, ok_val, ok_new, ok_bin, ok_un, ok_call, ok_callL, ok_test, tst_bl, ok_notT, ok_andT, ok_orT, ok_if, ok_ifS, ok_and, ok_or, ok_not, ok_mt, ok_put, ok_extend, pr2_mk, ok_par2, ok_asg, ok_for, ok_lc, ok_yes, ok_noPart, prt_int, ok_part, ok_sl, ok_gNm, ok_gTp, ok_gsN, ok_gsC, rg1_mk, rg2_mk, ok_rng1, ok_rng2, srcK_tup, srcK_ls, ok_src, finK_next, finK_ret, List.set_cons_zero, List.set_cons_succ, List.map_cons, List.map_nil, List.replicate, List.cons_append, List.nil_append, List.length_cons, List.length_nil, Bool.false_eq_true, eq_self, if_true, if_false, Nat.zero_add, sumA_ls, ok_enum]
  refine kEnum_tup ?_
  simp only [ok_ok, kDrop_ap, kRet_ap, kSet_ap, kCons2_ap, kCons_ap, kTup_ap, kLst_ap, kVal_ap, kNew_ap, kBin2_ap, kBin_ap, kUn_ap, kCall_ap, kCallL_ap, kNotT_ap, kAndT_ap, kOrT_ap, kIf_ap, kIfS_ap, kAnd_ap, kOr_ap, kNot_ap, kMt2_ap, kMt_ap, kPut4_ap, kPut3_ap, kPut2_ap, kPut_ap, kExt2_ap, kExt_ap, kAsg2_ap, kAsg_ap, kFor_ap, kLc_ap, kSl3_ap, kSl2_ap, kSl_ap, kGs_ap, ok_seq, sq_next, sq_ret, sq_brk, sq_cont, ok_nop, ok_brk, ok_cont, ok_drop, ok_ret, ok_retN, ok_set, ok_var0, ok_varS, ok_c, ok_nil, ok_cons, ok_tup, ok_lst, ok_val, ok_new, ok_bin, ok_un, ok_call, ok_callL, ok_test, tst_bl, ok_notT, ok_andT, ok_orT, ok_if, ok_ifS, ok_and, ok_or, ok_not, ok_mt, ok_put, ok_extend, pr2_mk, ok_par2, ok_asg, ok_for, ok_lc, ok_yes, ok_noPart, prt_int, ok_part, ok_sl, ok_gNm, ok_gTp, ok_gsN, ok_gsC, rg1_mk, rg2_mk, ok_rng1, ok_rng2, srcK_tup, srcK_ls, ok_src, finK_next, finK_ret, List.set_cons_zero, List.set_cons_succ, List.map_cons, List.map_nil, List.replicate, List.cons_append, List.nil_append, List.length_cons, List.length_nil, Bool.false_eq_true, eq_self, if_true, if_false, Nat.zero_add]
  refine ok_loop (fun i env s' => ∃ (v8 v9 v10 v11 : Option Dv), env = [some (encC c), some (.str x), some (.str y), some (.tup (fr.map .int)), some (encS c.lots), some (.tup (c.piles.map encP)), some (.tup (c.doubts.map encS)), some (.int ((c.doubts.map (dbtA x y)).sum + partA x y fr c.piles i)), v8, v9, v10, v11] ∧ s' = s)
    (fun _ _ _ _ => rfl) (fun i d env s' hd h => ?_) (fun env s' h' => ?_) ⟨_, _, _, _, by rw [partA, Int.add_zero], rfl⟩
  · obtain ⟨v8, v9, v10, v11, rfl, rfl⟩ := h
    obtain ⟨e, hd2, rfl⟩ := enumD_get hd
    have hi : i < c.piles.length := by have := (List.getElem?_eq_some_iff.mp hd2).1; rwa [List.length_map] at this
    obtain ⟨p, hpi⟩ : ∃ p, c.piles[i]? = some p := ⟨_, List.getElem?_eq_getElem hi⟩
    rw [get_map (f := encP) hpi] at hd2
    cases hd2
    simp only [ok_ok, kDrop_ap, kRet_ap, kSet_ap, kCons2_ap, kCons_ap, kTup_ap, kLst_ap, kVal_ap, kNew_ap, kBin2_ap, kBin_ap, kUn_ap, kCall_ap, kCallL_ap, kNotT_ap, kAndT_ap, kOrT_ap, kIf_ap, kIfS_ap, kAnd_ap, kOr_ap, kNot_ap, kMt2_ap, kMt_ap, kPut4_ap, kPut3_ap, kPut2_ap, kPut_ap, kExt2_ap, kExt_ap, kAsg2_ap, kAsg_ap, kFor_ap, kLc_ap, kSl3_ap, kSl2_ap, kSl_ap, kGs_ap, ok_seq, sq_next, sq_ret, sq_brk, sq_cont, ok_nop, ok_brk, ok_cont, ok_drop, ok_ret, ok_retN, ok_set, ok_var0, ok_varS, ok_c, ok_nil, ok_cons, ok_tup, ok_lst, ok_val, ok_new, ok_bin, ok_un, ok_call, ok_callL, ok_test, tst_bl, ok_notT, ok_andT, ok_orT, ok_if, ok_ifS, ok_and, ok_or, ok_not, ok_mt, ok_put, ok_extend, pr2_mk, ok_par2, ok_asg, ok_for, ok_lc, ok_yes, ok_noPart, prt_int, ok_part, ok_sl, ok_gNm, ok_gTp, ok_gsN, ok_gsC, rg1_mk, rg2_mk, ok_rng1, ok_rng2, srcK_tup, srcK_ls, ok_src, finK_next, finK_ret, List.set_cons_zero, List.set_cons_succ, List.map_cons, List.map_nil, List.replicate, List.cons_append, List.nil_append, List.length_cons, List.length_nil, Bool.false_eq_true, eq_self, if_true, if_false, Nat.zero_add, in_ints]
    refine ⟨rfl, ?_⟩
    have fin : ∀ v, v = termA x y fr i p → (c.doubts.map (dbtA x y)).sum + partA x y fr c.piles i + v = (c.doubts.map (dbtA x y)).sum + partA x y fr c.piles (i + 1) := fun v hv => by
      rw [part_succ hpi, hv, Int.add_assoc]
    unfold termA at fin
    split
    · rename_i hc
      rw [if_pos hc] at fin
      refine ht _ _ _ _ _ ?_
      simp only [ok_ok, kDrop_ap, kRet_ap, kSet_ap, kCons2_ap, kCons_ap, kTup_ap, kLst_ap, kVal_ap, kNew_ap, kBin2_ap, kBin_ap, kUn_ap, kCall_ap, kCallL_ap, kNotT_ap, kAndT_ap, kOrT_ap, kIf_ap, kIfS_ap, kAnd_ap, kOr_ap, kNot_ap, kMt2_ap, kMt_ap, kPut4_ap, kPut3_ap, kPut2_ap, kPut_ap, kExt2_ap, kExt_ap, kAsg2_ap, kAsg_ap, kFor_ap, kLc_ap, kSl3_ap, kSl2_ap, kSl_ap, kGs_ap, ok_seq, sq_next, sq_ret, sq_brk, sq_cont, ok_nop, ok_brk, ok_cont, ok_drop, ok_ret, ok_retN, ok_set, ok_var0, ok_varS, ok_c, ok_nil, ok_cons, ok_tup, ok_lst, ok_val, ok_new, ok_bin, ok_un, ok_call, ok_callL, ok_test, tst_bl, ok_notT, ok_andT, ok_orT, ok_if, ok_ifS, ok_and, ok_or, ok_not, ok_mt, ok_put, ok_extend, pr2_mk, ok_par2, ok_asg, ok_for, ok_lc, ok_yes, ok_noPart, prt_int, ok_part, ok_sl, ok_gNm, ok_gTp, ok_gsN, ok_gsC, rg1_mk, rg2_mk, ok_rng1, ok_rng2, srcK_tup, srcK_ls, ok_src, finK_next, finK_ret, List.set_cons_zero, List.set_cons_succ, List.map_cons, List.map_nil, List.replicate, List.cons_append, List.nil_append, List.length_cons, List.length_nil, Bool.false_eq_true, eq_self, if_true, if_false, Nat.zero_add, Z.add_int, fin _ rfl]
      exact ⟨_, _, _, _, rfl, by first | rfl | trivial⟩
    · rename_i hc
      rw [if_neg hc] at fin
      refine hl _ _ _ _ _ (hk.ho p (List.mem_of_getElem? hpi)) hf ?_
      simp only [ok_ok, kDrop_ap, kRet_ap, kSet_ap, kCons2_ap, kCons_ap, kTup_ap, kLst_ap, kVal_ap, kNew_ap, kBin2_ap, kBin_ap, kUn_ap, kCall_ap, kCallL_ap, kNotT_ap, kAndT_ap, kOrT_ap, kIf_ap, kIfS_ap, kAnd_ap, kOr_ap, kNot_ap, kMt2_ap, kMt_ap, kPut4_ap, kPut3_ap, kPut2_ap, kPut_ap, kExt2_ap, kExt_ap, kAsg2_ap, kAsg_ap, kFor_ap, kLc_ap, kSl3_ap, kSl2_ap, kSl_ap, kGs_ap, ok_seq, sq_next, sq_ret, sq_brk, sq_cont, ok_nop, ok_brk, ok_cont, ok_drop, ok_ret, ok_retN, ok_set, ok_var0, ok_varS, ok_c, ok_nil, ok_cons, ok_tup, ok_lst, ok_val, ok_new, ok_bin, ok_un, ok_call, ok_callL, ok_test, tst_bl, ok_notT, ok_andT, ok_orT, ok_if, ok_ifS, ok_and, ok_or, ok_not, ok_mt, ok_put, ok_extend, pr2_mk, ok_par2, ok_asg, ok_for, ok_lc, ok_yes, ok_noPart, prt_int, ok_part, ok_sl, ok_gNm, ok_gTp, ok_gsN, ok_gsC, rg1_mk, rg2_mk, ok_rng1, ok_rng2, srcK_tup, srcK_ls, ok_src, finK_next, finK_ret, List.set_cons_zero, List.set_cons_succ, List.map_cons, List.map_nil, List.replicate, List.cons_append, List.nil_append, List.length_cons, List.length_nil, Bool.false_eq_true, eq_self, if_true, if_false, Nat.zero_add, Z.add_int, fin _ rfl]
      exact ⟨_, _, _, _, rfl, by first | rfl | trivial⟩
  · obtain ⟨v8, v9, v10, v11, rfl, rfl⟩ := h'
    have el : (enumD (c.piles.map encP)).length = c.piles.length := by rw [enumD, List.length_mapIdx, List.length_map]
    rw [el]
    simp only [ok_ok, kDrop_ap, kRet_ap, kSet_ap, kCons2_ap, kCons_ap, kTup_ap, kLst_ap, kVal_ap, kNew_ap, kBin2_ap, kBin_ap, kUn_ap, kCall_ap, kCallL_ap, kNotT_ap, kAndT_ap, kOrT_ap, kIf_ap, kIfS_ap, kAnd_ap, kOr_ap, kNot_ap, kMt2_ap, kMt_ap, kPut4_ap, kPut3_ap, kPut2_ap, kPut_ap, kExt2_ap, kExt_ap, kAsg2_ap, kAsg_ap, kFor_ap, kLc_ap, kSl3_ap, kSl2_ap, kSl_ap, kGs_ap, ok_seq, sq_next, sq_ret, sq_brk, sq_cont, ok_nop, ok_brk, ok_cont, ok_drop, ok_ret, ok_retN, ok_set, ok_var0, ok_varS, ok_c, ok_nil, ok_cons, ok_tup, ok_lst, ok_val, ok_new, ok_bin, ok_un, ok_call, ok_callL, ok_test, tst_bl, ok_notT, ok_andT, ok_orT, ok_if, ok_ifS, ok_and, ok_or, ok_not, ok_mt, ok_put, ok_extend, pr2_mk, ok_par2, ok_asg, ok_for, ok_lc, ok_yes, ok_noPart, prt_int, ok_part, ok_sl, ok_gNm, ok_gTp, ok_gsN, ok_gsC, rg1_mk, rg2_mk, ok_rng1, ok_rng2, srcK_tup, srcK_ls, ok_src, finK_next, finK_ret, List.set_cons_zero, List.set_cons_succ, List.map_cons, List.map_nil, List.replicate, List.cons_append, List.nil_append, List.length_cons, List.length_nil, Bool.false_eq_true, eq_self, if_true, if_false, Nat.zero_add]
    refine ok_indexT rfl rfl hk.hx ?_
    simp only [ok_ok, kDrop_ap, kRet_ap, kSet_ap, kCons2_ap, kCons_ap, kTup_ap, kLst_ap, kVal_ap, kNew_ap, kBin2_ap, kBin_ap, kUn_ap, kCall_ap, kCallL_ap, kNotT_ap, kAndT_ap, kOrT_ap, kIf_ap, kIfS_ap, kAnd_ap, kOr_ap, kNot_ap, kMt2_ap, kMt_ap, kPut4_ap, kPut3_ap, kPut2_ap, kPut_ap, kExt2_ap, kExt_ap, kAsg2_ap, kAsg_ap, kFor_ap, kLc_ap, kSl3_ap, kSl2_ap, kSl_ap, kGs_ap, ok_seq, sq_next, sq_ret, sq_brk, sq_cont, ok_nop, ok_brk, ok_cont, ok_drop, ok_ret, ok_retN, ok_set, ok_var0, ok_varS, ok_c, ok_nil, ok_cons, ok_tup, ok_lst, ok_val, ok_new, ok_bin, ok_un, ok_call, ok_callL, ok_test, tst_bl, ok_notT, ok_andT, ok_orT, ok_if, ok_ifS, ok_and, ok_or, ok_not, ok_mt, ok_put, ok_extend, pr2_mk, ok_par2, ok_asg, ok_for, ok_lc, ok_yes, ok_noPart, prt_int, ok_part, ok_sl, ok_gNm, ok_gTp, ok_gsN, ok_gsC, rg1_mk, rg2_mk, ok_rng1, ok_rng2, srcK_tup, srcK_ls, ok_src, finK_next, finK_ret, List.set_cons_zero, List.set_cons_succ, List.map_cons, List.map_nil, List.replicate, List.cons_append, List.nil_append, List.length_cons, List.length_nil, Bool.false_eq_true, eq_self, if_true, if_false, Nat.zero_add]
    refine ok_indexT rfl rfl hk.hy ?_
    have ed : decide (((idxN c.lots y : Nat) : Int) < ((idxN c.lots x : Nat) : Int)) = decide (idxN c.lots y < idxN c.lots x) := by
      rw [Bool.eq_iff_iff, decide_eq_true_eq, decide_eq_true_eq]; omega
    simp only [ok_ok, kDrop_ap, kRet_ap, kSet_ap, kCons2_ap, kCons_ap, kTup_ap, kLst_ap, kVal_ap, kNew_ap, kBin2_ap, kBin_ap, kUn_ap, kCall_ap, kCallL_ap, kNotT_ap, kAndT_ap, kOrT_ap, kIf_ap, kIfS_ap, kAnd_ap, kOr_ap, kNot_ap, kMt2_ap, kMt_ap, kPut4_ap, kPut3_ap, kPut2_ap, kPut_ap, kExt2_ap, kExt_ap, kAsg2_ap, kAsg_ap, kFor_ap, kLc_ap, kSl3_ap, kSl2_ap, kSl_ap, kGs_ap, ok_seq, sq_next, sq_ret, sq_brk, sq_cont, ok_nop, ok_brk, ok_cont, ok_drop, ok_ret, ok_retN, ok_set, ok_var0, ok_varS, ok_c, ok_nil, ok_cons, ok_tup, ok_lst, ok_val, ok_new, ok_bin, ok_un, ok_call, ok_callL, ok_test, tst_bl, ok_notT, ok_andT, ok_orT, ok_if, ok_ifS, ok_and, ok_or, ok_not, ok_mt, ok_put, ok_extend, pr2_mk, ok_par2, ok_asg, ok_for, ok_lc, ok_yes, ok_noPart, prt_int, ok_part, ok_sl, ok_gNm, ok_gTp, ok_gsN, ok_gsC, rg1_mk, rg2_mk, ok_rng1, ok_rng2, srcK_tup, srcK_ls, ok_src, finK_next, finK_ret, List.set_cons_zero, List.set_cons_succ, List.map_cons, List.map_nil, List.replicate, List.cons_append, List.nil_append, List.length_cons, List.length_nil, Bool.false_eq_true, eq_self, if_true, if_false, Nat.zero_add, gt_int, ed, toInt_bl, sub_int, two_ok]
    refine fin_any (fun n => nofun) ?_
    exact h
def bFreeA (φp : Phi) : Fn Ct :=
  fSeq (fSet 2 (fIf (fTest (fBin gIs (fVar 1) (fC .non))) (fTup (fNil)) (fVar 1)))
  (fSeq (fFor (fSrc (fVar 2)) (gNm 3) (fDrop (fCall φp (fCons (fVar 0) (fCons (fVar 3) (fNil))))))
  (fRet (fVar 2)))
def FreeA (φ : Phi) : Prop := ∀ (c : Cnt) (fd : Dv) (fr : List Int) (s : Sto) (T : Dv → Sto → Prop), (fd = .non ∧ fr = [] ∨ fd = .tup (fr.map .int)) → (∀ k ∈ fr, 0 ≤ k ∧ k < c.piles.length) → T (.tup (fr.map .int)) s → Ok (φ [encC c, fd] s) T
theorem is_non {s : Sto} : gIs .non .non s = .ok (.bl true) s := rfl
theorem is_tup {ds : List Dv} {s : Sto} : gIs (.tup ds) .non s = .ok (.bl false) s := rfl
theorem freeA_spec {φp : Phi} (hp : AskP φp) : FreeA (fDef 2 4 (bFreeA φp)) := by
  intro c fd fr s T hfd hfr h
  rw [ok_def]
  refine ⟨rfl, ?_⟩
  have rest : Ok (loopZ noChk (gNm 3) (fDrop (fCall φp (fCons (fVar 0) (fCons (fVar 3) (fNil))))) (fr.map .int) [some (encC c), some fd, some (.tup (fr.map .int)), none] s) (sq (fRet (fVar 2)) (finK s.length T)) := by
    refine ok_loop (fun j env s' => ∃ v3 : Option Dv, env = [some (encC c), some fd, some (.tup (fr.map .int)), v3] ∧ s' = s)
      (fun _ _ _ _ => rfl) (fun j d env s' hd h => ?_) (fun env s' h' => ?_) ⟨_, rfl, rfl⟩
    · obtain ⟨v3, rfl, rfl⟩ := h
      obtain ⟨k, hk, rfl⟩ := List.mem_map.mp (List.mem_of_getElem? hd)
      obtain ⟨k0, k1⟩ := hfr k hk
      simp only [ok_ok, kDrop_ap, kRet_ap, kSet_ap, kCons2_ap, kCons_ap, kTup_ap, kLst_ap, kVal_ap, kNew_ap, kBin2_ap, kBin_ap, kUn_ap, kCall_ap, kCallL_ap, kNotT_ap, kAndT_ap, kOrT_ap, kIf_ap, kIfS_ap, kAnd_ap, kOr_ap, kNot_ap, kMt2_ap, kMt_ap, kPut4_ap, kPut3_ap, kPut2_ap, kPut_ap, kExt2_ap, kExt_ap, kAsg2_ap, kAsg_ap, kFor_ap, kLc_ap, kSl3_ap, kSl2_ap, kSl_ap, kGs_ap, ok_seq, sq_next, sq_ret, sq_brk, sq_cont, ok_nop, ok_brk, ok_cont, ok_drop, ok_ret, ok_retN, ok_set, ok_var0, ok_varS, ok_c, ok_nil, ok_cons, ok_tup, ok_lst, ok_val, ok_new, ok_bin, ok_un, ok_call, ok_callL, ok_test, tst_bl, ok_notT, ok_andT, ok_orT, ok_if, ok_ifS, ok_and, ok_or, ok_not, ok_mt, ok_put, ok_extend, pr2_mk, ok_par2, ok_asg, ok_for, ok_lc, ok_yes, ok_noPart, prt_int, ok_part, ok_sl, ok_gNm, ok_gTp, ok_gsN, ok_gsC, rg1_mk, rg2_mk, ok_rng1, ok_rng2, srcK_tup, srcK_ls, ok_src, finK_next, finK_ret, List.set_cons_zero, List.set_cons_succ, List.map_cons, List.map_nil, List.replicate, List.cons_append, List.nil_append, List.length_cons, List.length_nil, Bool.false_eq_true, eq_self, if_true, if_false, Nat.zero_add]
      refine hp _ _ _ _ k0 k1 ?_
      simp only [ok_ok, kDrop_ap, kRet_ap, kSet_ap, kCons2_ap, kCons_ap, kTup_ap, kLst_ap, kVal_ap, kNew_ap, kBin2_ap, kBin_ap, kUn_ap, kCall_ap, kCallL_ap, kNotT_ap, kAndT_ap, kOrT_ap, kIf_ap, kIfS_ap, kAnd_ap, kOr_ap, kNot_ap, kMt2_ap, kMt_ap, kPut4_ap, kPut3_ap, kPut2_ap, kPut_ap, kExt2_ap, kExt_ap, kAsg2_ap, kAsg_ap, kFor_ap, kLc_ap, kSl3_ap, kSl2_ap, kSl_ap, kGs_ap, ok_seq, sq_next, sq_ret, sq_brk, sq_cont, ok_nop, ok_brk, ok_cont, ok_drop, ok_ret, ok_retN, ok_set, ok_var0, ok_varS, ok_c, ok_nil, ok_cons, ok_tup, ok_lst, ok_val, ok_new, ok_bin, ok_un, ok_call, ok_callL, ok_test, tst_bl, ok_notT, ok_andT, ok_orT, ok_if, ok_ifS, ok_and, ok_or, ok_not, ok_mt, ok_put, ok_extend, pr2_mk, ok_par2, ok_asg, ok_for, ok_lc, ok_yes, ok_noPart, prt_int, ok_part, ok_sl, ok_gNm, ok_gTp, ok_gsN, ok_gsC, rg1_mk, rg2_mk, ok_rng1, ok_rng2, srcK_tup, srcK_ls, ok_src, finK_next, finK_ret, List.set_cons_zero, List.set_cons_succ, List.map_cons, List.map_nil, List.replicate, List.cons_append, List.nil_append, List.length_cons, List.length_nil, Bool.false_eq_true, eq_self, if_true, if_false, Nat.zero_add]
      exact ⟨_, rfl, by first | rfl | trivial⟩
    · obtain ⟨v3, rfl, rfl⟩ := h'
      simp only [ok_ok, kDrop_ap, kRet_ap, kSet_ap, kCons2_ap, kCons_ap, kTup_ap, kLst_ap, kVal_ap, kNew_ap, kBin2_ap, kBin_ap, kUn_ap, kCall_ap, kCallL_ap, kNotT_ap, kAndT_ap, kOrT_ap, kIf_ap, kIfS_ap, kAnd_ap, kOr_ap, kNot_ap, kMt2_ap, kMt_ap, kPut4_ap, kPut3_ap, kPut2_ap, kPut_ap, kExt2_ap, kExt_ap, kAsg2_ap, kAsg_ap, kFor_ap, kLc_ap, kSl3_ap, kSl2_ap, kSl_ap, kGs_ap, ok_seq, sq_next, sq_ret, sq_brk, sq_cont, ok_nop, ok_brk, ok_cont, ok_drop, ok_ret, ok_retN, ok_set, ok_var0, ok_varS, ok_c, ok_nil, ok_cons, ok_tup, ok_lst, ok_val, ok_new, ok_bin, ok_un, ok_call, ok_callL, ok_test, tst_bl, ok_notT, ok_andT, ok_orT, ok_if, ok_ifS, ok_and, ok_or, ok_not, ok_mt, ok_put, ok_extend, pr2_mk, ok_par2, ok_asg, ok_for, ok_lc, ok_yes, ok_noPart, prt_int, ok_part, ok_sl, ok_gNm, ok_gTp, ok_gsN, ok_gsC, rg1_mk, rg2_mk, ok_rng1, ok_rng2, srcK_tup, srcK_ls, ok_src, finK_next, finK_ret, List.set_cons_zero, List.set_cons_succ, List.map_cons, List.map_nil, List.replicate, List.cons_append, List.nil_append, List.length_cons, List.length_nil, Bool.false_eq_true, eq_self, if_true, if_false, Nat.zero_add]
      exact fin_any (fun n => nofun) h
  unfold bFreeA
  rcases hfd with ⟨rfl, rfl⟩ | rfl
  · simp only [ok_ok, kDrop_ap, kRet_ap, kSet_ap, kCons2_ap, kCons_ap, kTup_ap, kLst_ap, kVal_ap, kNew_ap, kBin2_ap, kBin_ap, kUn_ap, kCall_ap, kCallL_ap, kNotT_ap, kAndT_ap, kOrT_ap, kIf_ap, kIfS_ap, kAnd_ap, kOr_ap, kNot_ap, kMt2_ap, kMt_ap, kPut4_ap, kPut3_ap, kPut2_ap, kPut_ap, kExt2_ap, kExt_ap, kAsg2_ap, kAsg_ap, kFor_ap, kLc_ap, kSl3_ap, kSl2_ap, kSl_ap, kGs_ap, ok_seq, sq_next, sq_ret, sq_brk, sq_cont, ok_nop, ok_brk, ok_cont, ok_drop, ok_ret, ok_retN, ok_set, ok_var0, ok_varS, ok_c, ok_nil, ok_cons, ok_tup, ok_lst, ok_val, ok_new, ok_bin, ok_un, ok_call, ok_callL, ok_test, tst_bl, ok_notT, ok_andT, ok_orT, ok_if, ok_ifS, ok_and, ok_or, ok_not, ok_mt, ok_put, ok_extend, pr2_mk, ok_par2, ok_asg, ok_for, ok_lc, ok_yes, ok_noPart, prt_int, ok_part, ok_sl, ok_gNm, ok_gTp, ok_gsN, ok_gsC, rg1_mk, rg2_mk, ok_rng1, ok_rng2, srcK_tup, srcK_ls, ok_src, finK_next, finK_ret, List.set_cons_zero, List.set_cons_succ, List.map_cons, List.map_nil, List.replicate, List.cons_append, List.nil_append, List.length_cons, List.length_nil, Bool.false_eq_true, eq_self, if_true, if_false, Nat.zero_add, is_non]
    refine ⟨rfl, ?_⟩
    exact rest
  · simp only [ok_ok, kDrop_ap, kRet_ap, kSet_ap, kCons2_ap, kCons_ap, kTup_ap, kLst_ap, kVal_ap, kNew_ap, kBin2_ap, kBin_ap, kUn_ap, kCall_ap, kCallL_ap, kNotT_ap, kAndT_ap, kOrT_ap, kIf_ap, kIfS_ap, kAnd_ap, kOr_ap, kNot_ap, kMt2_ap, kMt_ap, kPut4_ap, kPut3_ap, kPut2_ap, kPut_ap, kExt2_ap, kExt_ap, kAsg2_ap, kAsg_ap, kFor_ap, kLc_ap, kSl3_ap, kSl2_ap, kSl_ap, kGs_ap, ok_seq, sq_next, sq_ret, sq_brk, sq_cont, ok_nop, ok_brk, ok_cont, ok_drop, ok_ret, ok_retN, ok_set, ok_var0, ok_varS, ok_c, ok_nil, ok_cons, ok_tup, ok_lst, ok_val, ok_new, ok_bin, ok_un, ok_call, ok_callL, ok_test, tst_bl, ok_notT, ok_andT, ok_orT, ok_if, ok_ifS, ok_and, ok_or, ok_not, ok_mt, ok_put, ok_extend, pr2_mk, ok_par2, ok_asg, ok_for, ok_lc, ok_yes, ok_noPart, prt_int, ok_part, ok_sl, ok_gNm, ok_gTp, ok_gsN, ok_gsC, rg1_mk, rg2_mk, ok_rng1, ok_rng2, srcK_tup, srcK_ls, ok_src, finK_next, finK_ret, List.set_cons_zero, List.set_cons_succ, List.map_cons, List.map_nil, List.replicate, List.cons_append, List.nil_append, List.length_cons, List.length_nil, Bool.false_eq_true, eq_self, if_true, if_false, Nat.zero_add, is_tup]
    exact rest
def bLack (φn φg φf : Phi) : Fn Ct :=
  fSeq (fFor (fSrc (fTup (fCons (fVar 1) (fCons (fVar 2) (fNil))))) (gNm 4) (fDrop (fCall φn (fCons (fVar 0) (fCons (fVar 4) (fNil))))))
  (fRet (fCall φg (fCons (fVar 0) (fCons (fVar 1) (fCons (fVar 2) (fCons (fCall φf (fCons (fVar 0) (fCons (fVar 3) (fNil)))) (fNil)))))))
def LackA (φ : Phi) : Prop := ∀ (c : Cnt) (x y : Str) (fd : Dv) (fr : List Int) (s : Sto) (T : Dv → Sto → Prop), (fd = .non ∧ fr = [] ∨ fd = .tup (fr.map .int)) → (∀ k ∈ fr, 0 ≤ k ∧ k < c.piles.length) → LackOk c x y → Fl s → T (.int (lackA c x y fr)) s → Ok (φ [encC c, .str x, .str y, fd] s) T
theorem lack_spec {φn φg φf : Phi} (hn : AskN φn) (hg : LackingA φg) (hfa : FreeA φf) : LackA (fDef 4 5 (bLack φn φg φf)) := by
  intro c x y fd fr s T hfd hfr hk hf h
  rw [ok_def]
  refine ⟨rfl, ?_⟩
  unfold bLack
  simp only [ok_ok, kDrop_ap, kRet_ap, kSet_ap, kCons2_ap, kCons_ap, kTup_ap, kLst_ap, kVal_ap, kNew_ap, kBin2_ap, kBin_ap, kUn_ap, kCall_ap, kCallL_ap, kNotT_ap, kAndT_ap, kOrT_ap, kIf_ap, kIfS_ap, kAnd_ap, kOr_ap, kNot_ap, kMt2_ap, kMt_ap, kPut4_ap, kPut3_ap, kPut2_ap, kPut_ap, kExt2_ap, kExt_ap, kAsg2_ap, kAsg_ap, kFor_ap, kLc_ap, kSl3_ap, kSl2_ap, kSl_ap, kGs_ap, ok_seq, sq_next, sq_ret, sq_brk, sq_cont, ok_nop, ok_brk, ok_cont, ok_drop, ok_ret, ok_retN, ok_set, ok_var0, ok_varS, ok_c, ok_nil, ok_cons, ok_tup, ok_lst, ok_val, ok_new, ok_bin, ok_un, ok_call, ok_callL, ok_test, tst_bl, ok_notT, ok_andT, ok_orT, ok_if, ok_ifS, ok_and, ok_or, ok_not, ok_mt, ok_put, ok_extend, pr2_mk, ok_par2, ok_asg, ok_for, ok_lc, ok_yes, ok_noPart, prt_int, ok_part, ok_sl, ok_gNm, ok_gTp, ok_gsN, ok_gsC, rg1_mk, rg2_mk, ok_rng1, ok_rng2, srcK_tup, srcK_ls, ok_src, finK_next, finK_ret, List.set_cons_zero, List.set_cons_succ, List.map_cons, List.map_nil, List.replicate, List.cons_append, List.nil_append, List.length_cons, List.length_nil, Bool.false_eq_true, eq_self, if_true, if_false, Nat.zero_add]
  refine ⟨rfl, ?_⟩
  refine ok_loop (fun j env s' => ∃ v4 : Option Dv, env = [some (encC c), some (.str x), some (.str y), some fd, v4] ∧ s' = s)
    (fun _ _ _ _ => rfl) (fun j d env s' hd h => ?_) (fun env s' h' => ?_) ⟨_, rfl, rfl⟩
  · obtain ⟨v4, rfl, rfl⟩ := h
    have one : ∃ z, d = .str z ∧ z ∈ c.lots := by
      rcases List.mem_cons.mp (List.mem_of_getElem? hd) with q | q
      · exact ⟨_, q, hk.hx⟩
      · exact ⟨_, List.mem_singleton.mp q, hk.hy⟩
    obtain ⟨z, rfl, hz⟩ := one
    simp only [ok_ok, kDrop_ap, kRet_ap, kSet_ap, kCons2_ap, kCons_ap, kTup_ap, kLst_ap, kVal_ap, kNew_ap, kBin2_ap, kBin_ap, kUn_ap, kCall_ap, kCallL_ap, kNotT_ap, kAndT_ap, kOrT_ap, kIf_ap, kIfS_ap, kAnd_ap, kOr_ap, kNot_ap, kMt2_ap, kMt_ap, kPut4_ap, kPut3_ap, kPut2_ap, kPut_ap, kExt2_ap, kExt_ap, kAsg2_ap, kAsg_ap, kFor_ap, kLc_ap, kSl3_ap, kSl2_ap, kSl_ap, kGs_ap, ok_seq, sq_next, sq_ret, sq_brk, sq_cont, ok_nop, ok_brk, ok_cont, ok_drop, ok_ret, ok_retN, ok_set, ok_var0, ok_varS, ok_c, ok_nil, ok_cons, ok_tup, ok_lst, ok_val, ok_new, ok_bin, ok_un, ok_call, ok_callL, ok_test, tst_bl, ok_notT, ok_andT, ok_orT, ok_if, ok_ifS, ok_and, ok_or, ok_not, ok_mt, ok_put, ok_extend, pr2_mk, ok_par2, ok_asg, ok_for, ok_lc, ok_yes, ok_noPart, prt_int, ok_part, ok_sl, ok_gNm, ok_gTp, ok_gsN, ok_gsC, rg1_mk, rg2_mk, ok_rng1, ok_rng2, srcK_tup, srcK_ls, ok_src, finK_next, finK_ret, List.set_cons_zero, List.set_cons_succ, List.map_cons, List.map_nil, List.replicate, List.cons_append, List.nil_append, List.length_cons, List.length_nil, Bool.false_eq_true, eq_self, if_true, if_false, Nat.zero_add]
    refine hn _ _ _ _ hz ?_
    simp only [ok_ok, kDrop_ap, kRet_ap, kSet_ap, kCons2_ap, kCons_ap, kTup_ap, kLst_ap, kVal_ap, kNew_ap, kBin2_ap, kBin_ap, kUn_ap, kCall_ap, kCallL_ap, kNotT_ap, kAndT_ap, kOrT_ap, kIf_ap, kIfS_ap, kAnd_ap, kOr_ap, kNot_ap, kMt2_ap, kMt_ap, kPut4_ap, kPut3_ap, kPut2_ap, kPut_ap, kExt2_ap, kExt_ap, kAsg2_ap, kAsg_ap, kFor_ap, kLc_ap, kSl3_ap, kSl2_ap, kSl_ap, kGs_ap, ok_seq, sq_next, sq_ret, sq_brk, sq_cont, ok_nop, ok_brk, ok_cont, ok_drop, ok_ret, ok_retN, ok_set, ok_var0, ok_varS, ok_c, ok_nil, ok_cons, ok_tup, ok_lst, ok_val, ok_new, ok_bin, ok_un, ok_call, ok_callL, ok_test, tst_bl, ok_notT, ok_andT, ok_orT, ok_if, ok_ifS, ok_and, ok_or, ok_not, ok_mt, ok_put, ok_extend, pr2_mk, ok_par2, ok_asg, ok_for, ok_lc, ok_yes, ok_noPart, prt_int, ok_part, ok_sl, ok_gNm, ok_gTp, ok_gsN, ok_gsC, rg1_mk, rg2_mk, ok_rng1, ok_rng2, srcK_tup, srcK_ls, ok_src, finK_next, finK_ret, List.set_cons_zero, List.set_cons_succ, List.map_cons, List.map_nil, List.replicate, List.cons_append, List.nil_append, List.length_cons, List.length_nil, Bool.false_eq_true, eq_self, if_true, if_false, Nat.zero_add]
    exact ⟨_, rfl, by first | rfl | trivial⟩
  · obtain ⟨v4, rfl, rfl⟩ := h'
    simp only [ok_ok, kDrop_ap, kRet_ap, kSet_ap, kCons2_ap, kCons_ap, kTup_ap, kLst_ap, kVal_ap, kNew_ap, kBin2_ap, kBin_ap, kUn_ap, kCall_ap, kCallL_ap, kNotT_ap, kAndT_ap, kOrT_ap, kIf_ap, kIfS_ap, kAnd_ap, kOr_ap, kNot_ap, kMt2_ap, kMt_ap, kPut4_ap, kPut3_ap, kPut2_ap, kPut_ap, kExt2_ap, kExt_ap, kAsg2_ap, kAsg_ap, kFor_ap, kLc_ap, kSl3_ap, kSl2_ap, kSl_ap, kGs_ap, ok_seq, sq_next, sq_ret, sq_brk, sq_cont, ok_nop, ok_brk, ok_cont, ok_drop, ok_ret, ok_retN, ok_set, ok_var0, ok_varS, ok_c, ok_nil, ok_cons, ok_tup, ok_lst, ok_val, ok_new, ok_bin, ok_un, ok_call, ok_callL, ok_test, tst_bl, ok_notT, ok_andT, ok_orT, ok_if, ok_ifS, ok_and, ok_or, ok_not, ok_mt, ok_put, ok_extend, pr2_mk, ok_par2, ok_asg, ok_for, ok_lc, ok_yes, ok_noPart, prt_int, ok_part, ok_sl, ok_gNm, ok_gTp, ok_gsN, ok_gsC, rg1_mk, rg2_mk, ok_rng1, ok_rng2, srcK_tup, srcK_ls, ok_src, finK_next, finK_ret, List.set_cons_zero, List.set_cons_succ, List.map_cons, List.map_nil, List.replicate, List.cons_append, List.nil_append, List.length_cons, List.length_nil, Bool.false_eq_true, eq_self, if_true, if_false, Nat.zero_add]
    refine hfa _ _ _ _ _ hfd hfr ?_
    simp only [ok_ok, kDrop_ap, kRet_ap, kSet_ap, kCons2_ap, kCons_ap, kTup_ap, kLst_ap, kVal_ap, kNew_ap, kBin2_ap, kBin_ap, kUn_ap, kCall_ap, kCallL_ap, kNotT_ap, kAndT_ap, kOrT_ap, kIf_ap, kIfS_ap, kAnd_ap, kOr_ap, kNot_ap, kMt2_ap, kMt_ap, kPut4_ap, kPut3_ap, kPut2_ap, kPut_ap, kExt2_ap, kExt_ap, kAsg2_ap, kAsg_ap, kFor_ap, kLc_ap, kSl3_ap, kSl2_ap, kSl_ap, kGs_ap, ok_seq, sq_next, sq_ret, sq_brk, sq_cont, ok_nop, ok_brk, ok_cont, ok_drop, ok_ret, ok_retN, ok_set, ok_var0, ok_varS, ok_c, ok_nil, ok_cons, ok_tup, ok_lst, ok_val, ok_new, ok_bin, ok_un, ok_call, ok_callL, ok_test, tst_bl, ok_notT, ok_andT, ok_orT, ok_if, ok_ifS, ok_and, ok_or, ok_not, ok_mt, ok_put, ok_extend, pr2_mk, ok_par2, ok_asg, ok_for, ok_lc, ok_yes, ok_noPart, prt_int, ok_part, ok_sl, ok_gNm, ok_gTp, ok_gsN, ok_gsC, rg1_mk, rg2_mk, ok_rng1, ok_rng2, srcK_tup, srcK_ls, ok_src, finK_next, finK_ret, List.set_cons_zero, List.set_cons_succ, List.map_cons, List.map_nil, List.replicate, List.cons_append, List.nil_append, List.length_cons, List.length_nil, Bool.false_eq_true, eq_self, if_true, if_false, Nat.zero_add]
    refine hg _ _ _ _ _ _ hk hf ?_
    simp only [ok_ok, kDrop_ap, kRet_ap, kSet_ap, kCons2_ap, kCons_ap, kTup_ap, kLst_ap, kVal_ap, kNew_ap, kBin2_ap, kBin_ap, kUn_ap, kCall_ap, kCallL_ap, kNotT_ap, kAndT_ap, kOrT_ap, kIf_ap, kIfS_ap, kAnd_ap, kOr_ap, kNot_ap, kMt2_ap, kMt_ap, kPut4_ap, kPut3_ap, kPut2_ap, kPut_ap, kExt2_ap, kExt_ap, kAsg2_ap, kAsg_ap, kFor_ap, kLc_ap, kSl3_ap, kSl2_ap, kSl_ap, kGs_ap, ok_seq, sq_next, sq_ret, sq_brk, sq_cont, ok_nop, ok_brk, ok_cont, ok_drop, ok_ret, ok_retN, ok_set, ok_var0, ok_varS, ok_c, ok_nil, ok_cons, ok_tup, ok_lst, ok_val, ok_new, ok_bin, ok_un, ok_call, ok_callL, ok_test, tst_bl, ok_notT, ok_andT, ok_orT, ok_if, ok_ifS, ok_and, ok_or, ok_not, ok_mt, ok_put, ok_extend, pr2_mk, ok_par2, ok_asg, ok_for, ok_lc, ok_yes, ok_noPart, prt_int, ok_part, ok_sl, ok_gNm, ok_gTp, ok_gsN, ok_gsC, rg1_mk, rg2_mk, ok_rng1, ok_rng2, srcK_tup, srcK_ls, ok_src, finK_next, finK_ret, List.set_cons_zero, List.set_cons_succ, List.map_cons, List.map_nil, List.replicate, List.cons_append, List.nil_append, List.length_cons, List.length_nil, Bool.false_eq_true, eq_self, if_true, if_false, Nat.zero_add]
    exact fin_any (fun n => nofun) h
end Z

/-! # The widths (37): the law's own lack -/
namespace Z
open PySem PySem.Spec L2
def bLawL2 (φa : Phi) : Fn Ct :=
  (fSeq (fFor (fSrc (fVar 6)) (gNm 10) (fSet 8 (fBin gAdd (fVar 8) (fCall (gExt1 fun a b => decide (a ≤ b)) (fCons (fVal (fLc (fSrc (fVar 10)) [12] (gNm 12) (fYes) (fCall φa (fCons (fVar 12) (fCons (fC (.int 1)) (fCons (fVar 1) (fCons (fVar 2) (fNil)))))))) (fNil))))))
  (fSeq (fSet 11 (fIf (fTest (fBin gLt (fIndex (fVar 4) (fCons (fVar 1) (fNil))) (fIndex (fVar 4) (fCons (fVar 2) (fNil))))) (fC (.int 0)) (fC (.int 1))))
  (fRet (fCall (gTwo fun i j => if j > i then j else i) (fCons (fC (.int 0)) (fCons (fBin gSub (fVar 11) (fVar 8)) (fNil)))))))
def bLawL (φa φw : Phi) : Fn Ct :=
  fSeq (fAsg (fVar 0) (gTp 3 (gsCons (gNm 4) (gsCons (gNm 5) (gsCons (gNm 6) (gsNil))))))
  (fSeq (fSet 7 (fCall φw (fCons (fVar 0) (fCons (fVar 1) (fCons (fVar 2) (fNil))))))
  (fSeq (fSet 8 (fC (.int 0)))
  (fSeq (fFor (fRng1 (fCons (fCall gLen (fCons (fVar 5) (fNil))) (fNil))) (gNm 9) (fSet 8 (fBin gSub (fBin gAdd (fVar 8) (fCall φa (fCons (fBin gIx (fBin gIx (fVar 5) (fVar 9)) (fC (.int 0))) (fCons (fBin gIx (fBin gIx (fVar 5) (fVar 9)) (fC (.int 1))) (fCons (fVar 1) (fCons (fVar 2) (fNil))))))) (fIf (fTest (fBin gIn (fVar 9) (fVar 3))) (fC (.int 0)) (fBin gIx (fVar 7) (fVar 9))))))
  (bLawL2 φa))))
theorem sum_take_succ {α : Type} {f : α → Int} {l : List α} {i : Nat} {a : α} (h : l[i]? = some a) : ((l.take (i + 1)).map f).sum = ((l.take i).map f).sum + f a := by
  rw [take_succ' h, List.map_append, List.sum_append]; simp
def LawL (φ : Phi) : Prop := ∀ (c : Cnt) (x y : Str) (fr : List Int) (s : Sto) (T : Dv → Sto → Prop), LackOk c x y → x ≠ y → Fl s → T (.int (lackA c x y fr)) s → Ok (φ [encC c, .str x, .str y, .tup (fr.map .int)] s) T
theorem lawL_spec {φa φw : Phi} (ha : AddsS φa) (hw : LawW φw) : LawL (fDef 4 13 (bLawL φa φw)) := by
  intro c x y fr s T hk hxy hf h
  rw [ok_def]
  refine ⟨rfl, ?_⟩
  have hd := hk.hd
  have hp := hk.hp
  unfold bLawL
  simp only [ok_ok, kDrop_ap, kRet_ap, kSet_ap, kCons2_ap, kCons_ap, kTup_ap, kLst_ap, kVal_ap, kNew_ap, kBin2_ap, kBin_ap, kUn_ap, kCall_ap, kCallL_ap, kNotT_ap, kAndT_ap, kOrT_ap, kIf_ap, kIfS_ap, kAnd_ap, kOr_ap, kNot_ap, kMt2_ap, kMt_ap, kPut4_ap, kPut3_ap, kPut2_ap, kPut_ap, kExt2_ap, kExt_ap, kAsg2_ap, kAsg_ap, kFor_ap, kLc_ap, kSl3_ap, kSl2_ap, kSl_ap, kGs_ap, ok_seq, sq_next, sq_ret, sq_brk, sq_cont, ok_nop, ok_brk, ok_cont, ok_drop, ok_ret, ok_retN, ok_set, ok_var0, ok_varS, ok_c, ok_nil, ok_cons, ok_tup, ok_lst, ok_val, ok_new, ok_bin, ok_un, ok_call, ok_callL, ok_test, tst_bl, ok_notT, ok_andT, ok_orT, ok_if, ok_ifS, ok_and, ok_or, ok_not, ok_mt, ok_put, ok_extend, pr2_mk, ok_par2, ok_asg, ok_for, ok_lc, ok_yes, ok_noPart, prt_int, ok_part, ok_sl, ok_gNm, ok_gTp, ok_gsN, ok_gsC, rg1_mk, rg2_mk, ok_rng1, ok_rng2, srcK_tup, srcK_ls, ok_src, finK_next, finK_ret, List.set_cons_zero, List.set_cons_succ, List.map_cons, List.map_nil, List.replicate, List.cons_append, List.nil_append, List.length_cons, List.length_nil, Bool.false_eq_true, eq_self, if_true, if_false, Nat.zero_add, gTp_C]
  refine hw _ _ _ _ _ hk.ho hk.hp hf ?_
  simp only [ok_ok, kDrop_ap, kRet_ap, kSet_ap, kCons2_ap, kCons_ap, kTup_ap, kLst_ap, kVal_ap, kNew_ap, kBin2_ap, kBin_ap, kUn_ap, kCall_ap, kCallL_ap, kNotT_ap, kAndT_ap, kOrT_ap, kIf_ap, kIfS_ap, kAnd_ap, kOr_ap, kNot_ap, kMt2_ap, kMt_ap, kPut4_ap, kPut3_ap, kPut2_ap, kPut_ap, kExt2_ap, kExt_ap, kAsg2_ap, kAsg_ap, kFor_ap, kLc_ap, kSl3_ap, kSl2_ap, kSl_ap, kGs_ap, ok_seq, sq_next, sq_ret, sq_brk, sq_cont, ok_nop, ok_brk, ok_cont, ok_drop, ok_ret, ok_retN, ok_set, ok_var0, ok_varS, ok_c, ok_nil, ok_cons, ok_tup, ok_lst, ok_val, ok_new, ok_bin, ok_un, ok_call, ok_callL, ok_test, tst_bl, ok_notT, ok_andT, ok_orT, ok_if, ok_ifS, ok_and, ok_or, ok_not, ok_mt, ok_put, ok_extend, pr2_mk, ok_par2, ok_asg, ok_for, ok_lc, ok_yes, ok_noPart, prt_int, ok_part, ok_sl, ok_gNm, ok_gTp, ok_gsN, ok_gsC, rg1_mk, rg2_mk, ok_rng1, ok_rng2, srcK_tup, srcK_ls, ok_src, finK_next, finK_ret, List.set_cons_zero, List.set_cons_succ, List.map_cons, List.map_nil, List.replicate, List.cons_append, List.nil_append, List.length_cons, List.length_nil, Bool.false_eq_true, eq_self, if_true, if_false, Nat.zero_add, len_tup]
  refine ⟨inRng_small (by omega) (by rw [List.length_map]; omega), ?_⟩
  refine ok_loop (fun i env s' => ∃ (v9 v10 v11 v12 : Option Dv), env = [some (encC c), some (.str x), some (.str y), some (.tup (fr.map .int)), some (encS c.lots), some (.tup (c.piles.map encP)), some (.tup (c.doubts.map encS)), some (.ls ((widthsA c x y).map .int)), some (.int (partA x y fr c.piles i)), v9, v10, v11, v12] ∧ s' = s)
    (fun _ _ _ _ => rfl) (fun i d env s' hd h => ?_) (fun env s' h' => ?_) ⟨_, _, _, _, rfl, rfl⟩
  · obtain ⟨v9, v10, v11, v12, rfl, rfl⟩ := h
    obtain ⟨hi, rfl⟩ := rngD_get hd
    rw [List.length_map] at hi
    have hi' : i < c.piles.length := by omega
    obtain ⟨p, hpi⟩ : ∃ p, c.piles[i]? = some p := ⟨_, List.getElem?_eq_getElem hi'⟩
    have fin : ∀ v : Int, v = (if decide ((i : Int) ∈ fr) = true then 0 else wideA x y p) → partA x y fr c.piles i + adS p.name p.many x y - v = partA x y fr c.piles (i + 1) := fun v hv => by
      rw [part_succ hpi, hv, termA]
      split
      · rw [Int.sub_zero]
      · unfold wideA; omega
    have hwk : ((widthsA c x y).map Dv.int)[i]? = some (.int (wideA x y p)) := by
      rw [get_map (f := Dv.int) (x := wideA x y p)]
      rw [widthsA, List.getElem?_map, hpi]; rfl
    simp only [ok_ok, kDrop_ap, kRet_ap, kSet_ap, kCons2_ap, kCons_ap, kTup_ap, kLst_ap, kVal_ap, kNew_ap, kBin2_ap, kBin_ap, kUn_ap, kCall_ap, kCallL_ap, kNotT_ap, kAndT_ap, kOrT_ap, kIf_ap, kIfS_ap, kAnd_ap, kOr_ap, kNot_ap, kMt2_ap, kMt_ap, kPut4_ap, kPut3_ap, kPut2_ap, kPut_ap, kExt2_ap, kExt_ap, kAsg2_ap, kAsg_ap, kFor_ap, kLc_ap, kSl3_ap, kSl2_ap, kSl_ap, kGs_ap, ok_seq, sq_next, sq_ret, sq_brk, sq_cont, ok_nop, ok_brk, ok_cont, ok_drop, ok_ret, ok_retN, ok_set, ok_var0, ok_varS, ok_c, ok_nil, ok_cons, ok_tup, ok_lst, ok_val, ok_new, ok_bin, ok_un, ok_call, ok_callL, ok_test, tst_bl, ok_notT, ok_andT, ok_orT, ok_if, ok_ifS, ok_and, ok_or, ok_not, ok_mt, ok_put, ok_extend, pr2_mk, ok_par2, ok_asg, ok_for, ok_lc, ok_yes, ok_noPart, prt_int, ok_part, ok_sl, ok_gNm, ok_gTp, ok_gsN, ok_gsC, rg1_mk, rg2_mk, ok_rng1, ok_rng2, srcK_tup, srcK_ls, ok_src, finK_next, finK_ret, List.set_cons_zero, List.set_cons_succ, List.map_cons, List.map_nil, List.replicate, List.cons_append, List.nil_append, List.length_cons, List.length_nil, Bool.false_eq_true, eq_self, if_true, if_false, Nat.zero_add, Int.zero_add, ix_tupN (get_map (f := encP) hpi), ixP0, ixP1]
    refine ha _ _ _ _ _ _ ?_
    simp only [ok_ok, kDrop_ap, kRet_ap, kSet_ap, kCons2_ap, kCons_ap, kTup_ap, kLst_ap, kVal_ap, kNew_ap, kBin2_ap, kBin_ap, kUn_ap, kCall_ap, kCallL_ap, kNotT_ap, kAndT_ap, kOrT_ap, kIf_ap, kIfS_ap, kAnd_ap, kOr_ap, kNot_ap, kMt2_ap, kMt_ap, kPut4_ap, kPut3_ap, kPut2_ap, kPut_ap, kExt2_ap, kExt_ap, kAsg2_ap, kAsg_ap, kFor_ap, kLc_ap, kSl3_ap, kSl2_ap, kSl_ap, kGs_ap, ok_seq, sq_next, sq_ret, sq_brk, sq_cont, ok_nop, ok_brk, ok_cont, ok_drop, ok_ret, ok_retN, ok_set, ok_var0, ok_varS, ok_c, ok_nil, ok_cons, ok_tup, ok_lst, ok_val, ok_new, ok_bin, ok_un, ok_call, ok_callL, ok_test, tst_bl, ok_notT, ok_andT, ok_orT, ok_if, ok_ifS, ok_and, ok_or, ok_not, ok_mt, ok_put, ok_extend, pr2_mk, ok_par2, ok_asg, ok_for, ok_lc, ok_yes, ok_noPart, prt_int, ok_part, ok_sl, ok_gNm, ok_gTp, ok_gsN, ok_gsC, rg1_mk, rg2_mk, ok_rng1, ok_rng2, srcK_tup, srcK_ls, ok_src, finK_next, finK_ret, List.set_cons_zero, List.set_cons_succ, List.map_cons, List.map_nil, List.replicate, List.cons_append, List.nil_append, List.length_cons, List.length_nil, Bool.false_eq_true, eq_self, if_true, if_false, Nat.zero_add, Z.add_int, in_ints]
    split
    · rename_i hc
      rw [if_pos hc] at fin
      simp only [ok_ok, kDrop_ap, kRet_ap, kSet_ap, kCons2_ap, kCons_ap, kTup_ap, kLst_ap, kVal_ap, kNew_ap, kBin2_ap, kBin_ap, kUn_ap, kCall_ap, kCallL_ap, kNotT_ap, kAndT_ap, kOrT_ap, kIf_ap, kIfS_ap, kAnd_ap, kOr_ap, kNot_ap, kMt2_ap, kMt_ap, kPut4_ap, kPut3_ap, kPut2_ap, kPut_ap, kExt2_ap, kExt_ap, kAsg2_ap, kAsg_ap, kFor_ap, kLc_ap, kSl3_ap, kSl2_ap, kSl_ap, kGs_ap, ok_seq, sq_next, sq_ret, sq_brk, sq_cont, ok_nop, ok_brk, ok_cont, ok_drop, ok_ret, ok_retN, ok_set, ok_var0, ok_varS, ok_c, ok_nil, ok_cons, ok_tup, ok_lst, ok_val, ok_new, ok_bin, ok_un, ok_call, ok_callL, ok_test, tst_bl, ok_notT, ok_andT, ok_orT, ok_if, ok_ifS, ok_and, ok_or, ok_not, ok_mt, ok_put, ok_extend, pr2_mk, ok_par2, ok_asg, ok_for, ok_lc, ok_yes, ok_noPart, prt_int, ok_part, ok_sl, ok_gNm, ok_gTp, ok_gsN, ok_gsC, rg1_mk, rg2_mk, ok_rng1, ok_rng2, srcK_tup, srcK_ls, ok_src, finK_next, finK_ret, List.set_cons_zero, List.set_cons_succ, List.map_cons, List.map_nil, List.replicate, List.cons_append, List.nil_append, List.length_cons, List.length_nil, Bool.false_eq_true, eq_self, if_true, if_false, Nat.zero_add, sub_int, fin _ rfl]
      exact ⟨_, _, _, _, rfl, by first | rfl | trivial⟩
    · rename_i hc
      rw [if_neg hc] at fin
      simp only [ok_ok, kDrop_ap, kRet_ap, kSet_ap, kCons2_ap, kCons_ap, kTup_ap, kLst_ap, kVal_ap, kNew_ap, kBin2_ap, kBin_ap, kUn_ap, kCall_ap, kCallL_ap, kNotT_ap, kAndT_ap, kOrT_ap, kIf_ap, kIfS_ap, kAnd_ap, kOr_ap, kNot_ap, kMt2_ap, kMt_ap, kPut4_ap, kPut3_ap, kPut2_ap, kPut_ap, kExt2_ap, kExt_ap, kAsg2_ap, kAsg_ap, kFor_ap, kLc_ap, kSl3_ap, kSl2_ap, kSl_ap, kGs_ap, ok_seq, sq_next, sq_ret, sq_brk, sq_cont, ok_nop, ok_brk, ok_cont, ok_drop, ok_ret, ok_retN, ok_set, ok_var0, ok_varS, ok_c, ok_nil, ok_cons, ok_tup, ok_lst, ok_val, ok_new, ok_bin, ok_un, ok_call, ok_callL, ok_test, tst_bl, ok_notT, ok_andT, ok_orT, ok_if, ok_ifS, ok_and, ok_or, ok_not, ok_mt, ok_put, ok_extend, pr2_mk, ok_par2, ok_asg, ok_for, ok_lc, ok_yes, ok_noPart, prt_int, ok_part, ok_sl, ok_gNm, ok_gTp, ok_gsN, ok_gsC, rg1_mk, rg2_mk, ok_rng1, ok_rng2, srcK_tup, srcK_ls, ok_src, finK_next, finK_ret, List.set_cons_zero, List.set_cons_succ, List.map_cons, List.map_nil, List.replicate, List.cons_append, List.nil_append, List.length_cons, List.length_nil, Bool.false_eq_true, eq_self, if_true, if_false, Nat.zero_add, Int.zero_add, ix_lsN hwk, sub_int, fin _ rfl]
      exact ⟨_, _, _, _, rfl, by first | rfl | trivial⟩
  · obtain ⟨v9, v10, v11, v12, rfl, rfl⟩ := h'
    have el : ∀ n : Nat, (rngD 0 ((n : Int)).toNat).length = n := fun n => by rw [rngD_len]; omega
    rw [el, List.length_map]
    unfold bLawL2
    simp only [ok_ok, kDrop_ap, kRet_ap, kSet_ap, kCons2_ap, kCons_ap, kTup_ap, kLst_ap, kVal_ap, kNew_ap, kBin2_ap, kBin_ap, kUn_ap, kCall_ap, kCallL_ap, kNotT_ap, kAndT_ap, kOrT_ap, kIf_ap, kIfS_ap, kAnd_ap, kOr_ap, kNot_ap, kMt2_ap, kMt_ap, kPut4_ap, kPut3_ap, kPut2_ap, kPut_ap, kExt2_ap, kExt_ap, kAsg2_ap, kAsg_ap, kFor_ap, kLc_ap, kSl3_ap, kSl2_ap, kSl_ap, kGs_ap, ok_seq, sq_next, sq_ret, sq_brk, sq_cont, ok_nop, ok_brk, ok_cont, ok_drop, ok_ret, ok_retN, ok_set, ok_var0, ok_varS, ok_c, ok_nil, ok_cons, ok_tup, ok_lst, ok_val, ok_new, ok_bin, ok_un, ok_call, ok_callL, ok_test, tst_bl, ok_notT, ok_andT, ok_orT, ok_if, ok_ifS, ok_and, ok_or, ok_not, ok_mt, ok_put, ok_extend, pr2_mk, ok_par2, ok_asg, ok_for, ok_lc, ok_yes, ok_noPart, prt_int, ok_part, ok_sl, ok_gNm, ok_gTp, ok_gsN, ok_gsC, rg1_mk, rg2_mk, ok_rng1, ok_rng2, srcK_tup, srcK_ls, ok_src, finK_next, finK_ret, List.set_cons_zero, List.set_cons_succ, List.map_cons, List.map_nil, List.replicate, List.cons_append, List.nil_append, List.length_cons, List.length_nil, Bool.false_eq_true, eq_self, if_true, if_false, Nat.zero_add]
    refine ok_loop (fun j env s2 => ∃ (v9 v10 v11 v12 : Option Dv), env = [some (encC c), some (.str x), some (.str y), some (.tup (fr.map .int)), some (encS c.lots), some (.tup (c.piles.map encP)), some (.tup (c.doubts.map encS)), some (.ls ((widthsA c x y).map .int)), some (.int (partA x y fr c.piles c.piles.length + ((c.doubts.take j).map (dbtA x y)).sum)), v9, v10, v11, v12] ∧ s2 = s')
      (fun _ _ _ _ => rfl) (fun j d env s' hd h => ?_) (fun env s' h' => ?_) ⟨_, _, _, _, by rw [List.take_zero, List.map_nil, List.sum_nil, Int.add_zero], rfl⟩
    · obtain ⟨v9, v10, v11, v12, rfl, rfl⟩ := h
      have hj : j < c.doubts.length := by have := (List.getElem?_eq_some_iff.mp hd).1; rwa [List.length_map] at this
      obtain ⟨q, hq⟩ : ∃ q, c.doubts[j]? = some q := ⟨_, List.getElem?_eq_getElem hj⟩
      rw [get_map (f := encS) hq] at hd
      cases hd
      have q1 := hk.hs q (List.mem_of_getElem? hq)
      simp only [ok_ok, kDrop_ap, kRet_ap, kSet_ap, kCons2_ap, kCons_ap, kTup_ap, kLst_ap, kVal_ap, kNew_ap, kBin2_ap, kBin_ap, kUn_ap, kCall_ap, kCallL_ap, kNotT_ap, kAndT_ap, kOrT_ap, kIf_ap, kIfS_ap, kAnd_ap, kOr_ap, kNot_ap, kMt2_ap, kMt_ap, kPut4_ap, kPut3_ap, kPut2_ap, kPut_ap, kExt2_ap, kExt_ap, kAsg2_ap, kAsg_ap, kFor_ap, kLc_ap, kSl3_ap, kSl2_ap, kSl_ap, kGs_ap, ok_seq, sq_next, sq_ret, sq_brk, sq_cont, ok_nop, ok_brk, ok_cont, ok_drop, ok_ret, ok_retN, ok_set, ok_var0, ok_varS, ok_c, ok_nil, ok_cons, ok_tup, ok_lst, ok_val, ok_new, ok_bin, ok_un, ok_call, ok_callL, ok_test, tst_bl, ok_notT, ok_andT, ok_orT, ok_if, ok_ifS, ok_and, ok_or, ok_not, ok_mt, ok_put, ok_extend, pr2_mk, ok_par2, ok_asg, ok_for, ok_lc, ok_yes, ok_noPart, prt_int, ok_part, ok_sl, ok_gNm, ok_gTp, ok_gsN, ok_gsC, rg1_mk, rg2_mk, ok_rng1, ok_rng2, srcK_tup, srcK_ls, ok_src, finK_next, finK_ret, List.set_cons_zero, List.set_cons_succ, List.map_cons, List.map_nil, List.replicate, List.cons_append, List.nil_append, List.length_cons, List.length_nil, Bool.false_eq_true, eq_self, if_true, if_false, Nat.zero_add, encS]
      refine ⟨decide_eq_true (by rw [List.length_map]; omega), ?_⟩
      refine ok_mins (x := x) (y := y) ha (fun z T hT => ?_) ?_
      · simp only [ok_ok, kDrop_ap, kRet_ap, kSet_ap, kCons2_ap, kCons_ap, kTup_ap, kLst_ap, kVal_ap, kNew_ap, kBin2_ap, kBin_ap, kUn_ap, kCall_ap, kCallL_ap, kNotT_ap, kAndT_ap, kOrT_ap, kIf_ap, kIfS_ap, kAnd_ap, kOr_ap, kNot_ap, kMt2_ap, kMt_ap, kPut4_ap, kPut3_ap, kPut2_ap, kPut_ap, kExt2_ap, kExt_ap, kAsg2_ap, kAsg_ap, kFor_ap, kLc_ap, kSl3_ap, kSl2_ap, kSl_ap, kGs_ap, ok_seq, sq_next, sq_ret, sq_brk, sq_cont, ok_nop, ok_brk, ok_cont, ok_drop, ok_ret, ok_retN, ok_set, ok_var0, ok_varS, ok_c, ok_nil, ok_cons, ok_tup, ok_lst, ok_val, ok_new, ok_bin, ok_un, ok_call, ok_callL, ok_test, tst_bl, ok_notT, ok_andT, ok_orT, ok_if, ok_ifS, ok_and, ok_or, ok_not, ok_mt, ok_put, ok_extend, pr2_mk, ok_par2, ok_asg, ok_for, ok_lc, ok_yes, ok_noPart, prt_int, ok_part, ok_sl, ok_gNm, ok_gTp, ok_gsN, ok_gsC, rg1_mk, rg2_mk, ok_rng1, ok_rng2, srcK_tup, srcK_ls, ok_src, finK_next, finK_ret, List.set_cons_zero, List.set_cons_succ, List.map_cons, List.map_nil, List.replicate, List.cons_append, List.nil_append, List.length_cons, List.length_nil, Bool.false_eq_true, eq_self, if_true, if_false, Nat.zero_add, wipeZ]
        exact ha _ _ _ _ _ _ hT
      · simp only [ok_ok, kDrop_ap, kRet_ap, kSet_ap, kCons2_ap, kCons_ap, kTup_ap, kLst_ap, kVal_ap, kNew_ap, kBin2_ap, kBin_ap, kUn_ap, kCall_ap, kCallL_ap, kNotT_ap, kAndT_ap, kOrT_ap, kIf_ap, kIfS_ap, kAnd_ap, kOr_ap, kNot_ap, kMt2_ap, kMt_ap, kPut4_ap, kPut3_ap, kPut2_ap, kPut_ap, kExt2_ap, kExt_ap, kAsg2_ap, kAsg_ap, kFor_ap, kLc_ap, kSl3_ap, kSl2_ap, kSl_ap, kGs_ap, ok_seq, sq_next, sq_ret, sq_brk, sq_cont, ok_nop, ok_brk, ok_cont, ok_drop, ok_ret, ok_retN, ok_set, ok_var0, ok_varS, ok_c, ok_nil, ok_cons, ok_tup, ok_lst, ok_val, ok_new, ok_bin, ok_un, ok_call, ok_callL, ok_test, tst_bl, ok_notT, ok_andT, ok_orT, ok_if, ok_ifS, ok_and, ok_or, ok_not, ok_mt, ok_put, ok_extend, pr2_mk, ok_par2, ok_asg, ok_for, ok_lc, ok_yes, ok_noPart, prt_int, ok_part, ok_sl, ok_gNm, ok_gTp, ok_gsN, ok_gsC, rg1_mk, rg2_mk, ok_rng1, ok_rng2, srcK_tup, srcK_ls, ok_src, finK_next, finK_ret, List.set_cons_zero, List.set_cons_succ, List.map_cons, List.map_nil, List.replicate, List.cons_append, List.nil_append, List.length_cons, List.length_nil, Bool.false_eq_true, eq_self, if_true, if_false, Nat.zero_add]
        rw [min_ls (by simpa using q1.1)]
        have e9 : partA x y fr c.piles c.piles.length + ((c.doubts.take j).map (dbtA x y)).sum + minI (q.map fun z => adS z 1 x y) = partA x y fr c.piles c.piles.length + ((c.doubts.take (j + 1)).map (dbtA x y)).sum := by
          rw [sum_take_succ hq, ← Int.add_assoc]; rfl
        simp only [ok_ok, kDrop_ap, kRet_ap, kSet_ap, kCons2_ap, kCons_ap, kTup_ap, kLst_ap, kVal_ap, kNew_ap, kBin2_ap, kBin_ap, kUn_ap, kCall_ap, kCallL_ap, kNotT_ap, kAndT_ap, kOrT_ap, kIf_ap, kIfS_ap, kAnd_ap, kOr_ap, kNot_ap, kMt2_ap, kMt_ap, kPut4_ap, kPut3_ap, kPut2_ap, kPut_ap, kExt2_ap, kExt_ap, kAsg2_ap, kAsg_ap, kFor_ap, kLc_ap, kSl3_ap, kSl2_ap, kSl_ap, kGs_ap, ok_seq, sq_next, sq_ret, sq_brk, sq_cont, ok_nop, ok_brk, ok_cont, ok_drop, ok_ret, ok_retN, ok_set, ok_var0, ok_varS, ok_c, ok_nil, ok_cons, ok_tup, ok_lst, ok_val, ok_new, ok_bin, ok_un, ok_call, ok_callL, ok_test, tst_bl, ok_notT, ok_andT, ok_orT, ok_if, ok_ifS, ok_and, ok_or, ok_not, ok_mt, ok_put, ok_extend, pr2_mk, ok_par2, ok_asg, ok_for, ok_lc, ok_yes, ok_noPart, prt_int, ok_part, ok_sl, ok_gNm, ok_gTp, ok_gsN, ok_gsC, rg1_mk, rg2_mk, ok_rng1, ok_rng2, srcK_tup, srcK_ls, ok_src, finK_next, finK_ret, List.set_cons_zero, List.set_cons_succ, List.map_cons, List.map_nil, List.replicate, List.cons_append, List.nil_append, List.length_cons, List.length_nil, Bool.false_eq_true, eq_self, if_true, if_false, Nat.zero_add, Z.add_int, e9]
        exact ⟨_, _, _, _, rfl, by first | rfl | trivial⟩
    · obtain ⟨v9, v10, v11, v12, rfl, rfl⟩ := h'
      rw [List.length_map, List.take_length]
      simp only [ok_ok, kDrop_ap, kRet_ap, kSet_ap, kCons2_ap, kCons_ap, kTup_ap, kLst_ap, kVal_ap, kNew_ap, kBin2_ap, kBin_ap, kUn_ap, kCall_ap, kCallL_ap, kNotT_ap, kAndT_ap, kOrT_ap, kIf_ap, kIfS_ap, kAnd_ap, kOr_ap, kNot_ap, kMt2_ap, kMt_ap, kPut4_ap, kPut3_ap, kPut2_ap, kPut_ap, kExt2_ap, kExt_ap, kAsg2_ap, kAsg_ap, kFor_ap, kLc_ap, kSl3_ap, kSl2_ap, kSl_ap, kGs_ap, ok_seq, sq_next, sq_ret, sq_brk, sq_cont, ok_nop, ok_brk, ok_cont, ok_drop, ok_ret, ok_retN, ok_set, ok_var0, ok_varS, ok_c, ok_nil, ok_cons, ok_tup, ok_lst, ok_val, ok_new, ok_bin, ok_un, ok_call, ok_callL, ok_test, tst_bl, ok_notT, ok_andT, ok_orT, ok_if, ok_ifS, ok_and, ok_or, ok_not, ok_mt, ok_put, ok_extend, pr2_mk, ok_par2, ok_asg, ok_for, ok_lc, ok_yes, ok_noPart, prt_int, ok_part, ok_sl, ok_gNm, ok_gTp, ok_gsN, ok_gsC, rg1_mk, rg2_mk, ok_rng1, ok_rng2, srcK_tup, srcK_ls, ok_src, finK_next, finK_ret, List.set_cons_zero, List.set_cons_succ, List.map_cons, List.map_nil, List.replicate, List.cons_append, List.nil_append, List.length_cons, List.length_nil, Bool.false_eq_true, eq_self, if_true, if_false, Nat.zero_add]
      refine ok_indexT rfl rfl hk.hx ?_
      simp only [ok_ok, kDrop_ap, kRet_ap, kSet_ap, kCons2_ap, kCons_ap, kTup_ap, kLst_ap, kVal_ap, kNew_ap, kBin2_ap, kBin_ap, kUn_ap, kCall_ap, kCallL_ap, kNotT_ap, kAndT_ap, kOrT_ap, kIf_ap, kIfS_ap, kAnd_ap, kOr_ap, kNot_ap, kMt2_ap, kMt_ap, kPut4_ap, kPut3_ap, kPut2_ap, kPut_ap, kExt2_ap, kExt_ap, kAsg2_ap, kAsg_ap, kFor_ap, kLc_ap, kSl3_ap, kSl2_ap, kSl_ap, kGs_ap, ok_seq, sq_next, sq_ret, sq_brk, sq_cont, ok_nop, ok_brk, ok_cont, ok_drop, ok_ret, ok_retN, ok_set, ok_var0, ok_varS, ok_c, ok_nil, ok_cons, ok_tup, ok_lst, ok_val, ok_new, ok_bin, ok_un, ok_call, ok_callL, ok_test, tst_bl, ok_notT, ok_andT, ok_orT, ok_if, ok_ifS, ok_and, ok_or, ok_not, ok_mt, ok_put, ok_extend, pr2_mk, ok_par2, ok_asg, ok_for, ok_lc, ok_yes, ok_noPart, prt_int, ok_part, ok_sl, ok_gNm, ok_gTp, ok_gsN, ok_gsC, rg1_mk, rg2_mk, ok_rng1, ok_rng2, srcK_tup, srcK_ls, ok_src, finK_next, finK_ret, List.set_cons_zero, List.set_cons_succ, List.map_cons, List.map_nil, List.replicate, List.cons_append, List.nil_append, List.length_cons, List.length_nil, Bool.false_eq_true, eq_self, if_true, if_false, Nat.zero_add]
      refine ok_indexT rfl rfl hk.hy ?_
      have hne := idx_ne hk.hx hk.hy hxy
      simp only [ok_ok, kDrop_ap, kRet_ap, kSet_ap, kCons2_ap, kCons_ap, kTup_ap, kLst_ap, kVal_ap, kNew_ap, kBin2_ap, kBin_ap, kUn_ap, kCall_ap, kCallL_ap, kNotT_ap, kAndT_ap, kOrT_ap, kIf_ap, kIfS_ap, kAnd_ap, kOr_ap, kNot_ap, kMt2_ap, kMt_ap, kPut4_ap, kPut3_ap, kPut2_ap, kPut_ap, kExt2_ap, kExt_ap, kAsg2_ap, kAsg_ap, kFor_ap, kLc_ap, kSl3_ap, kSl2_ap, kSl_ap, kGs_ap, ok_seq, sq_next, sq_ret, sq_brk, sq_cont, ok_nop, ok_brk, ok_cont, ok_drop, ok_ret, ok_retN, ok_set, ok_var0, ok_varS, ok_c, ok_nil, ok_cons, ok_tup, ok_lst, ok_val, ok_new, ok_bin, ok_un, ok_call, ok_callL, ok_test, tst_bl, ok_notT, ok_andT, ok_orT, ok_if, ok_ifS, ok_and, ok_or, ok_not, ok_mt, ok_put, ok_extend, pr2_mk, ok_par2, ok_asg, ok_for, ok_lc, ok_yes, ok_noPart, prt_int, ok_part, ok_sl, ok_gNm, ok_gTp, ok_gsN, ok_gsC, rg1_mk, rg2_mk, ok_rng1, ok_rng2, srcK_tup, srcK_ls, ok_src, finK_next, finK_ret, List.set_cons_zero, List.set_cons_succ, List.map_cons, List.map_nil, List.replicate, List.cons_append, List.nil_append, List.length_cons, List.length_nil, Bool.false_eq_true, eq_self, if_true, if_false, Nat.zero_add, lt_int]
      unfold lackA at h
      by_cases hlt : idxN c.lots y < idxN c.lots x
      · have e1 : decide (((idxN c.lots x : Nat) : Int) < ((idxN c.lots y : Nat) : Int)) = false := decide_eq_false (by omega)
        rw [e1]
        rw [decide_eq_true hlt, if_pos rfl, Int.add_comm] at h
        simp only [ok_ok, kDrop_ap, kRet_ap, kSet_ap, kCons2_ap, kCons_ap, kTup_ap, kLst_ap, kVal_ap, kNew_ap, kBin2_ap, kBin_ap, kUn_ap, kCall_ap, kCallL_ap, kNotT_ap, kAndT_ap, kOrT_ap, kIf_ap, kIfS_ap, kAnd_ap, kOr_ap, kNot_ap, kMt2_ap, kMt_ap, kPut4_ap, kPut3_ap, kPut2_ap, kPut_ap, kExt2_ap, kExt_ap, kAsg2_ap, kAsg_ap, kFor_ap, kLc_ap, kSl3_ap, kSl2_ap, kSl_ap, kGs_ap, ok_seq, sq_next, sq_ret, sq_brk, sq_cont, ok_nop, ok_brk, ok_cont, ok_drop, ok_ret, ok_retN, ok_set, ok_var0, ok_varS, ok_c, ok_nil, ok_cons, ok_tup, ok_lst, ok_val, ok_new, ok_bin, ok_un, ok_call, ok_callL, ok_test, tst_bl, ok_notT, ok_andT, ok_orT, ok_if, ok_ifS, ok_and, ok_or, ok_not, ok_mt, ok_put, ok_extend, pr2_mk, ok_par2, ok_asg, ok_for, ok_lc, ok_yes, ok_noPart, prt_int, ok_part, ok_sl, ok_gNm, ok_gTp, ok_gsN, ok_gsC, rg1_mk, rg2_mk, ok_rng1, ok_rng2, srcK_tup, srcK_ls, ok_src, finK_next, finK_ret, List.set_cons_zero, List.set_cons_succ, List.map_cons, List.map_nil, List.replicate, List.cons_append, List.nil_append, List.length_cons, List.length_nil, Bool.false_eq_true, eq_self, if_true, if_false, Nat.zero_add, sub_int, two_ok]
        exact fin_any (fun n => nofun) h
      · have e1 : decide (((idxN c.lots x : Nat) : Int) < ((idxN c.lots y : Nat) : Int)) = true := decide_eq_true (by omega)
        rw [e1]
        rw [decide_eq_false hlt, if_neg Bool.false_ne_true, Int.add_comm] at h
        simp only [ok_ok, kDrop_ap, kRet_ap, kSet_ap, kCons2_ap, kCons_ap, kTup_ap, kLst_ap, kVal_ap, kNew_ap, kBin2_ap, kBin_ap, kUn_ap, kCall_ap, kCallL_ap, kNotT_ap, kAndT_ap, kOrT_ap, kIf_ap, kIfS_ap, kAnd_ap, kOr_ap, kNot_ap, kMt2_ap, kMt_ap, kPut4_ap, kPut3_ap, kPut2_ap, kPut_ap, kExt2_ap, kExt_ap, kAsg2_ap, kAsg_ap, kFor_ap, kLc_ap, kSl3_ap, kSl2_ap, kSl_ap, kGs_ap, ok_seq, sq_next, sq_ret, sq_brk, sq_cont, ok_nop, ok_brk, ok_cont, ok_drop, ok_ret, ok_retN, ok_set, ok_var0, ok_varS, ok_c, ok_nil, ok_cons, ok_tup, ok_lst, ok_val, ok_new, ok_bin, ok_un, ok_call, ok_callL, ok_test, tst_bl, ok_notT, ok_andT, ok_orT, ok_if, ok_ifS, ok_and, ok_or, ok_not, ok_mt, ok_put, ok_extend, pr2_mk, ok_par2, ok_asg, ok_for, ok_lc, ok_yes, ok_noPart, prt_int, ok_part, ok_sl, ok_gNm, ok_gTp, ok_gsN, ok_gsC, rg1_mk, rg2_mk, ok_rng1, ok_rng2, srcK_tup, srcK_ls, ok_src, finK_next, finK_ret, List.set_cons_zero, List.set_cons_succ, List.map_cons, List.map_nil, List.replicate, List.cons_append, List.nil_append, List.length_cons, List.length_nil, Bool.false_eq_true, eq_self, if_true, if_false, Nat.zero_add, sub_int, two_ok]
        exact fin_any (fun n => nofun) h
end Z

/-! # The widths (37): how great the numbers can be -/
namespace Z
open PySem PySem.Spec L2
theorem minI_mem : ∀ {zs : List Int}, zs ≠ [] → minI zs ∈ zs
  | [], h => absurd rfl h
  | n :: r, _ => (fold_ext (fun a b => decide (a ≤ b)) (fun a => decide_eq_true (Int.le_refl a)) (fun a b c h1 h2 => decide_eq_true (Int.le_trans (of_decide_eq_true h1) (of_decide_eq_true h2)))
      (fun a b h => decide_eq_true (by have := of_decide_eq_false h; omega)) r n).1
theorem adS_bd (a : Str) (m : Int) (x y : Str) : (adS a m x y).natAbs ≤ m.natAbs := by
  unfold adS
  rw [Int.natAbs_mul]
  have : ∀ b c : Bool, ((if b = true then (1 : Int) else 0) - (if c = true then 1 else 0)).natAbs ≤ 1 := by decide
  exact Nat.le_trans (Nat.mul_le_mul_left _ (this _ _)) (Nat.le_of_eq (Nat.mul_one _))
theorem dbt_bd {x y : Str} {d : List Str} (h : d ≠ []) : (dbtA x y d).natAbs ≤ 1 := by
  have := minI_mem (zs := d.map fun z => adS z 1 x y) (by simpa using h)
  obtain ⟨z, _, e⟩ := List.mem_map.mp this
  show (minI _).natAbs ≤ 1
  rw [← e]
  exact adS_bd z 1 x y
theorem leastA_bd {lots : List Str} {p : Pil} (h : PilOk lots p) (x y : Str) : (leastA p x y).natAbs ≤ 1010000 := by
  have := minI_mem (duos_ne p x y p.name p.others)
  obtain ⟨o, _, h2⟩ := List.mem_flatMap.mp this
  have a1 := h.many0; have a2 := h.many1; have a3 := h.slip0; have a4 := h.slip1
  show (minI _).natAbs ≤ _
  rcases List.mem_cons.mp h2 with e | e
  · rw [e]
    refine Nat.le_trans (adS_bd _ _ _ _) ?_
    unfold loH; split <;> omega
  · rw [List.mem_singleton.mp e]
    refine Nat.le_trans (adS_bd _ _ _ _) ?_
    omega
theorem wide_bd {lots : List Str} {p : Pil} (h : PilOk lots p) (x y : Str) : (wideA x y p).natAbs ≤ 2010000 := by
  have a := adS_bd p.name p.many x y
  have b := leastA_bd h x y
  have a1 := h.many0; have a2 := h.many1
  unfold wideA; omega
theorem term_bd {lots : List Str} {p : Pil} (h : PilOk lots p) (x y : Str) (fr : List Int) (i : Nat) : (termA x y fr i p).natAbs ≤ 1010000 := by
  have a := adS_bd p.name p.many x y
  have b := leastA_bd h x y
  have a1 := h.many0; have a2 := h.many1
  unfold termA; split <;> omega
theorem part_bd {lots : List Str} {ps : List Pil} (h : ∀ p ∈ ps, PilOk lots p) (x y : Str) (fr : List Int) : ∀ i : Nat, (partA x y fr ps i).natAbs ≤ i * 1010000
  | 0 => Nat.le_refl _
  | i + 1 => by
    have ih := part_bd h x y fr i
    rw [partA]
    cases e : ps[i]? with
    | none => show (_ + (0 : Int)).natAbs ≤ _; omega
    | some p =>
      have t := term_bd (h p (List.mem_of_getElem? e)) x y fr i
      show (_ + termA x y fr i p).natAbs ≤ _
      omega
theorem sum_bd {ds : List (List Str)} (h : ∀ d ∈ ds, d ≠ []) (x y : Str) : ((ds.map (dbtA x y)).sum).natAbs ≤ ds.length := by
  induction ds with
  | nil => exact Nat.le_refl _
  | cons d r ih =>
    have a := dbt_bd (x := x) (y := y) (h d List.mem_cons_self)
    have b := ih fun d hd => h d (List.mem_cons_of_mem _ hd)
    rw [List.map_cons, List.sum_cons, List.length_cons]
    omega
theorem lackOk_of {c : Cnt} (hc : CntOk c) {x y : Str} (hx : x ∈ c.lots) (hy : y ∈ c.lots) : LackOk c x y :=
  ⟨hx, hy, fun p hp => by
    rcases (hc.piles p hp).others with q | ⟨ws, q, h1, _, h3⟩
    · rw [q]; exact Nat.zero_le _
    · rw [q, srtS_len]; omega, by have := hc.npiles; omega, by have := hc.ndoubts; omega, fun d hd => by
    have := hc.dbt hd
    refine ⟨fun z => ?_, by omega⟩
    rw [z] at this; exact absurd this.1 (by decide)⟩
theorem lack_bd {c : Cnt} (hc : CntOk c) (x y : Str) (fr : List Int) : (lackA c x y fr).natAbs < 10 ^ 12 := by
  have a := part_bd hc.piles x y fr c.piles.length
  have b := sum_bd (ds := c.doubts) (fun d hd z => by
    have := hc.dbt hd
    rw [z] at this; exact absurd this.1 (by decide)) x y
  have n1 := hc.npiles
  have n2 := hc.ndoubts
  unfold lackA
  generalize partA x y fr c.piles c.piles.length = P at a
  generalize (c.doubts.map (dbtA x y)).sum = D at b
  dsimp only
  split <;> split <;> omega
theorem repr_lack {c : Cnt} (hc : CntOk c) {x y : Str} {f1 f2 : List Int} {s : Sto} : gRepr [.ls [.int (lackA c x y f1), .int (lackA c x y f2)]] s = .ok (.str (pd (.ls [.int (lackA c x y f1), .int (lackA c x y f2)])).shown) s := by
  refine repr_gd (n := 3) (gd_ints (zs := [lackA c x y f1, lackA c x y f2]) fun z hz => ?_) (by decide) (by show 41 + 1 + (41 + 1 + 0) ≤ 2 ^ 20; decide)
  rcases List.mem_cons.mp hz with e | e
  · rw [e]; exact lack_bd hc x y f1
  · rw [List.mem_singleton.mp e]; exact lack_bd hc x y f2
theorem repr_int {i : Int} {s : Sto} (h : i.natAbs < 10 ^ 12) : gRepr [.int i] s = .ok (.str (pd (.int i)).shown) s :=
  repr_gd (n := 1) (by show decide (i.natAbs < 10 ^ 12) = true; exact decide_eq_true h) (by decide) (by show 41 ≤ _; decide)
theorem repr_cf {c : Cnt} (hc : CntOk c) {fr : List Int} (h : ∀ k ∈ fr, 0 ≤ k ∧ k < c.piles.length) (hl : fr.length ≤ c.piles.length) {s : Sto} : gRepr [.tup [encC c, .tup (fr.map .int)]] s = .ok (.str (pd (.tup [encC c, .tup (fr.map .int)])).shown) s := by
  have np := hc.npiles
  refine repr_gd (n := 6) ?_ (by decide) ?_
  · show (gd 5 (encC c) && (gd 5 (.tup (fr.map .int)) && true)) = true
    rw [gd_encC (n := 0) hc]
    have : gds 4 (fr.map .int) = true := gds_map fun z hz => by
      have := h z hz
      simp only [gd, decide_eq_true_eq]; omega
    show (gds 4 (fr.map .int) && true) = true
    rw [this]; rfl
  · have h1 := wd_encC hc
    have h2 := wds_map (f := Dv.int) (c := 41) (xs := fr) fun _ _ => Nat.le_refl _
    show wd (encC c) + 1 + (wds (fr.map .int) + 1 + 0) ≤ _
    omega
end Z

namespace Lwk37
open PySem PySem.Spec PyProof.Rows L2 Z
def topS (i : Nat) : Stmt := PySem.Challenge.pw_countbundles_k37_widths.main.body.getD i (.Pass ⟨0, 0, 0, 0⟩)
def bs : List Str := ["len", "int", "max", "min", "sum", "enumerate", "range", "tuple", "sorted", "repr"]
/-! ### ask_name -/
def nm5 : List (Str × NameKind) := [("count", .local), ("name", .local), ("NoName", .globalImplicit)]
def N5 : List Str := ["count", "name"]
theorem sc5 : FnScope N5 ["count", "name"] (defScope (topS 5)) := ⟨rfl, rfl, rfl, by decide +kernel, rfl, by decide +kernel, by decide +kernel⟩
def b5 : Fn Ct :=
  fIfS (fTest (fBin gNotIn (fVar 1) (fBin gIx (fVar 0) (fC (.int 0))))) (fNever) (fNop)
def φ5 : Phi := fDef 2 2 b5
theorem zb5 {G : Gz} {X : Cx} (c : Cz G bs 5 X N5 nm5 (fun _ => true)) : ZB X (defBody (topS 5)) b5 :=
  z_sone (z_ifS (z_notinT c (z_var c (by decide +kernel)) (z_ix c (z_var c (by decide +kernel)) (z_int))) (z_sone (z_never)) (z_snil))
/-! ### ask_pile -/
def nm6 : List (Str × NameKind) := [("count", .local), ("pile", .local), ("len", .globalImplicit), ("NoPile", .globalImplicit)]
def N6 : List Str := ["count", "pile"]
theorem sc6 : FnScope N6 ["count", "pile"] (defScope (topS 6)) := ⟨rfl, rfl, rfl, by decide +kernel, rfl, by decide +kernel, by decide +kernel⟩
def b6 : Fn Ct :=
  fIfS (fNotT (fTest (fChain gLe gLt (fC (.int 0)) (fVar 1) (fCall gLen (fCons (fBin gIx (fVar 0) (fC (.int 1))) (fNil)))))) (fNever) (fNop)
def φ6 : Phi := fDef 2 2 b6
theorem zb6 {G : Gz} {X : Cx} (c : Cz G bs 6 X N6 nm6 (fun _ => true)) : ZB X (defBody (topS 6)) b6 :=
  z_sone (z_ifS (z_notT (z_chainT or_le or_lt oz_ord oz_ord (z_int) (z_var c (by decide +kernel)) (z_len c (z_cons (z_ix c (z_var c (by decide +kernel)) (z_int)) (z_nil))))) (z_sone (z_never)) (z_snil))
/-! ### adds -/
def nm7 : List (Str × NameKind) := [("name", .local), ("number", .local), ("one", .local), ("other", .local), ("int", .globalImplicit)]
def N7 : List Str := ["name", "number", "one", "other"]
theorem sc7 : FnScope N7 ["name", "number", "one", "other"] (defScope (topS 7)) := ⟨rfl, rfl, rfl, by decide +kernel, rfl, by decide +kernel, by decide +kernel⟩
def b7 : Fn Ct :=
  fRet (fBin gMul (fVar 1) (fBin gSub (fCall gToInt (fCons (fBin gEq (fVar 0) (fVar 2)) (fNil))) (fCall gToInt (fCons (fBin gEq (fVar 0) (fVar 3)) (fNil)))))
def φ7 : Phi := fDef 4 4 b7
theorem zb7 {G : Gz} {X : Cx} (c : Cz G bs 7 X N7 nm7 (fun _ => true)) : ZB X (defBody (topS 7)) b7 :=
  z_sone (z_ret (z_mul (z_var c (by decide +kernel)) (z_sub (z_toint c (z_cons (z_eq c (z_var c (by decide +kernel)) (z_var c (by decide +kernel))) (z_nil))) (z_toint c (z_cons (z_eq c (z_var c (by decide +kernel)) (z_var c (by decide +kernel))) (z_nil))))))
/-! ### told_adds -/
def nm8 : List (Str × NameKind) := [("row", .local), ("one", .local), ("other", .local), ("adds", .globalImplicit)]
def N8 : List Str := ["row", "one", "other"]
theorem sc8 : FnScope N8 ["row", "one", "other"] (defScope (topS 8)) := ⟨rfl, rfl, rfl, by decide +kernel, rfl, by decide +kernel, by decide +kernel⟩
def b8 : Fn Ct :=
  fRet (fCall φ7 (fCons (fBin gIx (fVar 0) (fC (.int 0))) (fCons (fBin gIx (fVar 0) (fC (.int 1))) (fCons (fVar 1) (fCons (fVar 2) (fNil))))))
def φ8 : Phi := fDef 3 3 b8
theorem zb8 {G : Gz} {X : Cx} (F7 : Fz G 8 "adds" 4 φ7) (c : Cz G bs 8 X N8 nm8 (fun _ => true)) : ZB X (defBody (topS 8)) b8 :=
  z_sone (z_ret (z_call c F7 (z_cons (z_ix c (z_var c (by decide +kernel)) (z_int)) (z_cons (z_ix c (z_var c (by decide +kernel)) (z_int)) (z_cons (z_var c (by decide +kernel)) (z_cons (z_var c (by decide +kernel)) (z_nil)))))))
/-! ### least_adds -/
def nm9 : List (Str × NameKind) := [("row", .local), ("one", .local), ("other", .local), ("name", .local), ("many", .local), ("slip", .local), ("others", .local), ("found", .local), ("own", .local), ("adds", .globalImplicit), ("max", .globalImplicit), ("min", .globalImplicit)]
def N9 : List Str := ["row", "one", "other", "name", "many", "slip", "others", "found", "own"]
theorem sc9 : FnScope N9 ["row", "one", "other"] (defScope (topS 9)) := ⟨rfl, rfl, rfl, by decide +kernel, rfl, by decide +kernel, by decide +kernel⟩
def b9 : Fn Ct :=
  fSeq (fAsg (fVar 0) (gTp 4 (gsCons (gNm 3) (gsCons (gNm 4) (gsCons (gNm 5) (gsCons (gNm 6) (gsNil)))))))
  (fSeq (fSet 7 (fNew (fLst (fNil))))
  (fSeq (fFor (fSrc (fBin gAdd (fTup (fCons (fVar 3) (fNil))) (fVar 6))) (gNm 8) (fSeq (fDrop (fMt isL gAppend (fVar 7) (fCons (fCall φ7 (fCons (fVar 8) (fCons (fCall (gTwo fun i j => if j > i then j else i) (fCons (fC (.int 0)) (fCons (fBin gSub (fVar 4) (fVar 5)) (fNil)))) (fCons (fVar 1) (fCons (fVar 2) (fNil)))))) (fNil))))
  (fDrop (fMt isL gAppend (fVar 7) (fCons (fCall φ7 (fCons (fVar 8) (fCons (fBin gAdd (fVar 4) (fVar 5)) (fCons (fVar 1) (fCons (fVar 2) (fNil)))))) (fNil))))))
  (fRet (fCall (gExt1 fun a b => decide (a ≤ b)) (fCons (fVar 7) (fNil))))))
def φ9 : Phi := fDef 3 9 b9
theorem zb9 {G : Gz} {X : Cx} (F7 : Fz G 9 "adds" 4 φ7) (c : Cz G bs 9 X N9 nm9 (fun _ => true)) : ZB X (defBody (topS 9)) b9 :=
  z_cons2 (z_asg (z_var c (by decide +kernel)) (zg_tup c (zgs_cons (zg_name c (by decide +kernel)) (zgs_cons (zg_name c (by decide +kernel)) (zgs_cons (zg_name c (by decide +kernel)) (zgs_cons (zg_name c (by decide +kernel)) (zgs_nil)))))))
  (z_cons2 (z_set c (by decide +kernel) (z_new (z_lst (z_nil))) (hs := c.sW.trans rfl))
  (z_cons2 (z_for (q := false) c (zi_seq (z_add (z_tup (z_cons (z_var c (by decide +kernel)) (z_nil))) (z_var c (by decide +kernel)))) (zg_name c (by decide +kernel)) (z_cons2 (z_expr (z_append (z_var c (by decide +kernel)) (z_cons (z_call c F7 (z_cons (z_var c (by decide +kernel)) (z_cons (z_max2 c (z_cons (z_int) (z_cons (z_sub (z_var c (by decide +kernel)) (z_var c (by decide +kernel))) (z_nil)))) (z_cons (z_var c (by decide +kernel)) (z_cons (z_var c (by decide +kernel)) (z_nil)))))) (z_nil))) (hs := c.sW.trans rfl))
  (z_sone (z_expr (z_append (z_var c (by decide +kernel)) (z_cons (z_call c F7 (z_cons (z_var c (by decide +kernel)) (z_cons (z_add (z_var c (by decide +kernel)) (z_var c (by decide +kernel))) (z_cons (z_var c (by decide +kernel)) (z_cons (z_var c (by decide +kernel)) (z_nil)))))) (z_nil))) (hs := c.sW.trans rfl)))))
  (z_sone (z_ret (z_min1 c (z_cons (z_var c (by decide +kernel)) (z_nil)))))))
/-! ### pile_wide -/
def nm10 : List (Str × NameKind) := [("row", .local), ("one", .local), ("other", .local), ("told_adds", .globalImplicit), ("least_adds", .globalImplicit)]
def N10 : List Str := ["row", "one", "other"]
theorem sc10 : FnScope N10 ["row", "one", "other"] (defScope (topS 10)) := ⟨rfl, rfl, rfl, by decide +kernel, rfl, by decide +kernel, by decide +kernel⟩
def b10 : Fn Ct :=
  fRet (fBin gSub (fCall φ8 (fCons (fVar 0) (fCons (fVar 1) (fCons (fVar 2) (fNil))))) (fCall φ9 (fCons (fVar 0) (fCons (fVar 1) (fCons (fVar 2) (fNil))))))
def φ10 : Phi := fDef 3 3 b10
theorem zb10 {G : Gz} {X : Cx} (F8 : Fz G 10 "told_adds" 3 φ8) (F9 : Fz G 10 "least_adds" 3 φ9) (c : Cz G bs 10 X N10 nm10 (fun _ => true)) : ZB X (defBody (topS 10)) b10 :=
  z_sone (z_ret (z_sub (z_call c F8 (z_cons (z_var c (by decide +kernel)) (z_cons (z_var c (by decide +kernel)) (z_cons (z_var c (by decide +kernel)) (z_nil))))) (z_call c F9 (z_cons (z_var c (by decide +kernel)) (z_cons (z_var c (by decide +kernel)) (z_cons (z_var c (by decide +kernel)) (z_nil)))))))
/-! ### width -/
def nm11 : List (Str × NameKind) := [("count", .local), ("pile", .local), ("one", .local), ("other", .local), ("name", .local), ("ask_pile", .globalImplicit), ("ask_name", .globalImplicit), ("pile_wide", .globalImplicit)]
def N11 : List Str := ["count", "pile", "one", "other", "name"]
theorem sc11 : FnScope N11 ["count", "pile", "one", "other"] (defScope (topS 11)) := ⟨rfl, rfl, rfl, by decide +kernel, rfl, by decide +kernel, by decide +kernel⟩
def b11 : Fn Ct :=
  fSeq (fDrop (fCall φ6 (fCons (fVar 0) (fCons (fVar 1) (fNil)))))
  (fSeq (fFor (fSrc (fTup (fCons (fVar 2) (fCons (fVar 3) (fNil))))) (gNm 4) (fDrop (fCall φ5 (fCons (fVar 0) (fCons (fVar 4) (fNil))))))
  (fRet (fCall φ10 (fCons (fBin gIx (fBin gIx (fVar 0) (fC (.int 1))) (fVar 1)) (fCons (fVar 2) (fCons (fVar 3) (fNil)))))))
def φ11 : Phi := fDef 4 5 b11
theorem zb11 {G : Gz} {X : Cx} (F6 : Fz G 11 "ask_pile" 2 φ6) (F5 : Fz G 11 "ask_name" 2 φ5) (F10 : Fz G 11 "pile_wide" 3 φ10) (c : Cz G bs 11 X N11 nm11 (fun _ => true)) : ZB X (defBody (topS 11)) b11 :=
  z_cons2 (z_expr (z_call c F6 (z_cons (z_var c (by decide +kernel)) (z_cons (z_var c (by decide +kernel)) (z_nil)))) (hs := c.sW.trans rfl))
  (z_cons2 (z_for (q := false) c (zi_seq (z_tup (z_cons (z_var c (by decide +kernel)) (z_cons (z_var c (by decide +kernel)) (z_nil))))) (zg_name c (by decide +kernel)) (z_sone (z_expr (z_call c F5 (z_cons (z_var c (by decide +kernel)) (z_cons (z_var c (by decide +kernel)) (z_nil)))) (hs := c.sW.trans rfl))))
  (z_sone (z_ret (z_call c F10 (z_cons (z_ix c (z_ix c (z_var c (by decide +kernel)) (z_int)) (z_var c (by decide +kernel))) (z_cons (z_var c (by decide +kernel)) (z_cons (z_var c (by decide +kernel)) (z_nil))))))))
/-! ### lacking -/
def nm12 : List (Str × NameKind) := [("count", .local), ("one", .cell), ("other", .cell), ("free", .local), ("lots", .local), ("piles", .local), ("doubts", .local), ("least", .local), ("k", .local), ("row", .local), ("sum", .globalImplicit), ("enumerate", .globalImplicit), ("told_adds", .globalImplicit), ("least_adds", .globalImplicit), ("max", .globalImplicit), ("int", .globalImplicit)]
def N12 : List Str := ["count", "one", "other", "free", "lots", "piles", "doubts", "least", "k", "row", "names", "name"]
theorem sc12 : FnScope N12 ["count", "one", "other", "free"] (defScope (topS 12)) := ⟨rfl, rfl, rfl, by decide +kernel, rfl, by decide +kernel, by decide +kernel⟩
def b12 : Fn Ct :=
  fSeq (fAsg (fVar 0) (gTp 3 (gsCons (gNm 4) (gsCons (gNm 5) (gsCons (gNm 6) (gsNil))))))
  (fSeq (fSet 7 (fCall gSum (fCons (fVal (fLc (fSrc (fVar 6)) [10] (gNm 10) (fYes) (fCall (gExt1 fun a b => decide (a ≤ b)) (fCons (fVal (fLc (fSrc (fVar 10)) [11] (gNm 11) (fYes) (fCall φ7 (fCons (fVar 11) (fCons (fC (.int 1)) (fCons (fVar 1) (fCons (fVar 2) (fNil)))))))) (fNil))))) (fNil))))
  (fSeq (fFor (fEnum (fCons (fVar 5) (fNil))) (gTp 2 (gsCons (gNm 8) (gsCons (gNm 9) (gsNil)))) (fSet 7 (fBin gAdd (fVar 7) (fIf (fTest (fBin gIn (fVar 8) (fVar 3))) (fCall φ8 (fCons (fVar 9) (fCons (fVar 1) (fCons (fVar 2) (fNil))))) (fCall φ9 (fCons (fVar 9) (fCons (fVar 1) (fCons (fVar 2) (fNil)))))))))
  (fRet (fCall (gTwo fun i j => if j > i then j else i) (fCons (fC (.int 0)) (fCons (fBin gSub (fCall gToInt (fCons (fBin gGt (fIndex (fVar 4) (fCons (fVar 1) (fNil))) (fIndex (fVar 4) (fCons (fVar 2) (fNil)))) (fNil))) (fVar 7)) (fNil)))))))
def φ12 : Phi := fDef 4 12 b12
theorem zb12 {G : Gz} {X : Cx} (F7 : Fz G 12 "adds" 4 φ7) (F8 : Fz G 12 "told_adds" 3 φ8) (F9 : Fz G 12 "least_adds" 3 φ9) (c : Cz G bs 12 X N12 nm12 (fun _ => true)) : ZB X (defBody (topS 12)) b12 :=
  z_cons2 (z_asg (z_var c (by decide +kernel)) (zg_tup c (zgs_cons (zg_name c (by decide +kernel)) (zgs_cons (zg_name c (by decide +kernel)) (zgs_cons (zg_name c (by decide +kernel)) (zgs_nil))))))
  (z_cons2 (z_set c (by decide +kernel) (z_sum c (z_cons (z_val (z_lc (q := false) c [("names", 10)] (zi_seq (z_var c (by decide +kernel))) (fun Xc1 c1 => ⟨zg_name c1 (by decide +kernel), zts_nil, z_min1 c1 (z_cons (z_val (z_lc (q := false) c1 [("name", 11)] (zi_seq (z_var c1 (by decide +kernel))) (fun Xc2 c2 => ⟨zg_name c2 (by decide +kernel), zts_nil, z_call c2 F7 (z_cons (z_var c2 (by decide +kernel)) (z_cons (z_int) (z_cons (z_var c2 (by decide +kernel)) (z_cons (z_var c2 (by decide +kernel)) (z_nil)))))⟩))) (z_nil))⟩))) (z_nil))) (hs := c.sW.trans rfl))
  (z_cons2 (z_for (q := true) c (zi_enum c (z_cons (z_var c (by decide +kernel)) (z_nil))) (zg_tup c (zgs_cons (zg_name c (by decide +kernel)) (zgs_cons (zg_name c (by decide +kernel)) (zgs_nil)))) (z_sone (z_set c (by decide +kernel) (z_add (z_var c (by decide +kernel)) (z_if (z_inT c (z_var c (by decide +kernel)) (z_var c (by decide +kernel))) (z_call c F8 (z_cons (z_var c (by decide +kernel)) (z_cons (z_var c (by decide +kernel)) (z_cons (z_var c (by decide +kernel)) (z_nil))))) (z_call c F9 (z_cons (z_var c (by decide +kernel)) (z_cons (z_var c (by decide +kernel)) (z_cons (z_var c (by decide +kernel)) (z_nil))))))) (hs := c.sW.trans rfl))))
  (z_sone (z_ret (z_max2 c (z_cons (z_int) (z_cons (z_sub (z_toint c (z_cons (z_gt c (z_index (z_var c (by decide +kernel)) (z_cons (z_var c (by decide +kernel)) (z_nil))) (z_index (z_var c (by decide +kernel)) (z_cons (z_var c (by decide +kernel)) (z_nil)))) (z_nil))) (z_var c (by decide +kernel))) (z_nil))))))))
/-! ### all_free -/
def nm13 : List (Str × NameKind) := [("count", .local), ("free", .local), ("found", .local), ("pile", .local), ("ask_pile", .globalImplicit)]
def N13 : List Str := ["count", "free", "found", "pile"]
theorem sc13 : FnScope N13 ["count", "free"] (defScope (topS 13)) := ⟨rfl, rfl, rfl, by decide +kernel, rfl, by decide +kernel, by decide +kernel⟩
def b13 : Fn Ct :=
  fSeq (fSet 2 (fIf (fTest (fBin gIs (fVar 1) (fC .non))) (fTup (fNil)) (fVar 1)))
  (fSeq (fFor (fSrc (fVar 2)) (gNm 3) (fDrop (fCall φ6 (fCons (fVar 0) (fCons (fVar 3) (fNil))))))
  (fRet (fVar 2)))
def φ13 : Phi := fDef 2 4 b13
theorem zb13 {G : Gz} {X : Cx} (F6 : Fz G 13 "ask_pile" 2 φ6) (c : Cz G bs 13 X N13 nm13 (fun _ => true)) : ZB X (defBody (topS 13)) b13 :=
  z_cons2 (z_set c (by decide +kernel) (z_if (z_isT c (z_var c (by decide +kernel)) (z_non)) (z_tup (z_nil)) (z_var c (by decide +kernel))) (hs := c.sW.trans rfl))
  (z_cons2 (z_for (q := false) c (zi_seq (z_var c (by decide +kernel))) (zg_name c (by decide +kernel)) (z_sone (z_expr (z_call c F6 (z_cons (z_var c (by decide +kernel)) (z_cons (z_var c (by decide +kernel)) (z_nil)))) (hs := c.sW.trans rfl))))
  (z_sone (z_ret (z_var c (by decide +kernel)))))
/-! ### lack -/
def nm14 : List (Str × NameKind) := [("count", .local), ("one", .local), ("other", .local), ("free", .local), ("name", .local), ("ask_name", .globalImplicit), ("lacking", .globalImplicit), ("all_free", .globalImplicit)]
def N14 : List Str := ["count", "one", "other", "free", "name"]
theorem sc14 : FnScope N14 ["count", "one", "other", "free"] (defScope (topS 14)) := ⟨rfl, rfl, rfl, by decide +kernel, rfl, by decide +kernel, by decide +kernel⟩
def b14 : Fn Ct :=
  fSeq (fFor (fSrc (fTup (fCons (fVar 1) (fCons (fVar 2) (fNil))))) (gNm 4) (fDrop (fCall φ5 (fCons (fVar 0) (fCons (fVar 4) (fNil))))))
  (fRet (fCall φ12 (fCons (fVar 0) (fCons (fVar 1) (fCons (fVar 2) (fCons (fCall φ13 (fCons (fVar 0) (fCons (fVar 3) (fNil)))) (fNil)))))))
def φ14 : Phi := fDef 4 5 b14
theorem zb14 {G : Gz} {X : Cx} (F5 : Fz G 14 "ask_name" 2 φ5) (F12 : Fz G 14 "lacking" 4 φ12) (F13 : Fz G 14 "all_free" 2 φ13) (c : Cz G bs 14 X N14 nm14 (fun _ => true)) : ZB X (defBody (topS 14)) b14 :=
  z_cons2 (z_for (q := false) c (zi_seq (z_tup (z_cons (z_var c (by decide +kernel)) (z_cons (z_var c (by decide +kernel)) (z_nil))))) (zg_name c (by decide +kernel)) (z_sone (z_expr (z_call c F5 (z_cons (z_var c (by decide +kernel)) (z_cons (z_var c (by decide +kernel)) (z_nil)))) (hs := c.sW.trans rfl))))
  (z_sone (z_ret (z_call c F12 (z_cons (z_var c (by decide +kernel)) (z_cons (z_var c (by decide +kernel)) (z_cons (z_var c (by decide +kernel)) (z_cons (z_call c F13 (z_cons (z_var c (by decide +kernel)) (z_cons (z_var c (by decide +kernel)) (z_nil)))) (z_nil))))))))
/-! ### _law_source -/
def nm16 : List (Str × NameKind) := [("script", .local)]
def N16 : List Str := ["script"]
theorem sc16 : FnScope N16 ["script"] (defScope (topS 16)) := ⟨rfl, rfl, rfl, by decide +kernel, rfl, by decide +kernel, by decide +kernel⟩
def b16 : Fn Ct :=
  fRet (fNew (fLst (fCons (fSl (fVar 0) (fNoPart) (fPart (fC (.int 63)))) (fCons (fC (.int 0)) (fCons (fC (.int 0)) (fCons (fC (.int 0)) (fNil)))))))
def φ16 : Phi := fDefN 1 1 b16
theorem zb16 {G : Gz} {X : Cx} (c : Cz G bs 16 X N16 nm16 (fun _ => true)) : ZB X (defBody (topS 16)) b16 :=
  z_sone (z_ret (z_new (z_lst (z_cons (z_slice (z_var c (by decide +kernel)) (zo_none) (zo_some (z_int))) (z_cons (z_int) (z_cons (z_int) (z_cons (z_int) (z_nil))))))))
/-! ### _law_draw -/
def nm17 : List (Str × NameKind) := [("feed", .local), ("many", .local), ("found", .local), ("cell", .local), ("mixed", .local), ("len", .globalImplicit)]
def N17 : List Str := ["feed", "many", "found", "cell", "mixed"]
theorem sc17 : FnScope N17 ["feed", "many"] (defScope (topS 17)) := ⟨rfl, rfl, rfl, by decide +kernel, rfl, by decide +kernel, by decide +kernel⟩
def b17 : Fn Ct :=
  fSeq (fPut (fVar 0) (fC (.int 3)) (fBin gAdd (fBin gIx (fVar 0) (fC (.int 3))) (fC (.int 1))))
  (fSeq (fIfS (fTest (fBin gGt (fBin gIx (fVar 0) (fC (.int 2))) (fC (.int 0)))) (fSeq (fSet 2 (fBin gMod (fBin gIx (fVar 0) (fC (.int 2))) (fVar 1)))
  (fSeq (fPut (fVar 0) (fC (.int 2)) (fBin gDiv (fBin gIx (fVar 0) (fC (.int 2))) (fVar 1)))
  (fRet (fVar 2)))) (fNop))
  (fSeq (fSet 3 (fIf (fTest (fBin gNe (fBin gIx (fVar 0) (fC (.int 0))) (fVal (fLst (fNil))))) (fBin gIx (fBin gIx (fVar 0) (fC (.int 0))) (fBin gMod (fBin gIx (fVar 0) (fC (.int 1))) (fCall gLen (fCons (fBin gIx (fVar 0) (fC (.int 0))) (fNil))))) (fC (.int 0))))
  (fSeq (fPut (fVar 0) (fC (.int 1)) (fBin gAdd (fBin gIx (fVar 0) (fC (.int 1))) (fC (.int 1))))
  (fSeq (fIfS (fAndT (fTest (fBin gGe (fVar 3) (fBin gPow (fC (.int 10)) (fC (.int 18))))) (fTest (fBin gLe (fBin gIx (fVar 0) (fC (.int 1))) (fCall gLen (fCons (fBin gIx (fVar 0) (fC (.int 0))) (fNil)))))) (fSeq (fPut (fVar 0) (fC (.int 2)) (fBin gDiv (fVar 3) (fVar 1)))
  (fRet (fBin gMod (fVar 3) (fVar 1)))) (fNop))
  (fSeq (fSet 4 (fBin gMod (fBin gPow (fBin gAdd (fBin gAdd (fBin gMod (fVar 3) (fC (.int 2147483629))) (fBin gMul (fC (.int 6007)) (fBin gIx (fVar 0) (fC (.int 3))))) (fC (.int 19))) (fC (.int 5))) (fC (.int 2147483587))))
  (fRet (fBin gMod (fBin gDiv (fBin gMod (fBin gPow (fBin gAdd (fVar 4) (fBin gMul (fC (.int 7927)) (fBin gIx (fVar 0) (fC (.int 3))))) (fC (.int 5))) (fC (.int 2147483549))) (fC (.int 8))) (fVar 1))))))))
def φ17 : Phi := fDef 2 5 b17
theorem zb17 {G : Gz} {X : Cx} (c : Cz G bs 17 X N17 nm17 (fun _ => true)) : ZB X (defBody (topS 17)) b17 :=
  z_cons2 (z_put c (z_var c (by decide +kernel)) (z_int) (z_add (z_ix c (z_var c (by decide +kernel)) (z_int)) (z_int)))
  (z_cons2 (z_ifS (z_gtT c (z_ix c (z_var c (by decide +kernel)) (z_int)) (z_int)) (z_cons2 (z_set c (by decide +kernel) (z_mod (z_ix c (z_var c (by decide +kernel)) (z_int)) (z_var c (by decide +kernel))) (hs := c.sW.trans rfl))
  (z_cons2 (z_put c (z_var c (by decide +kernel)) (z_int) (z_div (z_ix c (z_var c (by decide +kernel)) (z_int)) (z_var c (by decide +kernel))))
  (z_sone (z_ret (z_var c (by decide +kernel)))))) (z_snil))
  (z_cons2 (z_set c (by decide +kernel) (z_if (z_neT c (z_ix c (z_var c (by decide +kernel)) (z_int)) (z_val (z_lst (z_nil)))) (z_ix c (z_ix c (z_var c (by decide +kernel)) (z_int)) (z_mod (z_ix c (z_var c (by decide +kernel)) (z_int)) (z_len c (z_cons (z_ix c (z_var c (by decide +kernel)) (z_int)) (z_nil))))) (z_int)) (hs := c.sW.trans rfl))
  (z_cons2 (z_put c (z_var c (by decide +kernel)) (z_int) (z_add (z_ix c (z_var c (by decide +kernel)) (z_int)) (z_int)))
  (z_cons2 (z_ifS (z_wT (w_and (z_geT c (z_var c (by decide +kernel)) (z_pow (z_int) (z_int))) (w_and1 (z_leT c (z_ix c (z_var c (by decide +kernel)) (z_int)) (z_len c (z_cons (z_ix c (z_var c (by decide +kernel)) (z_int)) (z_nil))))))) (z_cons2 (z_put c (z_var c (by decide +kernel)) (z_int) (z_div (z_var c (by decide +kernel)) (z_var c (by decide +kernel))))
  (z_sone (z_ret (z_mod (z_var c (by decide +kernel)) (z_var c (by decide +kernel)))))) (z_snil))
  (z_cons2 (z_set c (by decide +kernel) (z_mod (z_pow (z_add (z_add (z_mod (z_var c (by decide +kernel)) (z_int)) (z_mul (z_int) (z_ix c (z_var c (by decide +kernel)) (z_int)))) (z_int)) (z_int)) (z_int)) (hs := c.sW.trans rfl))
  (z_sone (z_ret (z_mod (z_div (z_mod (z_pow (z_add (z_var c (by decide +kernel)) (z_mul (z_int) (z_ix c (z_var c (by decide +kernel)) (z_int)))) (z_int)) (z_int)) (z_int)) (z_var c (by decide +kernel))))))))))
/-! ### _law_lots -/
def nm18 : List (Str × NameKind) := [("feed", .cell), ("many", .local), ("letters", .local), ("at", .local), ("x", .local), ("y", .local), ("pool", .cell), ("_law_draw", .globalImplicit), ("range", .globalImplicit)]
def N18 : List Str := ["feed", "many", "letters", "at", "x", "y", "pool", "k"]
theorem sc18 : FnScope N18 ["feed", "many"] (defScope (topS 18)) := ⟨rfl, rfl, rfl, by decide +kernel, rfl, by decide +kernel, by decide +kernel⟩
def b18 : Fn Ct :=
  fSeq (fSet 2 (fC (.str (Str.ofString "abcdefghijklmnopqrstuvwxyz"))))
  (fSeq (fSet 3 (fCall φ17 (fCons (fVar 0) (fCons (fC (.int 26)) (fNil)))))
  (fSeq (fPar2 4 5 (fCons (fBin gIx (fVar 2) (fVar 3)) (fCons (fBin gIx (fVar 2) (fBin gMod (fBin gAdd (fBin gAdd (fVar 3) (fC (.int 1))) (fCall φ17 (fCons (fVar 0) (fCons (fC (.int 25)) (fNil))))) (fC (.int 26)))) (fNil))))
  (fSeq (fSet 6 (fNew (fLst (fCons (fVar 4) (fCons (fBin gAdd (fVar 4) (fVar 5)) (fCons (fVar 5) (fCons (fBin gAdd (fVar 5) (fVar 4)) (fCons (fBin gAdd (fVar 4) (fVar 4)) (fCons (fBin gTimes (fVar 5) (fC (.int 8))) (fNil))))))))))
  (fRet (fVal (fLc (fRng1 (fCons (fVar 1) (fNil))) [7] (gNm 7) (fYes) (fMt isL gPopAt (fVar 6) (fCons (fCall φ17 (fCons (fVar 0) (fCons (fCall gLen (fCons (fVar 6) (fNil))) (fNil)))) (fNil)))))))))
def φ18 : Phi := fDef 2 8 b18
theorem zb18 {G : Gz} {X : Cx} (F17 : Fz G 18 "_law_draw" 2 φ17) (c : Cz G bs 18 X N18 nm18 (fun _ => true)) : ZB X (defBody (topS 18)) b18 :=
  z_cons2 (z_set c (by decide +kernel) (z_str) (hs := c.sW.trans rfl))
  (z_cons2 (z_set c (by decide +kernel) (z_call c F17 (z_cons (z_var c (by decide +kernel)) (z_cons (z_int) (z_nil)))) (hs := c.sW.trans rfl))
  (z_cons2 (z_par2 c (z_cons (z_ix c (z_var c (by decide +kernel)) (z_var c (by decide +kernel))) (z_cons (z_ix c (z_var c (by decide +kernel)) (z_mod (z_add (z_add (z_var c (by decide +kernel)) (z_int)) (z_call c F17 (z_cons (z_var c (by decide +kernel)) (z_cons (z_int) (z_nil))))) (z_int))) (z_nil))) rfl rfl (by decide) rfl rfl rfl)
  (z_cons2 (z_set c (by decide +kernel) (z_new (z_lst (z_cons (z_var c (by decide +kernel)) (z_cons (z_add (z_var c (by decide +kernel)) (z_var c (by decide +kernel))) (z_cons (z_var c (by decide +kernel)) (z_cons (z_add (z_var c (by decide +kernel)) (z_var c (by decide +kernel))) (z_cons (z_add (z_var c (by decide +kernel)) (z_var c (by decide +kernel))) (z_cons (z_times (z_var c (by decide +kernel)) (z_int)) (z_nil))))))))) (hs := c.sW.trans rfl))
  (z_sone (z_ret (z_val (z_lc (q := false) c [("k", 7)] (zi_rng1 c (z_cons (z_var c (by decide +kernel)) (z_nil))) (fun Xc1 c1 => ⟨zg_name c1 (by decide +kernel), zts_nil, z_popAt (z_var c1 (by decide +kernel)) (z_cons (z_call c1 F17 (z_cons (z_var c1 (by decide +kernel)) (z_cons (z_len c1 (z_cons (z_var c1 (by decide +kernel)) (z_nil))) (z_nil)))) (z_nil))⟩))))))))
/-! ### _law_pile -/
def nm19 : List (Str × NameKind) := [("feed", .cell), ("lots", .cell), ("is_great", .local), ("may_differ", .local), ("at", .cell), ("many", .local), ("slip", .local), ("others", .local), ("_law_draw", .globalImplicit), ("len", .globalImplicit), ("tuple", .globalImplicit), ("sorted", .globalImplicit)]
def N19 : List Str := ["feed", "lots", "is_great", "may_differ", "at", "many", "slip", "others", "name"]
theorem sc19 : FnScope N19 ["feed", "lots", "is_great", "may_differ"] (defScope (topS 19)) := ⟨rfl, rfl, rfl, by decide +kernel, rfl, by decide +kernel, by decide +kernel⟩
def b19 : Fn Ct :=
  fSeq (fSet 4 (fCall φ17 (fCons (fVar 0) (fCons (fCall gLen (fCons (fVar 1) (fNil))) (fNil)))))
  (fSeq (fIfS (fTest (fVar 2)) (fSeq (fSet 5 (fBin gIx (fVal (fLst (fCons (fBin gPow (fC (.int 10)) (fC (.int 6))) (fCons (fCall φ17 (fCons (fVar 0) (fCons (fBin gPow (fC (.int 10)) (fC (.int 6))) (fNil)))) (fCons (fC (.int 0)) (fNil)))))) (fCall φ17 (fCons (fVar 0) (fCons (fC (.int 3)) (fNil))))))
  (fSet 6 (fBin gIx (fVal (fLst (fCons (fBin gPow (fC (.int 10)) (fC (.int 4))) (fCons (fCall φ17 (fCons (fVar 0) (fCons (fBin gPow (fC (.int 10)) (fC (.int 4))) (fNil)))) (fCons (fC (.int 0)) (fNil)))))) (fCall φ17 (fCons (fVar 0) (fCons (fC (.int 3)) (fNil))))))) (fPar2 5 6 (fCons (fCall φ17 (fCons (fVar 0) (fCons (fC (.int 12)) (fNil)))) (fCons (fBin gIx (fVal (fLst (fCons (fC (.int 0)) (fCons (fC (.int 1)) (fCons (fC (.int 2)) (fCons (fC (.int 5)) (fNil))))))) (fCall φ17 (fCons (fVar 0) (fCons (fC (.int 4)) (fNil))))) (fNil)))))
  (fSeq (fSet 7 (fVal (fLst (fNil))))
  (fSeq (fIfS (fAndT (fTest (fVar 3)) (fTest (fBin gEq (fCall φ17 (fCons (fVar 0) (fCons (fC (.int 3)) (fNil)))) (fC (.int 0))))) (fSet 7 (fSl (fVal (fLc (fSrc (fVar 1)) [8] (gNm 8) (fAndT (fTest (fBin gNe (fVar 8) (fBin gIx (fVar 1) (fVar 4)))) (fTest (fBin gEq (fCall φ17 (fCons (fVar 0) (fCons (fC (.int 2)) (fNil)))) (fC (.int 0))))) (fVar 8))) (fNoPart) (fPart (fC (.int 2))))) (fNop))
  (fRet (fTup (fCons (fBin gIx (fVar 1) (fVar 4)) (fCons (fVar 5) (fCons (fVar 6) (fCons (fCall gTuple (fCons (fVal (fCallL gSorted (fCons (fVar 7) (fNil)))) (fNil))) (fNil))))))))))
def φ19 : Phi := fDef 4 9 b19
theorem zb19 {G : Gz} {X : Cx} (F17 : Fz G 19 "_law_draw" 2 φ17) (c : Cz G bs 19 X N19 nm19 (fun _ => true)) : ZB X (defBody (topS 19)) b19 :=
  z_cons2 (z_set c (by decide +kernel) (z_call c F17 (z_cons (z_var c (by decide +kernel)) (z_cons (z_len c (z_cons (z_var c (by decide +kernel)) (z_nil))) (z_nil)))) (hs := c.sW.trans rfl))
  (z_cons2 (z_ifS (z_valT (z_var c (by decide +kernel))) (z_cons2 (z_set c (by decide +kernel) (z_ix c (z_val (z_lst (z_cons (z_pow (z_int) (z_int)) (z_cons (z_call c F17 (z_cons (z_var c (by decide +kernel)) (z_cons (z_pow (z_int) (z_int)) (z_nil)))) (z_cons (z_int) (z_nil)))))) (z_call c F17 (z_cons (z_var c (by decide +kernel)) (z_cons (z_int) (z_nil))))) (hs := c.sW.trans rfl))
  (z_sone (z_set c (by decide +kernel) (z_ix c (z_val (z_lst (z_cons (z_pow (z_int) (z_int)) (z_cons (z_call c F17 (z_cons (z_var c (by decide +kernel)) (z_cons (z_pow (z_int) (z_int)) (z_nil)))) (z_cons (z_int) (z_nil)))))) (z_call c F17 (z_cons (z_var c (by decide +kernel)) (z_cons (z_int) (z_nil))))) (hs := c.sW.trans rfl)))) (z_sone (z_par2 c (z_cons (z_call c F17 (z_cons (z_var c (by decide +kernel)) (z_cons (z_int) (z_nil)))) (z_cons (z_ix c (z_val (z_lst (z_cons (z_int) (z_cons (z_int) (z_cons (z_int) (z_cons (z_int) (z_nil))))))) (z_call c F17 (z_cons (z_var c (by decide +kernel)) (z_cons (z_int) (z_nil))))) (z_nil))) rfl rfl (by decide) rfl rfl rfl)))
  (z_cons2 (z_set c (by decide +kernel) (z_val (z_lst (z_nil))) (hs := c.sW.trans rfl))
  (z_cons2 (z_ifS (z_wT (w_and (z_valT (z_var c (by decide +kernel))) (w_and1 (z_eqT c (z_call c F17 (z_cons (z_var c (by decide +kernel)) (z_cons (z_int) (z_nil)))) (z_int))))) (z_sone (z_set c (by decide +kernel) (z_slice (z_val (z_lc (q := false) c [("name", 8)] (zi_seq (z_var c (by decide +kernel))) (fun Xc1 c1 => ⟨zg_name c1 (by decide +kernel), zts_one (z_wT (w_and (z_neT c1 (z_var c1 (by decide +kernel)) (z_ix c1 (z_var c1 (by decide +kernel)) (z_var c1 (by decide +kernel)))) (w_and1 (z_eqT c1 (z_call c1 F17 (z_cons (z_var c1 (by decide +kernel)) (z_cons (z_int) (z_nil)))) (z_int))))), z_var c1 (by decide +kernel)⟩))) (zo_none) (zo_some (z_int))) (hs := c.sW.trans rfl))) (z_snil))
  (z_sone (z_ret (z_tup (z_cons (z_ix c (z_var c (by decide +kernel)) (z_var c (by decide +kernel))) (z_cons (z_var c (by decide +kernel)) (z_cons (z_var c (by decide +kernel)) (z_cons (z_tuple c (z_cons (z_val (z_sorted c (z_cons (z_var c (by decide +kernel)) (z_nil)))) (z_nil))) (z_nil)))))))))))
/-! ### _law_count_of -/
def nm20 : List (Str × NameKind) := [("feed", .cell), ("lots", .local), ("many", .local), ("is_great", .local), ("doubtful", .local), ("piles", .local), ("wild", .local), ("k", .local), ("pile", .local), ("doubts", .local), ("names", .local), ("range", .globalImplicit), ("_law_pile", .globalImplicit), ("int", .globalImplicit), ("_law_draw", .globalImplicit), ("sorted", .globalImplicit), ("tuple", .globalImplicit)]
def N20 : List Str := ["feed", "lots", "many", "is_great", "doubtful", "piles", "wild", "k", "pile", "doubts", "names", "name"]
theorem sc20 : FnScope N20 ["feed", "lots", "many", "is_great", "doubtful"] (defScope (topS 20)) := ⟨rfl, rfl, rfl, by decide +kernel, rfl, by decide +kernel, by decide +kernel⟩
def b20 : Fn Ct :=
  fSeq (fPar2 5 6 (fCons (fNew (fLst (fNil))) (fCons (fC (.int 0)) (fNil))))
  (fSeq (fFor (fRng1 (fCons (fVar 2) (fNil))) (gNm 7) (fSeq (fSet 8 (fCall φ19 (fCons (fVar 0) (fCons (fVar 1) (fCons (fVar 3) (fCons (fBin gLt (fVar 6) (fC (.int 3))) (fNil)))))))
  (fSeq (fSet 6 (fBin gAdd (fVar 6) (fCall gToInt (fCons (fBin gNe (fBin gIx (fVar 8) (fC (.int 3))) (fTup (fNil))) (fNil)))))
  (fDrop (fMt isL gAppend (fVar 5) (fCons (fVar 8) (fNil)))))))
  (fSeq (fSet 9 (fNew (fLst (fNil))))
  (fSeq (fFor (fRng1 (fCons (fBin gIx (fVar 4) (fCall φ17 (fCons (fVar 0) (fCons (fC (.int 4)) (fNil))))) (fNil))) (gNm 7) (fSeq (fSet 10 (fVal (fCallL gSorted (fCons (fVal (fLc (fSrc (fVar 1)) [11] (gNm 11) (fTest (fBin gEq (fCall φ17 (fCons (fVar 0) (fCons (fC (.int 2)) (fNil)))) (fC (.int 0)))) (fVar 11))) (fNil)))))
  (fDrop (fMt isL gAppend (fVar 9) (fCons (fCall gTuple (fCons (fIf (fTest (fBin gNe (fVar 10) (fVal (fLst (fNil))))) (fVar 10) (fSl (fVar 1) (fNoPart) (fPart (fC (.int 1))))) (fNil))) (fNil))))))
  (fRet (fTup (fCons (fCall gTuple (fCons (fVar 1) (fNil))) (fCons (fCall gTuple (fCons (fVar 5) (fNil))) (fCons (fCall gTuple (fCons (fVar 9) (fNil))) (fNil)))))))))
def φ20 : Phi := fDef 5 12 b20
theorem zb20 {G : Gz} {X : Cx} (F19 : Fz G 20 "_law_pile" 4 φ19) (F17 : Fz G 20 "_law_draw" 2 φ17) (c : Cz G bs 20 X N20 nm20 (fun _ => true)) : ZB X (defBody (topS 20)) b20 :=
  z_cons2 (z_par2 c (z_cons (z_new (z_lst (z_nil))) (z_cons (z_int) (z_nil))) rfl rfl (by decide) rfl rfl rfl)
  (z_cons2 (z_for (q := false) c (zi_rng1 c (z_cons (z_var c (by decide +kernel)) (z_nil))) (zg_name c (by decide +kernel)) (z_cons2 (z_set c (by decide +kernel) (z_call c F19 (z_cons (z_var c (by decide +kernel)) (z_cons (z_var c (by decide +kernel)) (z_cons (z_var c (by decide +kernel)) (z_cons (z_lt c (z_var c (by decide +kernel)) (z_int)) (z_nil)))))) (hs := c.sW.trans rfl))
  (z_cons2 (z_set c (by decide +kernel) (z_add (z_var c (by decide +kernel)) (z_toint c (z_cons (z_ne c (z_ix c (z_var c (by decide +kernel)) (z_int)) (z_tup (z_nil))) (z_nil)))) (hs := c.sW.trans rfl))
  (z_sone (z_expr (z_append (z_var c (by decide +kernel)) (z_cons (z_var c (by decide +kernel)) (z_nil))) (hs := c.sW.trans rfl))))))
  (z_cons2 (z_set c (by decide +kernel) (z_new (z_lst (z_nil))) (hs := c.sW.trans rfl))
  (z_cons2 (z_for (q := false) c (zi_rng1 c (z_cons (z_ix c (z_var c (by decide +kernel)) (z_call c F17 (z_cons (z_var c (by decide +kernel)) (z_cons (z_int) (z_nil))))) (z_nil))) (zg_name c (by decide +kernel)) (z_cons2 (z_set c (by decide +kernel) (z_val (z_sorted c (z_cons (z_val (z_lc (q := false) c [("name", 11)] (zi_seq (z_var c (by decide +kernel))) (fun Xc1 c1 => ⟨zg_name c1 (by decide +kernel), zts_one (z_eqT c1 (z_call c1 F17 (z_cons (z_var c1 (by decide +kernel)) (z_cons (z_int) (z_nil)))) (z_int)), z_var c1 (by decide +kernel)⟩))) (z_nil)))) (hs := c.sW.trans rfl))
  (z_sone (z_expr (z_append (z_var c (by decide +kernel)) (z_cons (z_tuple c (z_cons (z_if (z_neT c (z_var c (by decide +kernel)) (z_val (z_lst (z_nil)))) (z_var c (by decide +kernel)) (z_slice (z_var c (by decide +kernel)) (zo_none) (zo_some (z_int)))) (z_nil))) (z_nil))) (hs := c.sW.trans rfl)))))
  (z_sone (z_ret (z_tup (z_cons (z_tuple c (z_cons (z_var c (by decide +kernel)) (z_nil))) (z_cons (z_tuple c (z_cons (z_var c (by decide +kernel)) (z_nil))) (z_cons (z_tuple c (z_cons (z_var c (by decide +kernel)) (z_nil))) (z_nil))))))))))
/-! ### _law_count -/
def nm21 : List (Str × NameKind) := [("feed", .local), ("most", .local), ("is_great", .local), ("lots", .local), ("many", .local), ("_law_draw", .globalImplicit), ("_law_lots", .globalImplicit), ("_law_count_of", .globalImplicit)]
def N21 : List Str := ["feed", "most", "is_great", "lots", "many"]
theorem sc21 : FnScope N21 ["feed", "most"] (defScope (topS 21)) := ⟨rfl, rfl, rfl, by decide +kernel, rfl, by decide +kernel, by decide +kernel⟩
def b21 : Fn Ct :=
  fSeq (fSet 2 (fAnd (fBin gGt (fVar 1) (fC (.int 8))) (fBin gEq (fCall φ17 (fCons (fVar 0) (fCons (fC (.int 2)) (fNil)))) (fC (.int 0)))))
  (fSeq (fSet 3 (fCall φ18 (fCons (fVar 0) (fCons (fBin gAdd (fC (.int 2)) (fCall φ17 (fCons (fVar 0) (fCons (fIf (fTest (fBin gGt (fVar 1) (fC (.int 5)))) (fC (.int 5)) (fC (.int 3))) (fNil))))) (fNil)))))
  (fSeq (fSet 4 (fIf (fTest (fVar 2)) (fVar 1) (fCall φ17 (fCons (fVar 0) (fCons (fBin gAdd (fVar 1) (fC (.int 1))) (fNil))))))
  (fRet (fCall φ20 (fCons (fVar 0) (fCons (fVar 3) (fCons (fVar 4) (fCons (fVar 2) (fCons (fVal (fLst (fCons (fC (.int 0)) (fCons (fC (.int 1)) (fCons (fC (.int 2)) (fCons (fIf (fTest (fBin gGt (fVar 1) (fC (.int 5)))) (fC (.int 12)) (fC (.int 3))) (fNil))))))) (fNil))))))))))
def φ21 : Phi := fDef 2 5 b21
theorem zb21 {G : Gz} {X : Cx} (F17 : Fz G 21 "_law_draw" 2 φ17) (F18 : Fz G 21 "_law_lots" 2 φ18) (F20 : Fz G 21 "_law_count_of" 5 φ20) (c : Cz G bs 21 X N21 nm21 (fun _ => true)) : ZB X (defBody (topS 21)) b21 :=
  z_cons2 (z_set c (by decide +kernel) (z_and (z_gt c (z_var c (by decide +kernel)) (z_int)) (z_one (z_eq c (z_call c F17 (z_cons (z_var c (by decide +kernel)) (z_cons (z_int) (z_nil)))) (z_int)))) (hs := c.sW.trans rfl))
  (z_cons2 (z_set c (by decide +kernel) (z_call c F18 (z_cons (z_var c (by decide +kernel)) (z_cons (z_add (z_int) (z_call c F17 (z_cons (z_var c (by decide +kernel)) (z_cons (z_if (z_gtT c (z_var c (by decide +kernel)) (z_int)) (z_int) (z_int)) (z_nil))))) (z_nil)))) (hs := c.sW.trans rfl))
  (z_cons2 (z_set c (by decide +kernel) (z_if (z_valT (z_var c (by decide +kernel))) (z_var c (by decide +kernel)) (z_call c F17 (z_cons (z_var c (by decide +kernel)) (z_cons (z_add (z_var c (by decide +kernel)) (z_int)) (z_nil))))) (hs := c.sW.trans rfl))
  (z_sone (z_ret (z_call c F20 (z_cons (z_var c (by decide +kernel)) (z_cons (z_var c (by decide +kernel)) (z_cons (z_var c (by decide +kernel)) (z_cons (z_var c (by decide +kernel)) (z_cons (z_val (z_lst (z_cons (z_int) (z_cons (z_int) (z_cons (z_int) (z_cons (z_if (z_gtT c (z_var c (by decide +kernel)) (z_int)) (z_int) (z_int)) (z_nil))))))) (z_nil)))))))))))
/-! ### _law_free -/
def nm22 : List (Str × NameKind) := [("feed", .cell), ("count", .local), ("_law_draw", .globalImplicit), ("tuple", .globalImplicit), ("range", .globalImplicit), ("len", .globalImplicit)]
def N22 : List Str := ["feed", "count", "k"]
theorem sc22 : FnScope N22 ["feed", "count"] (defScope (topS 22)) := ⟨rfl, rfl, rfl, by decide +kernel, rfl, by decide +kernel, by decide +kernel⟩
def b22 : Fn Ct :=
  fSeq (fIfS (fTest (fBin gEq (fCall φ17 (fCons (fVar 0) (fCons (fC (.int 2)) (fNil)))) (fC (.int 0)))) (fRet (fTup (fNil))) (fNop))
  (fRet (fCall gTuple (fCons (fVal (fLc (fRng1 (fCons (fCall gLen (fCons (fBin gIx (fVar 1) (fC (.int 1))) (fNil))) (fNil))) [2] (gNm 2) (fTest (fBin gEq (fCall φ17 (fCons (fVar 0) (fCons (fC (.int 4)) (fNil)))) (fC (.int 0)))) (fVar 2))) (fNil))))
def φ22 : Phi := fDef 2 3 b22
theorem zb22 {G : Gz} {X : Cx} (F17 : Fz G 22 "_law_draw" 2 φ17) (c : Cz G bs 22 X N22 nm22 (fun _ => true)) : ZB X (defBody (topS 22)) b22 :=
  z_cons2 (z_ifS (z_eqT c (z_call c F17 (z_cons (z_var c (by decide +kernel)) (z_cons (z_int) (z_nil)))) (z_int)) (z_sone (z_ret (z_tup (z_nil)))) (z_snil))
  (z_sone (z_ret (z_tuple c (z_cons (z_val (z_lc (q := false) c [("k", 2)] (zi_rng1 c (z_cons (z_len c (z_cons (z_ix c (z_var c (by decide +kernel)) (z_int)) (z_nil))) (z_nil))) (fun Xc1 c1 => ⟨zg_name c1 (by decide +kernel), zts_one (z_eqT c1 (z_call c1 F17 (z_cons (z_var c1 (by decide +kernel)) (z_cons (z_int) (z_nil)))) (z_int)), z_var c1 (by decide +kernel)⟩))) (z_nil)))))
/-! ### _law_adds -/
def nm23 : List (Str × NameKind) := [("name", .local), ("number", .local), ("one", .local), ("other", .local)]
def N23 : List Str := ["name", "number", "one", "other"]
theorem sc23 : FnScope N23 ["name", "number", "one", "other"] (defScope (topS 23)) := ⟨rfl, rfl, rfl, by decide +kernel, rfl, by decide +kernel, by decide +kernel⟩
def b23 : Fn Ct :=
  fSeq (fIfS (fTest (fBin gEq (fVar 2) (fVar 3))) (fRet (fC (.int 0))) (fNop))
  (fRet (fIf (fTest (fBin gEq (fVar 0) (fVar 2))) (fVar 1) (fIf (fTest (fBin gEq (fVar 0) (fVar 3))) (fBin gSub (fC (.int 0)) (fVar 1)) (fC (.int 0)))))
def φ23 : Phi := fDef 4 4 b23
theorem zb23 {G : Gz} {X : Cx} (c : Cz G bs 23 X N23 nm23 (fun _ => true)) : ZB X (defBody (topS 23)) b23 :=
  z_cons2 (z_ifS (z_eqT c (z_var c (by decide +kernel)) (z_var c (by decide +kernel))) (z_sone (z_ret (z_int))) (z_snil))
  (z_sone (z_ret (z_if (z_eqT c (z_var c (by decide +kernel)) (z_var c (by decide +kernel))) (z_var c (by decide +kernel)) (z_if (z_eqT c (z_var c (by decide +kernel)) (z_var c (by decide +kernel))) (z_sub (z_int) (z_var c (by decide +kernel))) (z_int)))))
/-! ### _law_widths -/
def nm24 : List (Str × NameKind) := [("count", .local), ("one", .cell), ("other", .cell), ("found", .local), ("name", .local), ("many", .local), ("slip", .local), ("others", .local), ("some", .local), ("own", .cell), ("max", .globalImplicit), ("_law_adds", .globalImplicit), ("min", .globalImplicit)]
def N24 : List Str := ["count", "one", "other", "found", "name", "many", "slip", "others", "some", "own", "number"]
theorem sc24 : FnScope N24 ["count", "one", "other"] (defScope (topS 24)) := ⟨rfl, rfl, rfl, by decide +kernel, rfl, by decide +kernel, by decide +kernel⟩
def b24 : Fn Ct :=
  fSeq (fSet 3 (fNew (fLst (fNil))))
  (fSeq (fFor (fSrc (fBin gIx (fVar 0) (fC (.int 1)))) (gTp 4 (gsCons (gNm 4) (gsCons (gNm 5) (gsCons (gNm 6) (gsCons (gNm 7) (gsNil)))))) (fSeq (fSet 8 (fNew (fLst (fNil))))
  (fSeq (fFor (fSrc (fBin gAdd (fTup (fCons (fVar 4) (fNil))) (fVar 7))) (gNm 9) (fDrop (fExtend (fVar 8) (fLc (fSrc (fTup (fCons (fCall (gTwo fun i j => if j > i then j else i) (fCons (fC (.int 0)) (fCons (fBin gSub (fVar 5) (fVar 6)) (fNil)))) (fCons (fBin gAdd (fVar 5) (fVar 6)) (fNil))))) [10] (gNm 10) (fYes) (fCall φ23 (fCons (fVar 9) (fCons (fVar 10) (fCons (fVar 1) (fCons (fVar 2) (fNil))))))))))
  (fDrop (fMt isL gAppend (fVar 3) (fCons (fBin gSub (fCall φ23 (fCons (fVar 4) (fCons (fVar 5) (fCons (fVar 1) (fCons (fVar 2) (fNil)))))) (fCall (gExt1 fun a b => decide (a ≤ b)) (fCons (fVar 8) (fNil)))) (fNil)))))))
  (fRet (fVar 3)))
def φ24 : Phi := fDef 3 11 b24
theorem zb24 {G : Gz} {X : Cx} (F23 : Fz G 24 "_law_adds" 4 φ23) (c : Cz G bs 24 X N24 nm24 (fun _ => true)) : ZB X (defBody (topS 24)) b24 :=
  z_cons2 (z_set c (by decide +kernel) (z_new (z_lst (z_nil))) (hs := c.sW.trans rfl))
  (z_cons2 (z_for (q := false) c (zi_seq (z_ix c (z_var c (by decide +kernel)) (z_int))) (zg_tup c (zgs_cons (zg_name c (by decide +kernel)) (zgs_cons (zg_name c (by decide +kernel)) (zgs_cons (zg_name c (by decide +kernel)) (zgs_cons (zg_name c (by decide +kernel)) (zgs_nil)))))) (z_cons2 (z_set c (by decide +kernel) (z_new (z_lst (z_nil))) (hs := c.sW.trans rfl))
  (z_cons2 (z_for (q := false) c (zi_seq (z_add (z_tup (z_cons (z_var c (by decide +kernel)) (z_nil))) (z_var c (by decide +kernel)))) (zg_name c (by decide +kernel)) (z_sone (z_expr (z_extend (z_var c (by decide +kernel)) (z_lc (q := false) c [("number", 10)] (zi_seq (z_tup (z_cons (z_max2 c (z_cons (z_int) (z_cons (z_sub (z_var c (by decide +kernel)) (z_var c (by decide +kernel))) (z_nil)))) (z_cons (z_add (z_var c (by decide +kernel)) (z_var c (by decide +kernel))) (z_nil))))) (fun Xc1 c1 => ⟨zg_name c1 (by decide +kernel), zts_nil, z_call c1 F23 (z_cons (z_var c1 (by decide +kernel)) (z_cons (z_var c1 (by decide +kernel)) (z_cons (z_var c1 (by decide +kernel)) (z_cons (z_var c1 (by decide +kernel)) (z_nil)))))⟩))) (hs := c.sW.trans rfl))))
  (z_sone (z_expr (z_append (z_var c (by decide +kernel)) (z_cons (z_sub (z_call c F23 (z_cons (z_var c (by decide +kernel)) (z_cons (z_var c (by decide +kernel)) (z_cons (z_var c (by decide +kernel)) (z_cons (z_var c (by decide +kernel)) (z_nil)))))) (z_min1 c (z_cons (z_var c (by decide +kernel)) (z_nil)))) (z_nil))) (hs := c.sW.trans rfl))))))
  (z_sone (z_ret (z_var c (by decide +kernel)))))
/-! ### _law_lack -/
def nm25 : List (Str × NameKind) := [("count", .local), ("one", .cell), ("other", .cell), ("fixed", .local), ("lots", .local), ("piles", .local), ("doubts", .local), ("widths", .local), ("least", .local), ("k", .local), ("names", .local), ("wanted", .local), ("_law_widths", .globalImplicit), ("range", .globalImplicit), ("len", .globalImplicit), ("_law_adds", .globalImplicit), ("min", .globalImplicit), ("max", .globalImplicit)]
def N25 : List Str := ["count", "one", "other", "fixed", "lots", "piles", "doubts", "widths", "least", "k", "names", "wanted", "name"]
theorem sc25 : FnScope N25 ["count", "one", "other", "fixed"] (defScope (topS 25)) := ⟨rfl, rfl, rfl, by decide +kernel, rfl, by decide +kernel, by decide +kernel⟩
def b25 : Fn Ct :=
  fSeq (fAsg (fVar 0) (gTp 3 (gsCons (gNm 4) (gsCons (gNm 5) (gsCons (gNm 6) (gsNil))))))
  (fSeq (fSet 7 (fCall φ24 (fCons (fVar 0) (fCons (fVar 1) (fCons (fVar 2) (fNil))))))
  (fSeq (fSet 8 (fC (.int 0)))
  (fSeq (fFor (fRng1 (fCons (fCall gLen (fCons (fVar 5) (fNil))) (fNil))) (gNm 9) (fSet 8 (fBin gSub (fBin gAdd (fVar 8) (fCall φ23 (fCons (fBin gIx (fBin gIx (fVar 5) (fVar 9)) (fC (.int 0))) (fCons (fBin gIx (fBin gIx (fVar 5) (fVar 9)) (fC (.int 1))) (fCons (fVar 1) (fCons (fVar 2) (fNil))))))) (fIf (fTest (fBin gIn (fVar 9) (fVar 3))) (fC (.int 0)) (fBin gIx (fVar 7) (fVar 9))))))
  (fSeq (fFor (fSrc (fVar 6)) (gNm 10) (fSet 8 (fBin gAdd (fVar 8) (fCall (gExt1 fun a b => decide (a ≤ b)) (fCons (fVal (fLc (fSrc (fVar 10)) [12] (gNm 12) (fYes) (fCall φ23 (fCons (fVar 12) (fCons (fC (.int 1)) (fCons (fVar 1) (fCons (fVar 2) (fNil)))))))) (fNil))))))
  (fSeq (fSet 11 (fIf (fTest (fBin gLt (fIndex (fVar 4) (fCons (fVar 1) (fNil))) (fIndex (fVar 4) (fCons (fVar 2) (fNil))))) (fC (.int 0)) (fC (.int 1))))
  (fRet (fCall (gTwo fun i j => if j > i then j else i) (fCons (fC (.int 0)) (fCons (fBin gSub (fVar 11) (fVar 8)) (fNil))))))))))
def φ25 : Phi := fDef 4 13 b25
theorem zb25 {G : Gz} {X : Cx} (F24 : Fz G 25 "_law_widths" 3 φ24) (F23 : Fz G 25 "_law_adds" 4 φ23) (c : Cz G bs 25 X N25 nm25 (fun _ => true)) : ZB X (defBody (topS 25)) b25 :=
  z_cons2 (z_asg (z_var c (by decide +kernel)) (zg_tup c (zgs_cons (zg_name c (by decide +kernel)) (zgs_cons (zg_name c (by decide +kernel)) (zgs_cons (zg_name c (by decide +kernel)) (zgs_nil))))))
  (z_cons2 (z_set c (by decide +kernel) (z_call c F24 (z_cons (z_var c (by decide +kernel)) (z_cons (z_var c (by decide +kernel)) (z_cons (z_var c (by decide +kernel)) (z_nil))))) (hs := c.sW.trans rfl))
  (z_cons2 (z_set c (by decide +kernel) (z_int) (hs := c.sW.trans rfl))
  (z_cons2 (z_for (q := false) c (zi_rng1 c (z_cons (z_len c (z_cons (z_var c (by decide +kernel)) (z_nil))) (z_nil))) (zg_name c (by decide +kernel)) (z_sone (z_set c (by decide +kernel) (z_sub (z_add (z_var c (by decide +kernel)) (z_call c F23 (z_cons (z_ix c (z_ix c (z_var c (by decide +kernel)) (z_var c (by decide +kernel))) (z_int)) (z_cons (z_ix c (z_ix c (z_var c (by decide +kernel)) (z_var c (by decide +kernel))) (z_int)) (z_cons (z_var c (by decide +kernel)) (z_cons (z_var c (by decide +kernel)) (z_nil))))))) (z_if (z_inT c (z_var c (by decide +kernel)) (z_var c (by decide +kernel))) (z_int) (z_ix c (z_var c (by decide +kernel)) (z_var c (by decide +kernel))))) (hs := c.sW.trans rfl))))
  (z_cons2 (z_for (q := false) c (zi_seq (z_var c (by decide +kernel))) (zg_name c (by decide +kernel)) (z_sone (z_set c (by decide +kernel) (z_add (z_var c (by decide +kernel)) (z_min1 c (z_cons (z_val (z_lc (q := false) c [("name", 12)] (zi_seq (z_var c (by decide +kernel))) (fun Xc1 c1 => ⟨zg_name c1 (by decide +kernel), zts_nil, z_call c1 F23 (z_cons (z_var c1 (by decide +kernel)) (z_cons (z_int) (z_cons (z_var c1 (by decide +kernel)) (z_cons (z_var c1 (by decide +kernel)) (z_nil)))))⟩))) (z_nil)))) (hs := c.sW.trans rfl))))
  (z_cons2 (z_set c (by decide +kernel) (z_if (z_ltT c (z_index (z_var c (by decide +kernel)) (z_cons (z_var c (by decide +kernel)) (z_nil))) (z_index (z_var c (by decide +kernel)) (z_cons (z_var c (by decide +kernel)) (z_nil)))) (z_int) (z_int)) (hs := c.sW.trans rfl))
  (z_sone (z_ret (z_max2 c (z_cons (z_int) (z_cons (z_sub (z_var c (by decide +kernel)) (z_var c (by decide +kernel))) (z_nil)))))))))))
/-! ### law -/
def nm26 : List (Str × NameKind) := [("script", .local), ("feed", .local), ("turn", .local), ("count", .local), ("fixed", .local), ("kept", .local), ("names", .local), ("one", .local), ("other", .local), ("widths", .local), ("k", .local), ("due", .local), ("_law_source", .globalImplicit), ("range", .globalImplicit), ("_law_count", .globalImplicit), ("_law_free", .globalImplicit), ("repr", .globalImplicit), ("_law_widths", .globalImplicit), ("len", .globalImplicit), ("width", .globalImplicit), ("_law_lack", .globalImplicit), ("lack", .globalImplicit)]
def N26 : List Str := ["script", "feed", "turn", "count", "fixed", "kept", "names", "one", "other", "widths", "k", "due"]
theorem sc26 : FnScope N26 ["script"] (defScope (topS 26)) := ⟨rfl, rfl, rfl, by decide +kernel, rfl, by decide +kernel, by decide +kernel⟩
def b26 : Fn Ct :=
  fSeq (fSet 1 (fCall φ16 (fCons (fVar 0) (fNil))))
  (fSeq (fFor (fRng1 (fCons (fC (.int 3)) (fNil))) (gNm 2) (fSeq (fSet 3 (fCall φ21 (fCons (fVar 1) (fCons (fBin gIx (fVal (fLst (fCons (fC (.int 8)) (fCons (fC (.int 10)) (fCons (fC (.int 5)) (fNil)))))) (fVar 2)) (fNil)))))
  (fSeq (fSet 4 (fCall φ22 (fCons (fVar 1) (fCons (fVar 3) (fNil)))))
  (fSeq (fSet 5 (fCall gRepr (fCons (fTup (fCons (fVar 3) (fCons (fVar 4) (fNil)))) (fNil))))
  (fSeq (fSet 6 (fSl (fBin gIx (fVar 3) (fC (.int 0))) (fNoPart) (fPart (fC (.int 3)))))
  (fSeq (fFor (fSrc (fBin gAdd (fVar 6) (fSl (fVar 6) (fNoPart) (fPart (fC (.int 1)))))) (gNm 7) (fFor (fSrc (fVar 6)) (gNm 8) (fSeq (fSet 9 (fCall φ24 (fCons (fVar 3) (fCons (fVar 7) (fCons (fVar 8) (fNil))))))
  (fSeq (fFor (fRng1 (fCons (fCall gLen (fCons (fVar 9) (fNil))) (fNil))) (gNm 10) (fIfS (fTest (fBin gNe (fCall gRepr (fCons (fCall φ11 (fCons (fVar 3) (fCons (fVar 10) (fCons (fVar 7) (fCons (fVar 8) (fNil)))))) (fNil))) (fCall gRepr (fCons (fBin gIx (fVar 9) (fVar 10)) (fNil))))) (fRet (fC (.bl false))) (fNop)))
  (fIfS (fTest (fBin gNe (fVar 7) (fVar 8))) (fSeq (fSet 11 (fVal (fLst (fCons (fCall φ25 (fCons (fVar 3) (fCons (fVar 7) (fCons (fVar 8) (fCons (fTup (fNil)) (fNil)))))) (fCons (fCall φ25 (fCons (fVar 3) (fCons (fVar 7) (fCons (fVar 8) (fCons (fVar 4) (fNil)))))) (fNil))))))
  (fIfS (fTest (fBin gNe (fCall gRepr (fCons (fVal (fLst (fCons (fCallD φ14 [.non] (fCons (fVar 3) (fCons (fVar 7) (fCons (fVar 8) (fNil))))) (fCons (fCallK φ14 3 1 (fCons (fVar 3) (fCons (fVar 7) (fCons (fVar 8) (fNil)))) (fCons (fVar 4) (fNil))) (fNil))))) (fNil))) (fCall gRepr (fCons (fVar 11) (fNil))))) (fRet (fC (.bl false))) (fNop))) (fNop))))))
  (fIfS (fTest (fBin gNe (fCall gRepr (fCons (fTup (fCons (fVar 3) (fCons (fVar 4) (fNil)))) (fNil))) (fVar 5))) (fRet (fC (.bl false))) (fNop))))))))
  (fRet (fC (.bl true))))
def φ26 : Phi := fDef 1 12 b26
theorem zb26 {G : Gz} {X : Cx} (F16 : Fz G 26 "_law_source" 1 φ16) (F21 : Fz G 26 "_law_count" 2 φ21) (F22 : Fz G 26 "_law_free" 2 φ22) (F24 : Fz G 26 "_law_widths" 3 φ24) (F11 : Fz G 26 "width" 4 φ11) (F25 : Fz G 26 "_law_lack" 4 φ25) {f14 : Addr} {fd14 : FuncData} (D14 : Fd G 26 "lack" 4 φ14 f14 fd14 ["count", "one", "other", "free"]) (kb14_3 : KBn G.K fd14 ["count", "one", "other", "free"] 3 ["free"] (fun us ws => us ++ ws) (fun vs zs => vs ++ zs)) {dL14_3 : List Value} (rd14_3 : Vals [V.non] dL14_3) (hb14_3 : Binds G.K fd14 ["count", "one", "other", "free"] dL14_3) (c : Cz G bs 26 X N26 nm26 (fun _ => true)) : ZB X (defBody (topS 26)) b26 :=
  z_cons2 (z_set c (by decide +kernel) (z_call c F16 (z_cons (z_var c (by decide +kernel)) (z_nil))) (hs := c.sW.trans rfl))
  (z_cons2 (z_for (q := false) c (zi_rng1 c (z_cons (z_int) (z_nil))) (zg_name c (by decide +kernel)) (z_cons2 (z_set c (by decide +kernel) (z_call c F21 (z_cons (z_var c (by decide +kernel)) (z_cons (z_ix c (z_val (z_lst (z_cons (z_int) (z_cons (z_int) (z_cons (z_int) (z_nil)))))) (z_var c (by decide +kernel))) (z_nil)))) (hs := c.sW.trans rfl))
  (z_cons2 (z_set c (by decide +kernel) (z_call c F22 (z_cons (z_var c (by decide +kernel)) (z_cons (z_var c (by decide +kernel)) (z_nil)))) (hs := c.sW.trans rfl))
  (z_cons2 (z_set c (by decide +kernel) (z_repr c (z_cons (z_tup (z_cons (z_var c (by decide +kernel)) (z_cons (z_var c (by decide +kernel)) (z_nil)))) (z_nil))) (hs := c.sW.trans rfl))
  (z_cons2 (z_set c (by decide +kernel) (z_slice (z_ix c (z_var c (by decide +kernel)) (z_int)) (zo_none) (zo_some (z_int))) (hs := c.sW.trans rfl))
  (z_cons2 (z_for (q := false) c (zi_seq (z_add (z_var c (by decide +kernel)) (z_slice (z_var c (by decide +kernel)) (zo_none) (zo_some (z_int))))) (zg_name c (by decide +kernel)) (z_sone (z_for (q := false) c (zi_seq (z_var c (by decide +kernel))) (zg_name c (by decide +kernel)) (z_cons2 (z_set c (by decide +kernel) (z_call c F24 (z_cons (z_var c (by decide +kernel)) (z_cons (z_var c (by decide +kernel)) (z_cons (z_var c (by decide +kernel)) (z_nil))))) (hs := c.sW.trans rfl))
  (z_cons2 (z_for (q := false) c (zi_rng1 c (z_cons (z_len c (z_cons (z_var c (by decide +kernel)) (z_nil))) (z_nil))) (zg_name c (by decide +kernel)) (z_sone (z_ifS (z_neT c (z_repr c (z_cons (z_call c F11 (z_cons (z_var c (by decide +kernel)) (z_cons (z_var c (by decide +kernel)) (z_cons (z_var c (by decide +kernel)) (z_cons (z_var c (by decide +kernel)) (z_nil)))))) (z_nil))) (z_repr c (z_cons (z_ix c (z_var c (by decide +kernel)) (z_var c (by decide +kernel))) (z_nil)))) (z_sone (z_ret (z_bl))) (z_snil))))
  (z_sone (z_ifS (z_neT c (z_var c (by decide +kernel)) (z_var c (by decide +kernel))) (z_cons2 (z_set c (by decide +kernel) (z_val (z_lst (z_cons (z_call c F25 (z_cons (z_var c (by decide +kernel)) (z_cons (z_var c (by decide +kernel)) (z_cons (z_var c (by decide +kernel)) (z_cons (z_tup (z_nil)) (z_nil)))))) (z_cons (z_call c F25 (z_cons (z_var c (by decide +kernel)) (z_cons (z_var c (by decide +kernel)) (z_cons (z_var c (by decide +kernel)) (z_cons (z_var c (by decide +kernel)) (z_nil)))))) (z_nil))))) (hs := c.sW.trans rfl))
  (z_sone (z_ifS (z_neT c (z_repr c (z_cons (z_val (z_lst (z_cons (z_callD c D14 rfl rd14_3 hb14_3 (z_cons (z_var c (by decide +kernel)) (z_cons (z_var c (by decide +kernel)) (z_cons (z_var c (by decide +kernel)) (z_nil))))) (z_cons (z_callK c D14 kb14_3 (z_cons (z_var c (by decide +kernel)) (z_cons (z_var c (by decide +kernel)) (z_cons (z_var c (by decide +kernel)) (z_nil)))) (zk_cons (z_var c (by decide +kernel)) (zk_nil))) (z_nil))))) (z_nil))) (z_repr c (z_cons (z_var c (by decide +kernel)) (z_nil)))) (z_sone (z_ret (z_bl))) (z_snil)))) (z_snil))))))))
  (z_sone (z_ifS (z_neT c (z_repr c (z_cons (z_tup (z_cons (z_var c (by decide +kernel)) (z_cons (z_var c (by decide +kernel)) (z_nil)))) (z_nil))) (z_var c (by decide +kernel))) (z_sone (z_ret (z_bl))) (z_snil)))))))))
  (z_sone (z_ret (z_bl))))
/-! ### what the top has written -/
theorem all_mk {l : PySem.W.OpenLaw} {w : World} {K : PySem.W.Frag} {h : Heap} {mg : Str → Option Value} {fa : Addr} (X : K.In h) (G : h.Ns mainGlobals mg) (hfa : mg "law" = some (.ref fa))
    {f5 : Addr} {od5 an5 : Option Addr} {sl5 : Array (Option Value)} {oc5 kV5 dc5 pm5 cd5 ct5 : Value}
    (a5 : PySem.W.nsIn K mainGlobals "ask_name" = some (some (.ref f5))) (l5 : K.lookup f5 = some ⟨oc5, od5, .func (PySem.W.fnOf "ask_name" "ask_name" (defArgs (topS 5)) (defBody (topS 5)) (defScope (topS 5)) .none kV5 dc5 pm5 an5 cd5 ct5), sl5⟩) (c5 : PySem.W.codeIn K cd5 "ask_name" = true) (k5 : PySem.W.keepIn K (.ref f5) = true)
    {f6 : Addr} {od6 an6 : Option Addr} {sl6 : Array (Option Value)} {oc6 kV6 dc6 pm6 cd6 ct6 : Value}
    (a6 : PySem.W.nsIn K mainGlobals "ask_pile" = some (some (.ref f6))) (l6 : K.lookup f6 = some ⟨oc6, od6, .func (PySem.W.fnOf "ask_pile" "ask_pile" (defArgs (topS 6)) (defBody (topS 6)) (defScope (topS 6)) .none kV6 dc6 pm6 an6 cd6 ct6), sl6⟩) (c6 : PySem.W.codeIn K cd6 "ask_pile" = true) (k6 : PySem.W.keepIn K (.ref f6) = true)
    {f7 : Addr} {od7 an7 : Option Addr} {sl7 : Array (Option Value)} {oc7 kV7 dc7 pm7 cd7 ct7 : Value}
    (a7 : PySem.W.nsIn K mainGlobals "adds" = some (some (.ref f7))) (l7 : K.lookup f7 = some ⟨oc7, od7, .func (PySem.W.fnOf "adds" "adds" (defArgs (topS 7)) (defBody (topS 7)) (defScope (topS 7)) .none kV7 dc7 pm7 an7 cd7 ct7), sl7⟩) (c7 : PySem.W.codeIn K cd7 "adds" = true) (k7 : PySem.W.keepIn K (.ref f7) = true)
    {f8 : Addr} {od8 an8 : Option Addr} {sl8 : Array (Option Value)} {oc8 kV8 dc8 pm8 cd8 ct8 : Value}
    (a8 : PySem.W.nsIn K mainGlobals "told_adds" = some (some (.ref f8))) (l8 : K.lookup f8 = some ⟨oc8, od8, .func (PySem.W.fnOf "told_adds" "told_adds" (defArgs (topS 8)) (defBody (topS 8)) (defScope (topS 8)) .none kV8 dc8 pm8 an8 cd8 ct8), sl8⟩) (c8 : PySem.W.codeIn K cd8 "told_adds" = true) (k8 : PySem.W.keepIn K (.ref f8) = true)
    {f9 : Addr} {od9 an9 : Option Addr} {sl9 : Array (Option Value)} {oc9 kV9 dc9 pm9 cd9 ct9 : Value}
    (a9 : PySem.W.nsIn K mainGlobals "least_adds" = some (some (.ref f9))) (l9 : K.lookup f9 = some ⟨oc9, od9, .func (PySem.W.fnOf "least_adds" "least_adds" (defArgs (topS 9)) (defBody (topS 9)) (defScope (topS 9)) .none kV9 dc9 pm9 an9 cd9 ct9), sl9⟩) (c9 : PySem.W.codeIn K cd9 "least_adds" = true) (k9 : PySem.W.keepIn K (.ref f9) = true)
    {f10 : Addr} {od10 an10 : Option Addr} {sl10 : Array (Option Value)} {oc10 kV10 dc10 pm10 cd10 ct10 : Value}
    (a10 : PySem.W.nsIn K mainGlobals "pile_wide" = some (some (.ref f10))) (l10 : K.lookup f10 = some ⟨oc10, od10, .func (PySem.W.fnOf "pile_wide" "pile_wide" (defArgs (topS 10)) (defBody (topS 10)) (defScope (topS 10)) .none kV10 dc10 pm10 an10 cd10 ct10), sl10⟩) (c10 : PySem.W.codeIn K cd10 "pile_wide" = true) (k10 : PySem.W.keepIn K (.ref f10) = true)
    {f11 : Addr} {od11 an11 : Option Addr} {sl11 : Array (Option Value)} {oc11 kV11 dc11 pm11 cd11 ct11 : Value}
    (a11 : PySem.W.nsIn K mainGlobals "width" = some (some (.ref f11))) (l11 : K.lookup f11 = some ⟨oc11, od11, .func (PySem.W.fnOf "width" "width" (defArgs (topS 11)) (defBody (topS 11)) (defScope (topS 11)) .none kV11 dc11 pm11 an11 cd11 ct11), sl11⟩) (c11 : PySem.W.codeIn K cd11 "width" = true) (k11 : PySem.W.keepIn K (.ref f11) = true)
    {f12 : Addr} {od12 an12 : Option Addr} {sl12 : Array (Option Value)} {oc12 kV12 dc12 pm12 cd12 ct12 : Value}
    (a12 : PySem.W.nsIn K mainGlobals "lacking" = some (some (.ref f12))) (l12 : K.lookup f12 = some ⟨oc12, od12, .func (PySem.W.fnOf "lacking" "lacking" (defArgs (topS 12)) (defBody (topS 12)) (defScope (topS 12)) .none kV12 dc12 pm12 an12 cd12 ct12), sl12⟩) (c12 : PySem.W.codeIn K cd12 "lacking" = true) (k12 : PySem.W.keepIn K (.ref f12) = true)
    {f13 : Addr} {od13 an13 : Option Addr} {sl13 : Array (Option Value)} {oc13 kV13 dc13 pm13 cd13 ct13 : Value}
    (a13 : PySem.W.nsIn K mainGlobals "all_free" = some (some (.ref f13))) (l13 : K.lookup f13 = some ⟨oc13, od13, .func (PySem.W.fnOf "all_free" "all_free" (defArgs (topS 13)) (defBody (topS 13)) (defScope (topS 13)) .none kV13 dc13 pm13 an13 cd13 ct13), sl13⟩) (c13 : PySem.W.codeIn K cd13 "all_free" = true) (k13 : PySem.W.keepIn K (.ref f13) = true)
    {f14 dT14 : Addr} {od14 an14 dd14 : Option Addr} {sl14 sd14 : Array (Option Value)} {oc14 kV14 dc14 pm14 cd14 ct14 tc14 : Value} {dm14 : Nat} 
    (a14 : PySem.W.nsIn K mainGlobals "lack" = some (some (.ref f14))) (l14 : K.lookup f14 = some ⟨oc14, od14, .func (PySem.W.fnOf "lack" "lack" (defArgs (topS 14)) (defBody (topS 14)) (defScope (topS 14)) (.ref dT14) kV14 dc14 pm14 an14 cd14 ct14), sl14⟩) (c14 : PySem.W.codeIn K cd14 "lack" = true) (k14 : PySem.W.keepIn K (.ref f14) = true)
    (e14 : K.lookup dT14 = some ⟨tc14, dd14, .seq ([Value.none] : List Value).toArray dm14, sd14⟩)
    {f16 : Addr} {od16 an16 : Option Addr} {sl16 : Array (Option Value)} {oc16 kV16 dc16 pm16 cd16 ct16 : Value}
    (a16 : PySem.W.nsIn K mainGlobals "_law_source" = some (some (.ref f16))) (l16 : K.lookup f16 = some ⟨oc16, od16, .func (PySem.W.fnOf "_law_source" "_law_source" (defArgs (topS 16)) (defBody (topS 16)) (defScope (topS 16)) .none kV16 dc16 pm16 an16 cd16 ct16), sl16⟩) (c16 : PySem.W.codeIn K cd16 "_law_source" = true) (k16 : PySem.W.keepIn K (.ref f16) = true)
    {f17 : Addr} {od17 an17 : Option Addr} {sl17 : Array (Option Value)} {oc17 kV17 dc17 pm17 cd17 ct17 : Value}
    (a17 : PySem.W.nsIn K mainGlobals "_law_draw" = some (some (.ref f17))) (l17 : K.lookup f17 = some ⟨oc17, od17, .func (PySem.W.fnOf "_law_draw" "_law_draw" (defArgs (topS 17)) (defBody (topS 17)) (defScope (topS 17)) .none kV17 dc17 pm17 an17 cd17 ct17), sl17⟩) (c17 : PySem.W.codeIn K cd17 "_law_draw" = true) (k17 : PySem.W.keepIn K (.ref f17) = true)
    {f18 : Addr} {od18 an18 : Option Addr} {sl18 : Array (Option Value)} {oc18 kV18 dc18 pm18 cd18 ct18 : Value}
    (a18 : PySem.W.nsIn K mainGlobals "_law_lots" = some (some (.ref f18))) (l18 : K.lookup f18 = some ⟨oc18, od18, .func (PySem.W.fnOf "_law_lots" "_law_lots" (defArgs (topS 18)) (defBody (topS 18)) (defScope (topS 18)) .none kV18 dc18 pm18 an18 cd18 ct18), sl18⟩) (c18 : PySem.W.codeIn K cd18 "_law_lots" = true) (k18 : PySem.W.keepIn K (.ref f18) = true)
    {f19 : Addr} {od19 an19 : Option Addr} {sl19 : Array (Option Value)} {oc19 kV19 dc19 pm19 cd19 ct19 : Value}
    (a19 : PySem.W.nsIn K mainGlobals "_law_pile" = some (some (.ref f19))) (l19 : K.lookup f19 = some ⟨oc19, od19, .func (PySem.W.fnOf "_law_pile" "_law_pile" (defArgs (topS 19)) (defBody (topS 19)) (defScope (topS 19)) .none kV19 dc19 pm19 an19 cd19 ct19), sl19⟩) (c19 : PySem.W.codeIn K cd19 "_law_pile" = true) (k19 : PySem.W.keepIn K (.ref f19) = true)
    {f20 : Addr} {od20 an20 : Option Addr} {sl20 : Array (Option Value)} {oc20 kV20 dc20 pm20 cd20 ct20 : Value}
    (a20 : PySem.W.nsIn K mainGlobals "_law_count_of" = some (some (.ref f20))) (l20 : K.lookup f20 = some ⟨oc20, od20, .func (PySem.W.fnOf "_law_count_of" "_law_count_of" (defArgs (topS 20)) (defBody (topS 20)) (defScope (topS 20)) .none kV20 dc20 pm20 an20 cd20 ct20), sl20⟩) (c20 : PySem.W.codeIn K cd20 "_law_count_of" = true) (k20 : PySem.W.keepIn K (.ref f20) = true)
    {f21 : Addr} {od21 an21 : Option Addr} {sl21 : Array (Option Value)} {oc21 kV21 dc21 pm21 cd21 ct21 : Value}
    (a21 : PySem.W.nsIn K mainGlobals "_law_count" = some (some (.ref f21))) (l21 : K.lookup f21 = some ⟨oc21, od21, .func (PySem.W.fnOf "_law_count" "_law_count" (defArgs (topS 21)) (defBody (topS 21)) (defScope (topS 21)) .none kV21 dc21 pm21 an21 cd21 ct21), sl21⟩) (c21 : PySem.W.codeIn K cd21 "_law_count" = true) (k21 : PySem.W.keepIn K (.ref f21) = true)
    {f22 : Addr} {od22 an22 : Option Addr} {sl22 : Array (Option Value)} {oc22 kV22 dc22 pm22 cd22 ct22 : Value}
    (a22 : PySem.W.nsIn K mainGlobals "_law_free" = some (some (.ref f22))) (l22 : K.lookup f22 = some ⟨oc22, od22, .func (PySem.W.fnOf "_law_free" "_law_free" (defArgs (topS 22)) (defBody (topS 22)) (defScope (topS 22)) .none kV22 dc22 pm22 an22 cd22 ct22), sl22⟩) (c22 : PySem.W.codeIn K cd22 "_law_free" = true) (k22 : PySem.W.keepIn K (.ref f22) = true)
    {f23 : Addr} {od23 an23 : Option Addr} {sl23 : Array (Option Value)} {oc23 kV23 dc23 pm23 cd23 ct23 : Value}
    (a23 : PySem.W.nsIn K mainGlobals "_law_adds" = some (some (.ref f23))) (l23 : K.lookup f23 = some ⟨oc23, od23, .func (PySem.W.fnOf "_law_adds" "_law_adds" (defArgs (topS 23)) (defBody (topS 23)) (defScope (topS 23)) .none kV23 dc23 pm23 an23 cd23 ct23), sl23⟩) (c23 : PySem.W.codeIn K cd23 "_law_adds" = true) (k23 : PySem.W.keepIn K (.ref f23) = true)
    {f24 : Addr} {od24 an24 : Option Addr} {sl24 : Array (Option Value)} {oc24 kV24 dc24 pm24 cd24 ct24 : Value}
    (a24 : PySem.W.nsIn K mainGlobals "_law_widths" = some (some (.ref f24))) (l24 : K.lookup f24 = some ⟨oc24, od24, .func (PySem.W.fnOf "_law_widths" "_law_widths" (defArgs (topS 24)) (defBody (topS 24)) (defScope (topS 24)) .none kV24 dc24 pm24 an24 cd24 ct24), sl24⟩) (c24 : PySem.W.codeIn K cd24 "_law_widths" = true) (k24 : PySem.W.keepIn K (.ref f24) = true)
    {f25 : Addr} {od25 an25 : Option Addr} {sl25 : Array (Option Value)} {oc25 kV25 dc25 pm25 cd25 ct25 : Value}
    (a25 : PySem.W.nsIn K mainGlobals "_law_lack" = some (some (.ref f25))) (l25 : K.lookup f25 = some ⟨oc25, od25, .func (PySem.W.fnOf "_law_lack" "_law_lack" (defArgs (topS 25)) (defBody (topS 25)) (defScope (topS 25)) .none kV25 dc25 pm25 an25 cd25 ct25), sl25⟩) (c25 : PySem.W.codeIn K cd25 "_law_lack" = true) (k25 : PySem.W.keepIn K (.ref f25) = true)
    {f26 : Addr} {od26 an26 : Option Addr} {sl26 : Array (Option Value)} {oc26 kV26 dc26 pm26 cd26 ct26 : Value}
    (a26 : PySem.W.nsIn K mainGlobals "law" = some (some (.ref f26))) (l26 : K.lookup f26 = some ⟨oc26, od26, .func (PySem.W.fnOf "law" "law" (defArgs (topS 26)) (defBody (topS 26)) (defScope (topS 26)) .none kV26 dc26 pm26 an26 cd26 ct26), sl26⟩) (c26 : PySem.W.codeIn K cd26 "law" = true) (k26 : PySem.W.keepIn K (.ref f26) = true)
    (z0 : PySem.W.nsIn K mainGlobals "len" = some none) (z1 : PySem.W.nsIn K mainGlobals "int" = some none) (z2 : PySem.W.nsIn K mainGlobals "max" = some none) (z3 : PySem.W.nsIn K mainGlobals "min" = some none) (z4 : PySem.W.nsIn K mainGlobals "sum" = some none) (z5 : PySem.W.nsIn K mainGlobals "enumerate" = some none) (z6 : PySem.W.nsIn K mainGlobals "range" = some none) (z7 : PySem.W.nsIn K mainGlobals "tuple" = some none) (z8 : PySem.W.nsIn K mainGlobals "sorted" = some none) (z9 : PySem.W.nsIn K mainGlobals "repr" = some none) :
    ∃ fd : FuncData, (∀ (s : Shared) (v : Value), BindsTo s fd ⟨[v], []⟩ [("script", v)]) ∧ ∀ base : Heap, K.In base → base.Ns mainGlobals mg → FnZ ⟨l.prog, w, K, mg, base⟩ 27 fa fd ["script"] (spZ K 1 φ26) := by
  have e := hfa.symm.trans (PySem.W.mg_of X G a26)
  cases e
  have U5 := fun_mk (st := topS 5) l5 c5 k5
  have U6 := fun_mk (st := topS 6) l6 c6 k6
  have U7 := fun_mk (st := topS 7) l7 c7 k7
  have U8 := fun_mk (st := topS 8) l8 c8 k8
  have U9 := fun_mk (st := topS 9) l9 c9 k9
  have U10 := fun_mk (st := topS 10) l10 c10 k10
  have U11 := fun_mk (st := topS 11) l11 c11 k11
  have U12 := fun_mk (st := topS 12) l12 c12 k12
  have U13 := fun_mk (st := topS 13) l13 c13 k13
  have V14 := funD_mk (st := topS 14) l14 c14 k14 e14 (dvs := [V.non]) (.cons rfl (.nil)) (List.cons_ne_nil _ _)
  have U16 := fun_mk (st := topS 16) l16 c16 k16
  have U17 := fun_mk (st := topS 17) l17 c17 k17
  have U18 := fun_mk (st := topS 18) l18 c18 k18
  have U19 := fun_mk (st := topS 19) l19 c19 k19
  have U20 := fun_mk (st := topS 20) l20 c20 k20
  have U21 := fun_mk (st := topS 21) l21 c21 k21
  have U22 := fun_mk (st := topS 22) l22 c22 k22
  have U23 := fun_mk (st := topS 23) l23 c23 k23
  have U24 := fun_mk (st := topS 24) l24 c24 k24
  have U25 := fun_mk (st := topS 25) l25 c25 k25
  have U26 := fun_mk (st := topS 26) l26 c26 k26
  refine ⟨PySem.W.fnOf "law" "law" (defArgs (topS 26)) (defBody (topS 26)) (defScope (topS 26)) .none kV26 dc26 pm26 an26 cd26 ct26, fun s v => .of_eq rfl, fun base _ _ => ?_⟩
  have hbl : ∀ y ∈ bs, mg y = none := fun y hy => by
    simp only [bs, List.mem_cons, List.not_mem_nil, or_false] at hy
    rcases hy with rfl | rfl | rfl | rfl | rfl | rfl | rfl | rfl | rfl | rfl
    · exact PySem.W.mg_none_of X G z0
    · exact PySem.W.mg_none_of X G z1
    · exact PySem.W.mg_none_of X G z2
    · exact PySem.W.mg_none_of X G z3
    · exact PySem.W.mg_none_of X G z4
    · exact PySem.W.mg_none_of X G z5
    · exact PySem.W.mg_none_of X G z6
    · exact PySem.W.mg_none_of X G z7
    · exact PySem.W.mg_none_of X G z8
    · exact PySem.W.mg_none_of X G z9
  have F5 : Fz ⟨l.prog, w, K, mg, base⟩ 6 "ask_name" 2 φ5 := fz_mk (bs := bs) (k := 5) U5 (PySem.W.mg_of X G a5) (U5.binds (ps := ["count", "name"]) fun _ _ _ _ _ _ us hl => match us, hl with | [_, _], _ => rfl) rfl sc5 rfl hbl fun X c => zb5  c
  have F6 : Fz ⟨l.prog, w, K, mg, base⟩ 7 "ask_pile" 2 φ6 := fz_mk (bs := bs) (k := 6) U6 (PySem.W.mg_of X G a6) (U6.binds (ps := ["count", "pile"]) fun _ _ _ _ _ _ us hl => match us, hl with | [_, _], _ => rfl) rfl sc6 rfl hbl fun X c => zb6  c
  have F7 : Fz ⟨l.prog, w, K, mg, base⟩ 8 "adds" 4 φ7 := fz_mk (bs := bs) (k := 7) U7 (PySem.W.mg_of X G a7) (U7.binds (ps := ["name", "number", "one", "other"]) fun _ _ _ _ _ _ us hl => match us, hl with | [_, _, _, _], _ => rfl) rfl sc7 rfl hbl fun X c => zb7  c
  have F8 : Fz ⟨l.prog, w, K, mg, base⟩ 9 "told_adds" 3 φ8 := fz_mk (bs := bs) (k := 8) U8 (PySem.W.mg_of X G a8) (U8.binds (ps := ["row", "one", "other"]) fun _ _ _ _ _ _ us hl => match us, hl with | [_, _, _], _ => rfl) rfl sc8 rfl hbl fun X c => zb8 (F7.mono (by decide)) c
  have F9 : Fz ⟨l.prog, w, K, mg, base⟩ 10 "least_adds" 3 φ9 := fz_mk (bs := bs) (k := 9) U9 (PySem.W.mg_of X G a9) (U9.binds (ps := ["row", "one", "other"]) fun _ _ _ _ _ _ us hl => match us, hl with | [_, _, _], _ => rfl) rfl sc9 rfl hbl fun X c => zb9 (F7.mono (by decide)) c
  have F10 : Fz ⟨l.prog, w, K, mg, base⟩ 11 "pile_wide" 3 φ10 := fz_mk (bs := bs) (k := 10) U10 (PySem.W.mg_of X G a10) (U10.binds (ps := ["row", "one", "other"]) fun _ _ _ _ _ _ us hl => match us, hl with | [_, _, _], _ => rfl) rfl sc10 rfl hbl fun X c => zb10 (F8.mono (by decide)) (F9.mono (by decide)) c
  have F11 : Fz ⟨l.prog, w, K, mg, base⟩ 12 "width" 4 φ11 := fz_mk (bs := bs) (k := 11) U11 (PySem.W.mg_of X G a11) (U11.binds (ps := ["count", "pile", "one", "other"]) fun _ _ _ _ _ _ us hl => match us, hl with | [_, _, _, _], _ => rfl) rfl sc11 rfl hbl fun X c => zb11 (F6.mono (by decide)) (F5.mono (by decide)) (F10.mono (by decide)) c
  have F12 : Fz ⟨l.prog, w, K, mg, base⟩ 13 "lacking" 4 φ12 := fz_mk (bs := bs) (k := 12) U12 (PySem.W.mg_of X G a12) (U12.binds (ps := ["count", "one", "other", "free"]) fun _ _ _ _ _ _ us hl => match us, hl with | [_, _, _, _], _ => rfl) rfl sc12 rfl hbl fun X c => zb12 (F7.mono (by decide)) (F8.mono (by decide)) (F9.mono (by decide)) c
  have F13 : Fz ⟨l.prog, w, K, mg, base⟩ 14 "all_free" 2 φ13 := fz_mk (bs := bs) (k := 13) U13 (PySem.W.mg_of X G a13) (U13.binds (ps := ["count", "free"]) fun _ _ _ _ _ _ us hl => match us, hl with | [_, _], _ => rfl) rfl sc13 rfl hbl fun X c => zb13 (F6.mono (by decide)) c
  have D14 := fd_mk (G := ⟨l.prog, w, K, mg, base⟩) (bs := bs) (k := 14) (x := "lack") (n := 4) V14 (PySem.W.mg_of X G a14) rfl sc14 rfl hbl fun X c => zb14 (F5.mono (by decide)) (F12.mono (by decide)) (F13.mono (by decide)) c
  obtain ⟨_, vv14, bb14⟩ := V14.binds1 (ps := ["count", "one", "other", "free"]) 4 1 (List.cons_ne_nil _ _) rfl (fun _ _ _ _ _ _ _ us its h1 h2 => match us, h1, its, h2 with | [_, _, _, _], _, [_], _ => ⟨_, rfl, rfl⟩)
  cases vv14
  have F14 := D14.fz bb14
  have kb14_3 := FunD_kb (ps := ["count", "one", "other", "free"]) V14 3 ["free"] (List.cons_ne_nil _ _) (fun _ _ _ _ _ _ _ us its ws h1 h2 h3 => match us, h1, its, h2, ws, h3 with | [_, _, _], _, [_], _, [_], _ => ⟨_, rfl, rfl⟩)
  obtain ⟨_, rd14_3, hb14_3⟩ := V14.binds1 (ps := ["count", "one", "other", "free"]) 3 0 (List.cons_ne_nil _ _) rfl (fun _ _ _ _ _ _ _ us its h1 h2 => match us, h1, its, h2 with | [_, _, _], _, [_], _ => ⟨_, rfl, rfl⟩)
  have F16 : Fz ⟨l.prog, w, K, mg, base⟩ 17 "_law_source" 1 φ16 := fz_mkN (bs := bs) (k := 16) U16 (PySem.W.mg_of X G a16) (U16.binds (ps := ["script"]) fun _ _ _ _ _ _ us hl => match us, hl with | [_], _ => rfl) rfl sc16 rfl hbl fun X c => zb16  c
  have F17 : Fz ⟨l.prog, w, K, mg, base⟩ 18 "_law_draw" 2 φ17 := fz_mk (bs := bs) (k := 17) U17 (PySem.W.mg_of X G a17) (U17.binds (ps := ["feed", "many"]) fun _ _ _ _ _ _ us hl => match us, hl with | [_, _], _ => rfl) rfl sc17 rfl hbl fun X c => zb17  c
  have F18 : Fz ⟨l.prog, w, K, mg, base⟩ 19 "_law_lots" 2 φ18 := fz_mk (bs := bs) (k := 18) U18 (PySem.W.mg_of X G a18) (U18.binds (ps := ["feed", "many"]) fun _ _ _ _ _ _ us hl => match us, hl with | [_, _], _ => rfl) rfl sc18 rfl hbl fun X c => zb18 (F17.mono (by decide)) c
  have F19 : Fz ⟨l.prog, w, K, mg, base⟩ 20 "_law_pile" 4 φ19 := fz_mk (bs := bs) (k := 19) U19 (PySem.W.mg_of X G a19) (U19.binds (ps := ["feed", "lots", "is_great", "may_differ"]) fun _ _ _ _ _ _ us hl => match us, hl with | [_, _, _, _], _ => rfl) rfl sc19 rfl hbl fun X c => zb19 (F17.mono (by decide)) c
  have F20 : Fz ⟨l.prog, w, K, mg, base⟩ 21 "_law_count_of" 5 φ20 := fz_mk (bs := bs) (k := 20) U20 (PySem.W.mg_of X G a20) (U20.binds (ps := ["feed", "lots", "many", "is_great", "doubtful"]) fun _ _ _ _ _ _ us hl => match us, hl with | [_, _, _, _, _], _ => rfl) rfl sc20 rfl hbl fun X c => zb20 (F19.mono (by decide)) (F17.mono (by decide)) c
  have F21 : Fz ⟨l.prog, w, K, mg, base⟩ 22 "_law_count" 2 φ21 := fz_mk (bs := bs) (k := 21) U21 (PySem.W.mg_of X G a21) (U21.binds (ps := ["feed", "most"]) fun _ _ _ _ _ _ us hl => match us, hl with | [_, _], _ => rfl) rfl sc21 rfl hbl fun X c => zb21 (F17.mono (by decide)) (F18.mono (by decide)) (F20.mono (by decide)) c
  have F22 : Fz ⟨l.prog, w, K, mg, base⟩ 23 "_law_free" 2 φ22 := fz_mk (bs := bs) (k := 22) U22 (PySem.W.mg_of X G a22) (U22.binds (ps := ["feed", "count"]) fun _ _ _ _ _ _ us hl => match us, hl with | [_, _], _ => rfl) rfl sc22 rfl hbl fun X c => zb22 (F17.mono (by decide)) c
  have F23 : Fz ⟨l.prog, w, K, mg, base⟩ 24 "_law_adds" 4 φ23 := fz_mk (bs := bs) (k := 23) U23 (PySem.W.mg_of X G a23) (U23.binds (ps := ["name", "number", "one", "other"]) fun _ _ _ _ _ _ us hl => match us, hl with | [_, _, _, _], _ => rfl) rfl sc23 rfl hbl fun X c => zb23  c
  have F24 : Fz ⟨l.prog, w, K, mg, base⟩ 25 "_law_widths" 3 φ24 := fz_mk (bs := bs) (k := 24) U24 (PySem.W.mg_of X G a24) (U24.binds (ps := ["count", "one", "other"]) fun _ _ _ _ _ _ us hl => match us, hl with | [_, _, _], _ => rfl) rfl sc24 rfl hbl fun X c => zb24 (F23.mono (by decide)) c
  have F25 : Fz ⟨l.prog, w, K, mg, base⟩ 26 "_law_lack" 4 φ25 := fz_mk (bs := bs) (k := 25) U25 (PySem.W.mg_of X G a25) (U25.binds (ps := ["count", "one", "other", "fixed"]) fun _ _ _ _ _ _ us hl => match us, hl with | [_, _, _, _], _ => rfl) rfl sc25 rfl hbl fun X c => zb25 (F24.mono (by decide)) (F23.mono (by decide)) c
  exact z_fn (k := 26) U26 sc26 rfl hbl fun X c => zb26 (F16.mono (by decide)) (F21.mono (by decide)) (F22.mono (by decide)) (F24.mono (by decide)) (F11.mono (by decide)) (F25.mono (by decide)) (D14.mono (by decide)) kb14_3 rd14_3 hb14_3 c
end Lwk37

namespace Z
open PySem PySem.Spec L2
theorem sl_strs {xs : List Str} {k : Int} {s : Sto} (h : 0 ≤ k) : gSl (.tup (xs.map .str)) none (some k) s = .ok (.tup ((xs.take k.toNat).map .str)) s := by
  show Rs.ok (Dv.tup (cutD _ _ _)) s = _
  rw [cut_take h, List.map_take]
end Z
namespace Lwk37
open PySem PySem.Spec L2 Z
theorem plain : ∀ ns : List Int, ns.length ≤ 63 → ∃ s', φ26 [.ls (ns.map .int)] [] = .ok (.bl true) s' := by
  intro ns _
  have hS : SourceS φ16 := source_spec
  have hD : DrawS φ17 := draw_spec
  have hL : LotsC φ18 := lotsC_spec hD
  have hP : PileC φ19 := pileC_spec hD
  have hO : CountO φ20 := countO_spec hD hP
  have hC : CountC φ21 := countC_spec hD hL hO
  have hF : FreeC φ22 := free_spec hD
  have hA : AddsS φ7 := adds_spec
  have hA2 : AddsS φ23 := lawAdds_spec
  have hT : ToldA φ8 := toldA_spec hA
  have hLe : LeastA φ9 := leastA_spec hA
  have hWi : WideA φ10 := wide_spec hT hLe
  have hAP : AskP φ6 := askP_spec
  have hAN : AskN φ5 := askN_spec
  have hWd : WidthA φ11 := width_spec hAP hAN hWi
  have hLw : LawW φ24 := lawW_spec hA2
  have hLg : LackingA φ12 := lacking_spec hA hT hLe
  have hFr : FreeA φ13 := freeA_spec hAP
  have hLk : LackA φ14 := lack_spec hAN hLg hFr
  have hLl : LawL φ25 := lawL_spec hA2 hLw
  suffices h : Ok (φ26 [.ls (ns.map .int)] []) (fun d s' => d = .bl true) by
    obtain ⟨d, s', e, rfl⟩ := h.get
    exact ⟨s', e⟩
  show Ok (fDef 1 12 b26 _ _) _
  rw [ok_def]
  refine ⟨rfl, ?_⟩
  unfold b26
  simp only [ok_ok, kDrop_ap, kRet_ap, kSet_ap, kCons2_ap, kCons_ap, kTup_ap, kLst_ap, kVal_ap, kNew_ap, kBin2_ap, kBin_ap, kUn_ap, kCall_ap, kCallL_ap, kNotT_ap, kAndT_ap, kOrT_ap, kIf_ap, kIfS_ap, kAnd_ap, kOr_ap, kNot_ap, kMt2_ap, kMt_ap, kPut4_ap, kPut3_ap, kPut2_ap, kPut_ap, kExt2_ap, kExt_ap, kAsg2_ap, kAsg_ap, kFor_ap, kLc_ap, kSl3_ap, kSl2_ap, kSl_ap, kGs_ap, ok_seq, sq_next, sq_ret, sq_brk, sq_cont, ok_nop, ok_brk, ok_cont, ok_drop, ok_ret, ok_retN, ok_set, ok_var0, ok_varS, ok_c, ok_nil, ok_cons, ok_tup, ok_lst, ok_val, ok_new, ok_bin, ok_un, ok_call, ok_callL, ok_test, tst_bl, ok_notT, ok_andT, ok_orT, ok_if, ok_ifS, ok_and, ok_or, ok_not, ok_mt, ok_put, ok_extend, pr2_mk, ok_par2, ok_asg, ok_for, ok_lc, ok_yes, ok_noPart, prt_int, ok_part, ok_sl, ok_gNm, ok_gTp, ok_gsN, ok_gsC, rg1_mk, rg2_mk, ok_rng1, ok_rng2, srcK_tup, srcK_ls, ok_src, finK_next, finK_ret, List.set_cons_zero, List.set_cons_succ, List.map_cons, List.map_nil, List.replicate, List.cons_append, List.nil_append, List.length_cons, List.length_nil, Bool.false_eq_true, eq_self, if_true, if_false, Nat.zero_add]
  refine (hS ns).mono ?_
  rintro d s ⟨t, rfl, rfl, hw, hc0⟩
  simp only [ok_ok, kDrop_ap, kRet_ap, kSet_ap, kCons2_ap, kCons_ap, kTup_ap, kLst_ap, kVal_ap, kNew_ap, kBin2_ap, kBin_ap, kUn_ap, kCall_ap, kCallL_ap, kNotT_ap, kAndT_ap, kOrT_ap, kIf_ap, kIfS_ap, kAnd_ap, kOr_ap, kNot_ap, kMt2_ap, kMt_ap, kPut4_ap, kPut3_ap, kPut2_ap, kPut_ap, kExt2_ap, kExt_ap, kAsg2_ap, kAsg_ap, kFor_ap, kLc_ap, kSl3_ap, kSl2_ap, kSl_ap, kGs_ap, ok_seq, sq_next, sq_ret, sq_brk, sq_cont, ok_nop, ok_brk, ok_cont, ok_drop, ok_ret, ok_retN, ok_set, ok_var0, ok_varS, ok_c, ok_nil, ok_cons, ok_tup, ok_lst, ok_val, ok_new, ok_bin, ok_un, ok_call, ok_callL, ok_test, tst_bl, ok_notT, ok_andT, ok_orT, ok_if, ok_ifS, ok_and, ok_or, ok_not, ok_mt, ok_put, ok_extend, pr2_mk, ok_par2, ok_asg, ok_for, ok_lc, ok_yes, ok_noPart, prt_int, ok_part, ok_sl, ok_gNm, ok_gTp, ok_gsN, ok_gsC, rg1_mk, rg2_mk, ok_rng1, ok_rng2, srcK_tup, srcK_ls, ok_src, finK_next, finK_ret, List.set_cons_zero, List.set_cons_succ, List.map_cons, List.map_nil, List.replicate, List.cons_append, List.nil_append, List.length_cons, List.length_nil, Bool.false_eq_true, eq_self, if_true, if_false, Nat.zero_add]
  refine ⟨rfl, ?_⟩
  refine ok_loop (fun i env s => ∃ (t' : Feed) (vs : List (Option Dv)), vs.length = 10 ∧ env = some (.ls (ns.map .int)) :: some (.loc 0) :: vs ∧ s = [feedOb t'] ∧ t'.Wf ∧ t'.calls ≤ 2000 * i)
    (fun _ _ _ _ => rfl) (fun i d env s hd h => ?_) (fun env s h => ?_) ⟨t, _, rfl, rfl, rfl, hw, by omega⟩
  · obtain ⟨t1, vs, hvl, rfl, rfl, hw1, hl1⟩ := h
    obtain ⟨hi, rfl⟩ := rngD_get hd
    have hi2 : i < 3 := hi
    obtain ⟨v2, v3, v4, v5, v6, v7, v8, v9, v10, v11, rfl⟩ : ∃ v2 v3 v4 v5 v6 v7 v8 v9 v10 v11, vs = [v2, v3, v4, v5, v6, v7, v8, v9, v10, v11] := by
      match vs, hvl with
      | [v2, v3, v4, v5, v6, v7, v8, v9, v10, v11], _ => exact ⟨v2, v3, v4, v5, v6, v7, v8, v9, v10, v11, rfl⟩
    obtain ⟨most, em, hm⟩ := pick3 (a := 8) (b := 10) (c := 5) (x := (0 : Int) + (i : Int)) (by omega) (by omega)
    simp only [ok_ok, kDrop_ap, kRet_ap, kSet_ap, kCons2_ap, kCons_ap, kTup_ap, kLst_ap, kVal_ap, kNew_ap, kBin2_ap, kBin_ap, kUn_ap, kCall_ap, kCallL_ap, kNotT_ap, kAndT_ap, kOrT_ap, kIf_ap, kIfS_ap, kAnd_ap, kOr_ap, kNot_ap, kMt2_ap, kMt_ap, kPut4_ap, kPut3_ap, kPut2_ap, kPut_ap, kExt2_ap, kExt_ap, kAsg2_ap, kAsg_ap, kFor_ap, kLc_ap, kSl3_ap, kSl2_ap, kSl_ap, kGs_ap, ok_seq, sq_next, sq_ret, sq_brk, sq_cont, ok_nop, ok_brk, ok_cont, ok_drop, ok_ret, ok_retN, ok_set, ok_var0, ok_varS, ok_c, ok_nil, ok_cons, ok_tup, ok_lst, ok_val, ok_new, ok_bin, ok_un, ok_call, ok_callL, ok_test, tst_bl, ok_notT, ok_andT, ok_orT, ok_if, ok_ifS, ok_and, ok_or, ok_not, ok_mt, ok_put, ok_extend, pr2_mk, ok_par2, ok_asg, ok_for, ok_lc, ok_yes, ok_noPart, prt_int, ok_part, ok_sl, ok_gNm, ok_gTp, ok_gsN, ok_gsC, rg1_mk, rg2_mk, ok_rng1, ok_rng2, srcK_tup, srcK_ls, ok_src, finK_next, finK_ret, List.set_cons_zero, List.set_cons_succ, List.map_cons, List.map_nil, List.replicate, List.cons_append, List.nil_append, List.length_cons, List.length_nil, Bool.false_eq_true, eq_self, if_true, if_false, Nat.zero_add]
    refine ⟨rfl, ?_⟩
    rw [em]
    simp only [ok_ok, kDrop_ap, kRet_ap, kSet_ap, kCons2_ap, kCons_ap, kTup_ap, kLst_ap, kVal_ap, kNew_ap, kBin2_ap, kBin_ap, kUn_ap, kCall_ap, kCallL_ap, kNotT_ap, kAndT_ap, kOrT_ap, kIf_ap, kIfS_ap, kAnd_ap, kOr_ap, kNot_ap, kMt2_ap, kMt_ap, kPut4_ap, kPut3_ap, kPut2_ap, kPut_ap, kExt2_ap, kExt_ap, kAsg2_ap, kAsg_ap, kFor_ap, kLc_ap, kSl3_ap, kSl2_ap, kSl_ap, kGs_ap, ok_seq, sq_next, sq_ret, sq_brk, sq_cont, ok_nop, ok_brk, ok_cont, ok_drop, ok_ret, ok_retN, ok_set, ok_var0, ok_varS, ok_c, ok_nil, ok_cons, ok_tup, ok_lst, ok_val, ok_new, ok_bin, ok_un, ok_call, ok_callL, ok_test, tst_bl, ok_notT, ok_andT, ok_orT, ok_if, ok_ifS, ok_and, ok_or, ok_not, ok_mt, ok_put, ok_extend, pr2_mk, ok_par2, ok_asg, ok_for, ok_lc, ok_yes, ok_noPart, prt_int, ok_part, ok_sl, ok_gNm, ok_gTp, ok_gsN, ok_gsC, rg1_mk, rg2_mk, ok_rng1, ok_rng2, srcK_tup, srcK_ls, ok_src, finK_next, finK_ret, List.set_cons_zero, List.set_cons_succ, List.map_cons, List.map_nil, List.replicate, List.cons_append, List.nil_append, List.length_cons, List.length_nil, Bool.false_eq_true, eq_self, if_true, if_false, Nat.zero_add]
    refine (hC t1 [] most hw1 (by omega) (by omega) (by omega) Fl.nil).mono ?_
    rintro d s ⟨c, t2, rfl, hc, rfl, hw2, hg2, hl2⟩
    have np := hc.npiles
    simp only [ok_ok, kDrop_ap, kRet_ap, kSet_ap, kCons2_ap, kCons_ap, kTup_ap, kLst_ap, kVal_ap, kNew_ap, kBin2_ap, kBin_ap, kUn_ap, kCall_ap, kCallL_ap, kNotT_ap, kAndT_ap, kOrT_ap, kIf_ap, kIfS_ap, kAnd_ap, kOr_ap, kNot_ap, kMt2_ap, kMt_ap, kPut4_ap, kPut3_ap, kPut2_ap, kPut_ap, kExt2_ap, kExt_ap, kAsg2_ap, kAsg_ap, kFor_ap, kLc_ap, kSl3_ap, kSl2_ap, kSl_ap, kGs_ap, ok_seq, sq_next, sq_ret, sq_brk, sq_cont, ok_nop, ok_brk, ok_cont, ok_drop, ok_ret, ok_retN, ok_set, ok_var0, ok_varS, ok_c, ok_nil, ok_cons, ok_tup, ok_lst, ok_val, ok_new, ok_bin, ok_un, ok_call, ok_callL, ok_test, tst_bl, ok_notT, ok_andT, ok_orT, ok_if, ok_ifS, ok_and, ok_or, ok_not, ok_mt, ok_put, ok_extend, pr2_mk, ok_par2, ok_asg, ok_for, ok_lc, ok_yes, ok_noPart, prt_int, ok_part, ok_sl, ok_gNm, ok_gTp, ok_gsN, ok_gsC, rg1_mk, rg2_mk, ok_rng1, ok_rng2, srcK_tup, srcK_ls, ok_src, finK_next, finK_ret, List.set_cons_zero, List.set_cons_succ, List.map_cons, List.map_nil, List.replicate, List.cons_append, List.nil_append, List.length_cons, List.length_nil, Bool.false_eq_true, eq_self, if_true, if_false, Nat.zero_add]
    refine (hF t2 [] c hw2 (by omega) np Fl.nil).mono ?_
    rintro d s ⟨fr, t3, rfl, hfr, hfl3, rfl, hw3, hg3, hl3⟩
    have hfl : Fl [feedOb t3] := Fl.feed Fl.nil
    have ho : ∀ p ∈ c.piles, p.others.length ≤ 1000 := fun p hp => by
      rcases (hc.piles p hp).others with q | ⟨ws, q, h1, _, h3⟩
      · rw [q]; exact Nat.zero_le _
      · rw [q, srtS_len]; omega
    simp only [ok_ok, kDrop_ap, kRet_ap, kSet_ap, kCons2_ap, kCons_ap, kTup_ap, kLst_ap, kVal_ap, kNew_ap, kBin2_ap, kBin_ap, kUn_ap, kCall_ap, kCallL_ap, kNotT_ap, kAndT_ap, kOrT_ap, kIf_ap, kIfS_ap, kAnd_ap, kOr_ap, kNot_ap, kMt2_ap, kMt_ap, kPut4_ap, kPut3_ap, kPut2_ap, kPut_ap, kExt2_ap, kExt_ap, kAsg2_ap, kAsg_ap, kFor_ap, kLc_ap, kSl3_ap, kSl2_ap, kSl_ap, kGs_ap, ok_seq, sq_next, sq_ret, sq_brk, sq_cont, ok_nop, ok_brk, ok_cont, ok_drop, ok_ret, ok_retN, ok_set, ok_var0, ok_varS, ok_c, ok_nil, ok_cons, ok_tup, ok_lst, ok_val, ok_new, ok_bin, ok_un, ok_call, ok_callL, ok_test, tst_bl, ok_notT, ok_andT, ok_orT, ok_if, ok_ifS, ok_and, ok_or, ok_not, ok_mt, ok_put, ok_extend, pr2_mk, ok_par2, ok_asg, ok_for, ok_lc, ok_yes, ok_noPart, prt_int, ok_part, ok_sl, ok_gNm, ok_gTp, ok_gsN, ok_gsC, rg1_mk, rg2_mk, ok_rng1, ok_rng2, srcK_tup, srcK_ls, ok_src, finK_next, finK_ret, List.set_cons_zero, List.set_cons_succ, List.map_cons, List.map_nil, List.replicate, List.cons_append, List.nil_append, List.length_cons, List.length_nil, Bool.false_eq_true, eq_self, if_true, if_false, Nat.zero_add]
    refine ⟨rfl, ?_⟩
    simp only [ok_ok, kDrop_ap, kRet_ap, kSet_ap, kCons2_ap, kCons_ap, kTup_ap, kLst_ap, kVal_ap, kNew_ap, kBin2_ap, kBin_ap, kUn_ap, kCall_ap, kCallL_ap, kNotT_ap, kAndT_ap, kOrT_ap, kIf_ap, kIfS_ap, kAnd_ap, kOr_ap, kNot_ap, kMt2_ap, kMt_ap, kPut4_ap, kPut3_ap, kPut2_ap, kPut_ap, kExt2_ap, kExt_ap, kAsg2_ap, kAsg_ap, kFor_ap, kLc_ap, kSl3_ap, kSl2_ap, kSl_ap, kGs_ap, ok_seq, sq_next, sq_ret, sq_brk, sq_cont, ok_nop, ok_brk, ok_cont, ok_drop, ok_ret, ok_retN, ok_set, ok_var0, ok_varS, ok_c, ok_nil, ok_cons, ok_tup, ok_lst, ok_val, ok_new, ok_bin, ok_un, ok_call, ok_callL, ok_test, tst_bl, ok_notT, ok_andT, ok_orT, ok_if, ok_ifS, ok_and, ok_or, ok_not, ok_mt, ok_put, ok_extend, pr2_mk, ok_par2, ok_asg, ok_for, ok_lc, ok_yes, ok_noPart, prt_int, ok_part, ok_sl, ok_gNm, ok_gTp, ok_gsN, ok_gsC, rg1_mk, rg2_mk, ok_rng1, ok_rng2, srcK_tup, srcK_ls, ok_src, finK_next, finK_ret, List.set_cons_zero, List.set_cons_succ, List.map_cons, List.map_nil, List.replicate, List.cons_append, List.nil_append, List.length_cons, List.length_nil, Bool.false_eq_true, eq_self, if_true, if_false, Nat.zero_add, repr_cf hc hfr hfl3, ixC0]
    rw [show encS c.lots = .tup (c.lots.map .str) from rfl, sl_strs (by decide)]
    simp only [ok_ok, kDrop_ap, kRet_ap, kSet_ap, kCons2_ap, kCons_ap, kTup_ap, kLst_ap, kVal_ap, kNew_ap, kBin2_ap, kBin_ap, kUn_ap, kCall_ap, kCallL_ap, kNotT_ap, kAndT_ap, kOrT_ap, kIf_ap, kIfS_ap, kAnd_ap, kOr_ap, kNot_ap, kMt2_ap, kMt_ap, kPut4_ap, kPut3_ap, kPut2_ap, kPut_ap, kExt2_ap, kExt_ap, kAsg2_ap, kAsg_ap, kFor_ap, kLc_ap, kSl3_ap, kSl2_ap, kSl_ap, kGs_ap, ok_seq, sq_next, sq_ret, sq_brk, sq_cont, ok_nop, ok_brk, ok_cont, ok_drop, ok_ret, ok_retN, ok_set, ok_var0, ok_varS, ok_c, ok_nil, ok_cons, ok_tup, ok_lst, ok_val, ok_new, ok_bin, ok_un, ok_call, ok_callL, ok_test, tst_bl, ok_notT, ok_andT, ok_orT, ok_if, ok_ifS, ok_and, ok_or, ok_not, ok_mt, ok_put, ok_extend, pr2_mk, ok_par2, ok_asg, ok_for, ok_lc, ok_yes, ok_noPart, prt_int, ok_part, ok_sl, ok_gNm, ok_gTp, ok_gsN, ok_gsC, rg1_mk, rg2_mk, ok_rng1, ok_rng2, srcK_tup, srcK_ls, ok_src, finK_next, finK_ret, List.set_cons_zero, List.set_cons_succ, List.map_cons, List.map_nil, List.replicate, List.cons_append, List.nil_append, List.length_cons, List.length_nil, Bool.false_eq_true, eq_self, if_true, if_false, Nat.zero_add]
    rw [sl_strs (by decide)]
    simp only [ok_ok, kDrop_ap, kRet_ap, kSet_ap, kCons2_ap, kCons_ap, kTup_ap, kLst_ap, kVal_ap, kNew_ap, kBin2_ap, kBin_ap, kUn_ap, kCall_ap, kCallL_ap, kNotT_ap, kAndT_ap, kOrT_ap, kIf_ap, kIfS_ap, kAnd_ap, kOr_ap, kNot_ap, kMt2_ap, kMt_ap, kPut4_ap, kPut3_ap, kPut2_ap, kPut_ap, kExt2_ap, kExt_ap, kAsg2_ap, kAsg_ap, kFor_ap, kLc_ap, kSl3_ap, kSl2_ap, kSl_ap, kGs_ap, ok_seq, sq_next, sq_ret, sq_brk, sq_cont, ok_nop, ok_brk, ok_cont, ok_drop, ok_ret, ok_retN, ok_set, ok_var0, ok_varS, ok_c, ok_nil, ok_cons, ok_tup, ok_lst, ok_val, ok_new, ok_bin, ok_un, ok_call, ok_callL, ok_test, tst_bl, ok_notT, ok_andT, ok_orT, ok_if, ok_ifS, ok_and, ok_or, ok_not, ok_mt, ok_put, ok_extend, pr2_mk, ok_par2, ok_asg, ok_for, ok_lc, ok_yes, ok_noPart, prt_int, ok_part, ok_sl, ok_gNm, ok_gTp, ok_gsN, ok_gsC, rg1_mk, rg2_mk, ok_rng1, ok_rng2, srcK_tup, srcK_ls, ok_src, finK_next, finK_ret, List.set_cons_zero, List.set_cons_succ, List.map_cons, List.map_nil, List.replicate, List.cons_append, List.nil_append, List.length_cons, List.length_nil, Bool.false_eq_true, eq_self, if_true, if_false, Nat.zero_add]
    obtain ⟨us, hus, hul⟩ : ∃ us : List Str, us = c.lots.take (3 : Int).toNat ∧ ∀ x ∈ us, x ∈ c.lots := ⟨_, rfl, fun x hx => List.mem_of_mem_take hx⟩
    rw [← hus]
    have ul : us.length ≤ 3 := by rw [hus, List.length_take]; exact Nat.min_le_left _ _
    rw [add_tup (by rw [List.length_map, List.length_map, List.length_take]; omega), ← List.map_append]
    simp only [ok_ok, kDrop_ap, kRet_ap, kSet_ap, kCons2_ap, kCons_ap, kTup_ap, kLst_ap, kVal_ap, kNew_ap, kBin2_ap, kBin_ap, kUn_ap, kCall_ap, kCallL_ap, kNotT_ap, kAndT_ap, kOrT_ap, kIf_ap, kIfS_ap, kAnd_ap, kOr_ap, kNot_ap, kMt2_ap, kMt_ap, kPut4_ap, kPut3_ap, kPut2_ap, kPut_ap, kExt2_ap, kExt_ap, kAsg2_ap, kAsg_ap, kFor_ap, kLc_ap, kSl3_ap, kSl2_ap, kSl_ap, kGs_ap, ok_seq, sq_next, sq_ret, sq_brk, sq_cont, ok_nop, ok_brk, ok_cont, ok_drop, ok_ret, ok_retN, ok_set, ok_var0, ok_varS, ok_c, ok_nil, ok_cons, ok_tup, ok_lst, ok_val, ok_new, ok_bin, ok_un, ok_call, ok_callL, ok_test, tst_bl, ok_notT, ok_andT, ok_orT, ok_if, ok_ifS, ok_and, ok_or, ok_not, ok_mt, ok_put, ok_extend, pr2_mk, ok_par2, ok_asg, ok_for, ok_lc, ok_yes, ok_noPart, prt_int, ok_part, ok_sl, ok_gNm, ok_gTp, ok_gsN, ok_gsC, rg1_mk, rg2_mk, ok_rng1, ok_rng2, srcK_tup, srcK_ls, ok_src, finK_next, finK_ret, List.set_cons_zero, List.set_cons_succ, List.map_cons, List.map_nil, List.replicate, List.cons_append, List.nil_append, List.length_cons, List.length_nil, Bool.false_eq_true, eq_self, if_true, if_false, Nat.zero_add]
    refine ok_loop (fun j env s => ∃ v7 v8 v9 v10 v11 : Option Dv, env = [some (Dv.ls (ns.map .int)), some (Dv.loc 0), some (Dv.int (0 + (i : Int))), some (encC c), some (Dv.tup (fr.map .int)), some (Dv.str (pd (.tup [encC c, .tup (fr.map .int)])).shown), some (.tup (us.map .str)), v7, v8, v9, v10, v11] ∧ s = [feedOb t3])
      (fun _ _ _ _ => rfl) (fun j d env s hd h => ?_) (fun env s h => ?_) ⟨_, _, _, _, _, rfl, rfl⟩
    · obtain ⟨v7, v8, v9, v10, v11, rfl, rfl⟩ := h
      obtain ⟨x, hx, rfl⟩ := List.mem_map.mp (List.mem_of_getElem? hd)
      have hxl : x ∈ c.lots := by
        rcases List.mem_append.mp hx with q | q
        · exact hul x q
        · exact hul x (List.mem_of_mem_take q)
      simp only [ok_ok, kDrop_ap, kRet_ap, kSet_ap, kCons2_ap, kCons_ap, kTup_ap, kLst_ap, kVal_ap, kNew_ap, kBin2_ap, kBin_ap, kUn_ap, kCall_ap, kCallL_ap, kNotT_ap, kAndT_ap, kOrT_ap, kIf_ap, kIfS_ap, kAnd_ap, kOr_ap, kNot_ap, kMt2_ap, kMt_ap, kPut4_ap, kPut3_ap, kPut2_ap, kPut_ap, kExt2_ap, kExt_ap, kAsg2_ap, kAsg_ap, kFor_ap, kLc_ap, kSl3_ap, kSl2_ap, kSl_ap, kGs_ap, ok_seq, sq_next, sq_ret, sq_brk, sq_cont, ok_nop, ok_brk, ok_cont, ok_drop, ok_ret, ok_retN, ok_set, ok_var0, ok_varS, ok_c, ok_nil, ok_cons, ok_tup, ok_lst, ok_val, ok_new, ok_bin, ok_un, ok_call, ok_callL, ok_test, tst_bl, ok_notT, ok_andT, ok_orT, ok_if, ok_ifS, ok_and, ok_or, ok_not, ok_mt, ok_put, ok_extend, pr2_mk, ok_par2, ok_asg, ok_for, ok_lc, ok_yes, ok_noPart, prt_int, ok_part, ok_sl, ok_gNm, ok_gTp, ok_gsN, ok_gsC, rg1_mk, rg2_mk, ok_rng1, ok_rng2, srcK_tup, srcK_ls, ok_src, finK_next, finK_ret, List.set_cons_zero, List.set_cons_succ, List.map_cons, List.map_nil, List.replicate, List.cons_append, List.nil_append, List.length_cons, List.length_nil, Bool.false_eq_true, eq_self, if_true, if_false, Nat.zero_add]
      refine ok_loop (fun j env s => ∃ v8 v9 v10 v11 : Option Dv, env = [some (Dv.ls (ns.map .int)), some (Dv.loc 0), some (Dv.int (0 + (i : Int))), some (encC c), some (Dv.tup (fr.map .int)), some (Dv.str (pd (.tup [encC c, .tup (fr.map .int)])).shown), some (.tup (us.map .str)), some (.str x), v8, v9, v10, v11] ∧ s = [feedOb t3])
        (fun _ _ _ _ => rfl) (fun j d env s hd h => ?_) (fun env s h => ?_) ⟨_, _, _, _, rfl, rfl⟩
      · obtain ⟨v8, v9, v10, v11, rfl, rfl⟩ := h
        obtain ⟨y, hy, rfl⟩ := List.mem_map.mp (List.mem_of_getElem? hd)
        have hyl : y ∈ c.lots := hul y hy
        have lk := lackOk_of hc hxl hyl
        simp only [ok_ok, kDrop_ap, kRet_ap, kSet_ap, kCons2_ap, kCons_ap, kTup_ap, kLst_ap, kVal_ap, kNew_ap, kBin2_ap, kBin_ap, kUn_ap, kCall_ap, kCallL_ap, kNotT_ap, kAndT_ap, kOrT_ap, kIf_ap, kIfS_ap, kAnd_ap, kOr_ap, kNot_ap, kMt2_ap, kMt_ap, kPut4_ap, kPut3_ap, kPut2_ap, kPut_ap, kExt2_ap, kExt_ap, kAsg2_ap, kAsg_ap, kFor_ap, kLc_ap, kSl3_ap, kSl2_ap, kSl_ap, kGs_ap, ok_seq, sq_next, sq_ret, sq_brk, sq_cont, ok_nop, ok_brk, ok_cont, ok_drop, ok_ret, ok_retN, ok_set, ok_var0, ok_varS, ok_c, ok_nil, ok_cons, ok_tup, ok_lst, ok_val, ok_new, ok_bin, ok_un, ok_call, ok_callL, ok_test, tst_bl, ok_notT, ok_andT, ok_orT, ok_if, ok_ifS, ok_and, ok_or, ok_not, ok_mt, ok_put, ok_extend, pr2_mk, ok_par2, ok_asg, ok_for, ok_lc, ok_yes, ok_noPart, prt_int, ok_part, ok_sl, ok_gNm, ok_gTp, ok_gsN, ok_gsC, rg1_mk, rg2_mk, ok_rng1, ok_rng2, srcK_tup, srcK_ls, ok_src, finK_next, finK_ret, List.set_cons_zero, List.set_cons_succ, List.map_cons, List.map_nil, List.replicate, List.cons_append, List.nil_append, List.length_cons, List.length_nil, Bool.false_eq_true, eq_self, if_true, if_false, Nat.zero_add]
        refine hLw _ _ _ _ _ ho (by omega) hfl ?_
        simp only [ok_ok, kDrop_ap, kRet_ap, kSet_ap, kCons2_ap, kCons_ap, kTup_ap, kLst_ap, kVal_ap, kNew_ap, kBin2_ap, kBin_ap, kUn_ap, kCall_ap, kCallL_ap, kNotT_ap, kAndT_ap, kOrT_ap, kIf_ap, kIfS_ap, kAnd_ap, kOr_ap, kNot_ap, kMt2_ap, kMt_ap, kPut4_ap, kPut3_ap, kPut2_ap, kPut_ap, kExt2_ap, kExt_ap, kAsg2_ap, kAsg_ap, kFor_ap, kLc_ap, kSl3_ap, kSl2_ap, kSl_ap, kGs_ap, ok_seq, sq_next, sq_ret, sq_brk, sq_cont, ok_nop, ok_brk, ok_cont, ok_drop, ok_ret, ok_retN, ok_set, ok_var0, ok_varS, ok_c, ok_nil, ok_cons, ok_tup, ok_lst, ok_val, ok_new, ok_bin, ok_un, ok_call, ok_callL, ok_test, tst_bl, ok_notT, ok_andT, ok_orT, ok_if, ok_ifS, ok_and, ok_or, ok_not, ok_mt, ok_put, ok_extend, pr2_mk, ok_par2, ok_asg, ok_for, ok_lc, ok_yes, ok_noPart, prt_int, ok_part, ok_sl, ok_gNm, ok_gTp, ok_gsN, ok_gsC, rg1_mk, rg2_mk, ok_rng1, ok_rng2, srcK_tup, srcK_ls, ok_src, finK_next, finK_ret, List.set_cons_zero, List.set_cons_succ, List.map_cons, List.map_nil, List.replicate, List.cons_append, List.nil_append, List.length_cons, List.length_nil, Bool.false_eq_true, eq_self, if_true, if_false, Nat.zero_add, len_ls]
        refine ⟨inRng_small (by omega) (by rw [List.length_map, widthsA, List.length_map]; omega), ?_⟩
        refine ok_loop (fun k env s => ∃ v10 : Option Dv, env = [some (Dv.ls (ns.map .int)), some (Dv.loc 0), some (Dv.int (0 + (i : Int))), some (encC c), some (Dv.tup (fr.map .int)), some (Dv.str (pd (.tup [encC c, .tup (fr.map .int)])).shown), some (.tup (us.map .str)), some (.str x), some (.str y), some (.ls ((widthsA c x y).map .int)), v10, v11] ∧ s = [feedOb t3])
          (fun _ _ _ _ => rfl) (fun k d env s hd h => ?_) (fun env s h => ?_) ⟨_, rfl, rfl⟩
        · obtain ⟨v10, rfl, rfl⟩ := h
          obtain ⟨hk, rfl⟩ := rngD_get hd
          rw [List.length_map, widthsA, List.length_map] at hk
          have hk' : k < c.piles.length := by omega
          obtain ⟨p, hpk⟩ : ∃ p, c.piles[k]? = some p := ⟨_, List.getElem?_eq_getElem hk'⟩
          have hwk : ((widthsA c x y).map Dv.int)[k]? = some (.int (wideA x y p)) := by
            rw [get_map (f := Dv.int) (x := wideA x y p)]
            rw [widthsA, List.getElem?_map, hpk]; rfl
          have hpm := List.mem_of_getElem? hpk
          have sm : (wideA x y p).natAbs < 10 ^ 12 := by have := wide_bd (hc.piles p hpm) x y; omega
          simp only [ok_ok, kDrop_ap, kRet_ap, kSet_ap, kCons2_ap, kCons_ap, kTup_ap, kLst_ap, kVal_ap, kNew_ap, kBin2_ap, kBin_ap, kUn_ap, kCall_ap, kCallL_ap, kNotT_ap, kAndT_ap, kOrT_ap, kIf_ap, kIfS_ap, kAnd_ap, kOr_ap, kNot_ap, kMt2_ap, kMt_ap, kPut4_ap, kPut3_ap, kPut2_ap, kPut_ap, kExt2_ap, kExt_ap, kAsg2_ap, kAsg_ap, kFor_ap, kLc_ap, kSl3_ap, kSl2_ap, kSl_ap, kGs_ap, ok_seq, sq_next, sq_ret, sq_brk, sq_cont, ok_nop, ok_brk, ok_cont, ok_drop, ok_ret, ok_retN, ok_set, ok_var0, ok_varS, ok_c, ok_nil, ok_cons, ok_tup, ok_lst, ok_val, ok_new, ok_bin, ok_un, ok_call, ok_callL, ok_test, tst_bl, ok_notT, ok_andT, ok_orT, ok_if, ok_ifS, ok_and, ok_or, ok_not, ok_mt, ok_put, ok_extend, pr2_mk, ok_par2, ok_asg, ok_for, ok_lc, ok_yes, ok_noPart, prt_int, ok_part, ok_sl, ok_gNm, ok_gTp, ok_gsN, ok_gsC, rg1_mk, rg2_mk, ok_rng1, ok_rng2, srcK_tup, srcK_ls, ok_src, finK_next, finK_ret, List.set_cons_zero, List.set_cons_succ, List.map_cons, List.map_nil, List.replicate, List.cons_append, List.nil_append, List.length_cons, List.length_nil, Bool.false_eq_true, eq_self, if_true, if_false, Nat.zero_add, Int.zero_add]
          refine hWd _ _ _ _ _ _ _ hpk hxl hyl (ho p hpm) hfl ?_
          simp only [ok_ok, kDrop_ap, kRet_ap, kSet_ap, kCons2_ap, kCons_ap, kTup_ap, kLst_ap, kVal_ap, kNew_ap, kBin2_ap, kBin_ap, kUn_ap, kCall_ap, kCallL_ap, kNotT_ap, kAndT_ap, kOrT_ap, kIf_ap, kIfS_ap, kAnd_ap, kOr_ap, kNot_ap, kMt2_ap, kMt_ap, kPut4_ap, kPut3_ap, kPut2_ap, kPut_ap, kExt2_ap, kExt_ap, kAsg2_ap, kAsg_ap, kFor_ap, kLc_ap, kSl3_ap, kSl2_ap, kSl_ap, kGs_ap, ok_seq, sq_next, sq_ret, sq_brk, sq_cont, ok_nop, ok_brk, ok_cont, ok_drop, ok_ret, ok_retN, ok_set, ok_var0, ok_varS, ok_c, ok_nil, ok_cons, ok_tup, ok_lst, ok_val, ok_new, ok_bin, ok_un, ok_call, ok_callL, ok_test, tst_bl, ok_notT, ok_andT, ok_orT, ok_if, ok_ifS, ok_and, ok_or, ok_not, ok_mt, ok_put, ok_extend, pr2_mk, ok_par2, ok_asg, ok_for, ok_lc, ok_yes, ok_noPart, prt_int, ok_part, ok_sl, ok_gNm, ok_gTp, ok_gsN, ok_gsC, rg1_mk, rg2_mk, ok_rng1, ok_rng2, srcK_tup, srcK_ls, ok_src, finK_next, finK_ret, List.set_cons_zero, List.set_cons_succ, List.map_cons, List.map_nil, List.replicate, List.cons_append, List.nil_append, List.length_cons, List.length_nil, Bool.false_eq_true, eq_self, if_true, if_false, Nat.zero_add, repr_int sm, ix_lsN hwk, Z.ne_str, beq_self_eq_true, Bool.not_true]
          exact ⟨_, rfl, by first | rfl | trivial⟩
        · obtain ⟨v10, rfl, rfl⟩ := h
          simp only [ok_ok, kDrop_ap, kRet_ap, kSet_ap, kCons2_ap, kCons_ap, kTup_ap, kLst_ap, kVal_ap, kNew_ap, kBin2_ap, kBin_ap, kUn_ap, kCall_ap, kCallL_ap, kNotT_ap, kAndT_ap, kOrT_ap, kIf_ap, kIfS_ap, kAnd_ap, kOr_ap, kNot_ap, kMt2_ap, kMt_ap, kPut4_ap, kPut3_ap, kPut2_ap, kPut_ap, kExt2_ap, kExt_ap, kAsg2_ap, kAsg_ap, kFor_ap, kLc_ap, kSl3_ap, kSl2_ap, kSl_ap, kGs_ap, ok_seq, sq_next, sq_ret, sq_brk, sq_cont, ok_nop, ok_brk, ok_cont, ok_drop, ok_ret, ok_retN, ok_set, ok_var0, ok_varS, ok_c, ok_nil, ok_cons, ok_tup, ok_lst, ok_val, ok_new, ok_bin, ok_un, ok_call, ok_callL, ok_test, tst_bl, ok_notT, ok_andT, ok_orT, ok_if, ok_ifS, ok_and, ok_or, ok_not, ok_mt, ok_put, ok_extend, pr2_mk, ok_par2, ok_asg, ok_for, ok_lc, ok_yes, ok_noPart, prt_int, ok_part, ok_sl, ok_gNm, ok_gTp, ok_gsN, ok_gsC, rg1_mk, rg2_mk, ok_rng1, ok_rng2, srcK_tup, srcK_ls, ok_src, finK_next, finK_ret, List.set_cons_zero, List.set_cons_succ, List.map_cons, List.map_nil, List.replicate, List.cons_append, List.nil_append, List.length_cons, List.length_nil, Bool.false_eq_true, eq_self, if_true, if_false, Nat.zero_add, Z.ne_str]
          split
          · rename_i hne
            have hxy : x ≠ y := by
              rw [Bool.not_eq_true', beq_eq_false_iff_ne] at hne
              exact hne
            refine ⟨rfl, ?_⟩
            refine hLl c x y [] _ _ lk hxy hfl ?_
            simp only [ok_ok, kDrop_ap, kRet_ap, kSet_ap, kCons2_ap, kCons_ap, kTup_ap, kLst_ap, kVal_ap, kNew_ap, kBin2_ap, kBin_ap, kUn_ap, kCall_ap, kCallL_ap, kNotT_ap, kAndT_ap, kOrT_ap, kIf_ap, kIfS_ap, kAnd_ap, kOr_ap, kNot_ap, kMt2_ap, kMt_ap, kPut4_ap, kPut3_ap, kPut2_ap, kPut_ap, kExt2_ap, kExt_ap, kAsg2_ap, kAsg_ap, kFor_ap, kLc_ap, kSl3_ap, kSl2_ap, kSl_ap, kGs_ap, ok_seq, sq_next, sq_ret, sq_brk, sq_cont, ok_nop, ok_brk, ok_cont, ok_drop, ok_ret, ok_retN, ok_set, ok_var0, ok_varS, ok_c, ok_nil, ok_cons, ok_tup, ok_lst, ok_val, ok_new, ok_bin, ok_un, ok_call, ok_callL, ok_test, tst_bl, ok_notT, ok_andT, ok_orT, ok_if, ok_ifS, ok_and, ok_or, ok_not, ok_mt, ok_put, ok_extend, pr2_mk, ok_par2, ok_asg, ok_for, ok_lc, ok_yes, ok_noPart, prt_int, ok_part, ok_sl, ok_gNm, ok_gTp, ok_gsN, ok_gsC, rg1_mk, rg2_mk, ok_rng1, ok_rng2, srcK_tup, srcK_ls, ok_src, finK_next, finK_ret, List.set_cons_zero, List.set_cons_succ, List.map_cons, List.map_nil, List.replicate, List.cons_append, List.nil_append, List.length_cons, List.length_nil, Bool.false_eq_true, eq_self, if_true, if_false, Nat.zero_add]
            refine hLl c x y fr _ _ lk hxy hfl ?_
            simp only [ok_ok, kDrop_ap, kRet_ap, kSet_ap, kCons2_ap, kCons_ap, kTup_ap, kLst_ap, kVal_ap, kNew_ap, kBin2_ap, kBin_ap, kUn_ap, kCall_ap, kCallL_ap, kNotT_ap, kAndT_ap, kOrT_ap, kIf_ap, kIfS_ap, kAnd_ap, kOr_ap, kNot_ap, kMt2_ap, kMt_ap, kPut4_ap, kPut3_ap, kPut2_ap, kPut_ap, kExt2_ap, kExt_ap, kAsg2_ap, kAsg_ap, kFor_ap, kLc_ap, kSl3_ap, kSl2_ap, kSl_ap, kGs_ap, ok_seq, sq_next, sq_ret, sq_brk, sq_cont, ok_nop, ok_brk, ok_cont, ok_drop, ok_ret, ok_retN, ok_set, ok_var0, ok_varS, ok_c, ok_nil, ok_cons, ok_tup, ok_lst, ok_val, ok_new, ok_bin, ok_un, ok_call, ok_callL, ok_test, tst_bl, ok_notT, ok_andT, ok_orT, ok_if, ok_ifS, ok_and, ok_or, ok_not, ok_mt, ok_put, ok_extend, pr2_mk, ok_par2, ok_asg, ok_for, ok_lc, ok_yes, ok_noPart, prt_int, ok_part, ok_sl, ok_gNm, ok_gTp, ok_gsN, ok_gsC, rg1_mk, rg2_mk, ok_rng1, ok_rng2, srcK_tup, srcK_ls, ok_src, finK_next, finK_ret, List.set_cons_zero, List.set_cons_succ, List.map_cons, List.map_nil, List.replicate, List.cons_append, List.nil_append, List.length_cons, List.length_nil, Bool.false_eq_true, eq_self, if_true, if_false, Nat.zero_add]
            refine ⟨rfl, ?_⟩
            simp only [ok_ok, kDrop_ap, kRet_ap, kSet_ap, kCons2_ap, kCons_ap, kTup_ap, kLst_ap, kVal_ap, kNew_ap, kBin2_ap, kBin_ap, kUn_ap, kCall_ap, kCallL_ap, kNotT_ap, kAndT_ap, kOrT_ap, kIf_ap, kIfS_ap, kAnd_ap, kOr_ap, kNot_ap, kMt2_ap, kMt_ap, kPut4_ap, kPut3_ap, kPut2_ap, kPut_ap, kExt2_ap, kExt_ap, kAsg2_ap, kAsg_ap, kFor_ap, kLc_ap, kSl3_ap, kSl2_ap, kSl_ap, kGs_ap, ok_seq, sq_next, sq_ret, sq_brk, sq_cont, ok_nop, ok_brk, ok_cont, ok_drop, ok_ret, ok_retN, ok_set, ok_var0, ok_varS, ok_c, ok_nil, ok_cons, ok_tup, ok_lst, ok_val, ok_new, ok_bin, ok_un, ok_call, ok_callL, ok_test, tst_bl, ok_notT, ok_andT, ok_orT, ok_if, ok_ifS, ok_and, ok_or, ok_not, ok_mt, ok_put, ok_extend, pr2_mk, ok_par2, ok_asg, ok_for, ok_lc, ok_yes, ok_noPart, prt_int, ok_part, ok_sl, ok_gNm, ok_gTp, ok_gsN, ok_gsC, rg1_mk, rg2_mk, ok_rng1, ok_rng2, srcK_tup, srcK_ls, ok_src, finK_next, finK_ret, List.set_cons_zero, List.set_cons_succ, List.map_cons, List.map_nil, List.replicate, List.cons_append, List.nil_append, List.length_cons, List.length_nil, Bool.false_eq_true, eq_self, if_true, if_false, Nat.zero_add, ok_callD, kCallD_ap]
            refine hLk c x y .non [] _ _ (.inl ⟨rfl, rfl⟩) (fun k hk => (List.not_mem_nil hk).elim) lk hfl ?_
            simp only [ok_ok, kDrop_ap, kRet_ap, kSet_ap, kCons2_ap, kCons_ap, kTup_ap, kLst_ap, kVal_ap, kNew_ap, kBin2_ap, kBin_ap, kUn_ap, kCall_ap, kCallL_ap, kNotT_ap, kAndT_ap, kOrT_ap, kIf_ap, kIfS_ap, kAnd_ap, kOr_ap, kNot_ap, kMt2_ap, kMt_ap, kPut4_ap, kPut3_ap, kPut2_ap, kPut_ap, kExt2_ap, kExt_ap, kAsg2_ap, kAsg_ap, kFor_ap, kLc_ap, kSl3_ap, kSl2_ap, kSl_ap, kGs_ap, ok_seq, sq_next, sq_ret, sq_brk, sq_cont, ok_nop, ok_brk, ok_cont, ok_drop, ok_ret, ok_retN, ok_set, ok_var0, ok_varS, ok_c, ok_nil, ok_cons, ok_tup, ok_lst, ok_val, ok_new, ok_bin, ok_un, ok_call, ok_callL, ok_test, tst_bl, ok_notT, ok_andT, ok_orT, ok_if, ok_ifS, ok_and, ok_or, ok_not, ok_mt, ok_put, ok_extend, pr2_mk, ok_par2, ok_asg, ok_for, ok_lc, ok_yes, ok_noPart, prt_int, ok_part, ok_sl, ok_gNm, ok_gTp, ok_gsN, ok_gsC, rg1_mk, rg2_mk, ok_rng1, ok_rng2, srcK_tup, srcK_ls, ok_src, finK_next, finK_ret, List.set_cons_zero, List.set_cons_succ, List.map_cons, List.map_nil, List.replicate, List.cons_append, List.nil_append, List.length_cons, List.length_nil, Bool.false_eq_true, eq_self, if_true, if_false, Nat.zero_add, ok_callK, kCallK_ap, kCallK2_ap]
            refine ⟨rfl, ?_⟩
            refine hLk c x y _ fr _ _ (.inr rfl) hfr lk hfl ?_
            simp only [ok_ok, kDrop_ap, kRet_ap, kSet_ap, kCons2_ap, kCons_ap, kTup_ap, kLst_ap, kVal_ap, kNew_ap, kBin2_ap, kBin_ap, kUn_ap, kCall_ap, kCallL_ap, kNotT_ap, kAndT_ap, kOrT_ap, kIf_ap, kIfS_ap, kAnd_ap, kOr_ap, kNot_ap, kMt2_ap, kMt_ap, kPut4_ap, kPut3_ap, kPut2_ap, kPut_ap, kExt2_ap, kExt_ap, kAsg2_ap, kAsg_ap, kFor_ap, kLc_ap, kSl3_ap, kSl2_ap, kSl_ap, kGs_ap, ok_seq, sq_next, sq_ret, sq_brk, sq_cont, ok_nop, ok_brk, ok_cont, ok_drop, ok_ret, ok_retN, ok_set, ok_var0, ok_varS, ok_c, ok_nil, ok_cons, ok_tup, ok_lst, ok_val, ok_new, ok_bin, ok_un, ok_call, ok_callL, ok_test, tst_bl, ok_notT, ok_andT, ok_orT, ok_if, ok_ifS, ok_and, ok_or, ok_not, ok_mt, ok_put, ok_extend, pr2_mk, ok_par2, ok_asg, ok_for, ok_lc, ok_yes, ok_noPart, prt_int, ok_part, ok_sl, ok_gNm, ok_gTp, ok_gsN, ok_gsC, rg1_mk, rg2_mk, ok_rng1, ok_rng2, srcK_tup, srcK_ls, ok_src, finK_next, finK_ret, List.set_cons_zero, List.set_cons_succ, List.map_cons, List.map_nil, List.replicate, List.cons_append, List.nil_append, List.length_cons, List.length_nil, Bool.false_eq_true, eq_self, if_true, if_false, Nat.zero_add]
            refine ⟨rfl, ?_⟩
            simp only [ok_ok, kDrop_ap, kRet_ap, kSet_ap, kCons2_ap, kCons_ap, kTup_ap, kLst_ap, kVal_ap, kNew_ap, kBin2_ap, kBin_ap, kUn_ap, kCall_ap, kCallL_ap, kNotT_ap, kAndT_ap, kOrT_ap, kIf_ap, kIfS_ap, kAnd_ap, kOr_ap, kNot_ap, kMt2_ap, kMt_ap, kPut4_ap, kPut3_ap, kPut2_ap, kPut_ap, kExt2_ap, kExt_ap, kAsg2_ap, kAsg_ap, kFor_ap, kLc_ap, kSl3_ap, kSl2_ap, kSl_ap, kGs_ap, ok_seq, sq_next, sq_ret, sq_brk, sq_cont, ok_nop, ok_brk, ok_cont, ok_drop, ok_ret, ok_retN, ok_set, ok_var0, ok_varS, ok_c, ok_nil, ok_cons, ok_tup, ok_lst, ok_val, ok_new, ok_bin, ok_un, ok_call, ok_callL, ok_test, tst_bl, ok_notT, ok_andT, ok_orT, ok_if, ok_ifS, ok_and, ok_or, ok_not, ok_mt, ok_put, ok_extend, pr2_mk, ok_par2, ok_asg, ok_for, ok_lc, ok_yes, ok_noPart, prt_int, ok_part, ok_sl, ok_gNm, ok_gTp, ok_gsN, ok_gsC, rg1_mk, rg2_mk, ok_rng1, ok_rng2, srcK_tup, srcK_ls, ok_src, finK_next, finK_ret, List.set_cons_zero, List.set_cons_succ, List.map_cons, List.map_nil, List.replicate, List.cons_append, List.nil_append, List.length_cons, List.length_nil, Bool.false_eq_true, eq_self, if_true, if_false, Nat.zero_add, repr_lack hc, Z.ne_str, beq_self_eq_true, Bool.not_true]
            exact ⟨_, _, _, _, rfl, by first | rfl | trivial⟩
          · exact ⟨_, _, _, _, rfl, by first | rfl | trivial⟩
      · obtain ⟨v8, v9, v10, v11, rfl, rfl⟩ := h
        simp only [ok_ok, kDrop_ap, kRet_ap, kSet_ap, kCons2_ap, kCons_ap, kTup_ap, kLst_ap, kVal_ap, kNew_ap, kBin2_ap, kBin_ap, kUn_ap, kCall_ap, kCallL_ap, kNotT_ap, kAndT_ap, kOrT_ap, kIf_ap, kIfS_ap, kAnd_ap, kOr_ap, kNot_ap, kMt2_ap, kMt_ap, kPut4_ap, kPut3_ap, kPut2_ap, kPut_ap, kExt2_ap, kExt_ap, kAsg2_ap, kAsg_ap, kFor_ap, kLc_ap, kSl3_ap, kSl2_ap, kSl_ap, kGs_ap, ok_seq, sq_next, sq_ret, sq_brk, sq_cont, ok_nop, ok_brk, ok_cont, ok_drop, ok_ret, ok_retN, ok_set, ok_var0, ok_varS, ok_c, ok_nil, ok_cons, ok_tup, ok_lst, ok_val, ok_new, ok_bin, ok_un, ok_call, ok_callL, ok_test, tst_bl, ok_notT, ok_andT, ok_orT, ok_if, ok_ifS, ok_and, ok_or, ok_not, ok_mt, ok_put, ok_extend, pr2_mk, ok_par2, ok_asg, ok_for, ok_lc, ok_yes, ok_noPart, prt_int, ok_part, ok_sl, ok_gNm, ok_gTp, ok_gsN, ok_gsC, rg1_mk, rg2_mk, ok_rng1, ok_rng2, srcK_tup, srcK_ls, ok_src, finK_next, finK_ret, List.set_cons_zero, List.set_cons_succ, List.map_cons, List.map_nil, List.replicate, List.cons_append, List.nil_append, List.length_cons, List.length_nil, Bool.false_eq_true, eq_self, if_true, if_false, Nat.zero_add]
        exact ⟨_, _, _, _, _, rfl, by first | rfl | trivial⟩
    · obtain ⟨v7, v8, v9, v10, v11, rfl, rfl⟩ := h
      simp only [ok_ok, kDrop_ap, kRet_ap, kSet_ap, kCons2_ap, kCons_ap, kTup_ap, kLst_ap, kVal_ap, kNew_ap, kBin2_ap, kBin_ap, kUn_ap, kCall_ap, kCallL_ap, kNotT_ap, kAndT_ap, kOrT_ap, kIf_ap, kIfS_ap, kAnd_ap, kOr_ap, kNot_ap, kMt2_ap, kMt_ap, kPut4_ap, kPut3_ap, kPut2_ap, kPut_ap, kExt2_ap, kExt_ap, kAsg2_ap, kAsg_ap, kFor_ap, kLc_ap, kSl3_ap, kSl2_ap, kSl_ap, kGs_ap, ok_seq, sq_next, sq_ret, sq_brk, sq_cont, ok_nop, ok_brk, ok_cont, ok_drop, ok_ret, ok_retN, ok_set, ok_var0, ok_varS, ok_c, ok_nil, ok_cons, ok_tup, ok_lst, ok_val, ok_new, ok_bin, ok_un, ok_call, ok_callL, ok_test, tst_bl, ok_notT, ok_andT, ok_orT, ok_if, ok_ifS, ok_and, ok_or, ok_not, ok_mt, ok_put, ok_extend, pr2_mk, ok_par2, ok_asg, ok_for, ok_lc, ok_yes, ok_noPart, prt_int, ok_part, ok_sl, ok_gNm, ok_gTp, ok_gsN, ok_gsC, rg1_mk, rg2_mk, ok_rng1, ok_rng2, srcK_tup, srcK_ls, ok_src, finK_next, finK_ret, List.set_cons_zero, List.set_cons_succ, List.map_cons, List.map_nil, List.replicate, List.cons_append, List.nil_append, List.length_cons, List.length_nil, Bool.false_eq_true, eq_self, if_true, if_false, Nat.zero_add]
      refine ⟨rfl, ?_⟩
      simp only [ok_ok, kDrop_ap, kRet_ap, kSet_ap, kCons2_ap, kCons_ap, kTup_ap, kLst_ap, kVal_ap, kNew_ap, kBin2_ap, kBin_ap, kUn_ap, kCall_ap, kCallL_ap, kNotT_ap, kAndT_ap, kOrT_ap, kIf_ap, kIfS_ap, kAnd_ap, kOr_ap, kNot_ap, kMt2_ap, kMt_ap, kPut4_ap, kPut3_ap, kPut2_ap, kPut_ap, kExt2_ap, kExt_ap, kAsg2_ap, kAsg_ap, kFor_ap, kLc_ap, kSl3_ap, kSl2_ap, kSl_ap, kGs_ap, ok_seq, sq_next, sq_ret, sq_brk, sq_cont, ok_nop, ok_brk, ok_cont, ok_drop, ok_ret, ok_retN, ok_set, ok_var0, ok_varS, ok_c, ok_nil, ok_cons, ok_tup, ok_lst, ok_val, ok_new, ok_bin, ok_un, ok_call, ok_callL, ok_test, tst_bl, ok_notT, ok_andT, ok_orT, ok_if, ok_ifS, ok_and, ok_or, ok_not, ok_mt, ok_put, ok_extend, pr2_mk, ok_par2, ok_asg, ok_for, ok_lc, ok_yes, ok_noPart, prt_int, ok_part, ok_sl, ok_gNm, ok_gTp, ok_gsN, ok_gsC, rg1_mk, rg2_mk, ok_rng1, ok_rng2, srcK_tup, srcK_ls, ok_src, finK_next, finK_ret, List.set_cons_zero, List.set_cons_succ, List.map_cons, List.map_nil, List.replicate, List.cons_append, List.nil_append, List.length_cons, List.length_nil, Bool.false_eq_true, eq_self, if_true, if_false, Nat.zero_add, repr_cf hc hfr hfl3, Z.ne_str, beq_self_eq_true, Bool.not_true]
      exact ⟨t3, _, rfl, rfl, rfl, hw3, by push_cast; omega⟩
  · obtain ⟨t1, vs, hvl, rfl, rfl, hw1, hl1⟩ := h
    simp only [ok_ok, kDrop_ap, kRet_ap, kSet_ap, kCons2_ap, kCons_ap, kTup_ap, kLst_ap, kVal_ap, kNew_ap, kBin2_ap, kBin_ap, kUn_ap, kCall_ap, kCallL_ap, kNotT_ap, kAndT_ap, kOrT_ap, kIf_ap, kIfS_ap, kAnd_ap, kOr_ap, kNot_ap, kMt2_ap, kMt_ap, kPut4_ap, kPut3_ap, kPut2_ap, kPut_ap, kExt2_ap, kExt_ap, kAsg2_ap, kAsg_ap, kFor_ap, kLc_ap, kSl3_ap, kSl2_ap, kSl_ap, kGs_ap, ok_seq, sq_next, sq_ret, sq_brk, sq_cont, ok_nop, ok_brk, ok_cont, ok_drop, ok_ret, ok_retN, ok_set, ok_var0, ok_varS, ok_c, ok_nil, ok_cons, ok_tup, ok_lst, ok_val, ok_new, ok_bin, ok_un, ok_call, ok_callL, ok_test, tst_bl, ok_notT, ok_andT, ok_orT, ok_if, ok_ifS, ok_and, ok_or, ok_not, ok_mt, ok_put, ok_extend, pr2_mk, ok_par2, ok_asg, ok_for, ok_lc, ok_yes, ok_noPart, prt_int, ok_part, ok_sl, ok_gNm, ok_gTp, ok_gsN, ok_gsC, rg1_mk, rg2_mk, ok_rng1, ok_rng2, srcK_tup, srcK_ls, ok_src, finK_next, finK_ret, List.set_cons_zero, List.set_cons_succ, List.map_cons, List.map_nil, List.replicate, List.cons_append, List.nil_append, List.length_cons, List.length_nil, Bool.false_eq_true, eq_self, if_true, if_false, Nat.zero_add]
    exact ok_gc (b := []) (l := [feedOb t1]) rfl Fl.nil rfl rfl
end Lwk37

open PySem PySem.W PyProof.Rows
set_option maxHeartbeats 0 in
theorem PySem.Challenge.cw_countbundles_k37_widths_holds : PySem.Challenge.rw_countbundles_k37_widths.Holds := by
  w_on; o_law; k_head; (case hw => w_witness2)
  k_fill
  refine Z.walkZ (l := PySem.Challenge.rw_countbundles_k37_widths) (n := 63) (k := 27) (x := "script") (φ := Lwk37.φ26) rfl (by decide) rfl ⟨rfl, by decide, by decide⟩ (fun w h Y => PySem.W.kIn_of Y) ?F Lwk37.plain
  case F =>
    intro w mg fa h KX G hmg
    refine' Lwk37.all_mk KX G hmg ?a5 ?l5 ?c5 ?k5 ?a6 ?l6 ?c6 ?k6 ?a7 ?l7 ?c7 ?k7 ?a8 ?l8 ?c8 ?k8 ?a9 ?l9 ?c9 ?k9 ?a10 ?l10 ?c10 ?k10 ?a11 ?l11 ?c11 ?k11 ?a12 ?l12 ?c12 ?k12 ?a13 ?l13 ?c13 ?k13 ?a14 ?l14 ?c14 ?k14 ?e14 ?a16 ?l16 ?c16 ?k16 ?a17 ?l17 ?c17 ?k17 ?a18 ?l18 ?c18 ?k18 ?a19 ?l19 ?c19 ?k19 ?a20 ?l20 ?c20 ?k20 ?a21 ?l21 ?c21 ?k21 ?a22 ?l22 ?c22 ?k22 ?a23 ?l23 ?c23 ?k23 ?a24 ?l24 ?c24 ?k24 ?a25 ?l25 ?c25 ?k25 ?a26 ?l26 ?c26 ?k26 ?z0 ?z1 ?z2 ?z3 ?z4 ?z5 ?z6 ?z7 ?z8 ?z9
    (case a5 => k_is); (case l5 => k_is); (case c5 => k_is); (case k5 => k_is); (case a6 => k_is); (case l6 => k_is); (case c6 => k_is); (case k6 => k_is); (case a7 => k_is); (case l7 => k_is); (case c7 => k_is); (case k7 => k_is); (case a8 => k_is); (case l8 => k_is); (case c8 => k_is); (case k8 => k_is); (case a9 => k_is); (case l9 => k_is); (case c9 => k_is); (case k9 => k_is); (case a10 => k_is); (case l10 => k_is); (case c10 => k_is); (case k10 => k_is); (case a11 => k_is); (case l11 => k_is); (case c11 => k_is); (case k11 => k_is); (case a12 => k_is); (case l12 => k_is); (case c12 => k_is); (case k12 => k_is); (case a13 => k_is); (case l13 => k_is); (case c13 => k_is); (case k13 => k_is); (case a14 => k_is); (case l14 => k_is); (case c14 => k_is); (case k14 => k_is); (case e14 => k_is); (case a16 => k_is); (case l16 => k_is); (case c16 => k_is); (case k16 => k_is); (case a17 => k_is); (case l17 => k_is); (case c17 => k_is); (case k17 => k_is); (case a18 => k_is); (case l18 => k_is); (case c18 => k_is); (case k18 => k_is); (case a19 => k_is); (case l19 => k_is); (case c19 => k_is); (case k19 => k_is); (case a20 => k_is); (case l20 => k_is); (case c20 => k_is); (case k20 => k_is); (case a21 => k_is); (case l21 => k_is); (case c21 => k_is); (case k21 => k_is); (case a22 => k_is); (case l22 => k_is); (case c22 => k_is); (case k22 => k_is); (case a23 => k_is); (case l23 => k_is); (case c23 => k_is); (case k23 => k_is); (case a24 => k_is); (case l24 => k_is); (case c24 => k_is); (case k24 => k_is); (case a25 => k_is); (case l25 => k_is); (case c25 => k_is); (case k25 => k_is); (case a26 => k_is); (case l26 => k_is); (case c26 => k_is); (case k26 => k_is); (case z0 => k_is); (case z1 => k_is); (case z2 => k_is); (case z3 => k_is); (case z4 => k_is); (case z5 => k_is); (case z6 => k_is); (case z7 => k_is); (case z8 => k_is); (case z9 => k_is)
