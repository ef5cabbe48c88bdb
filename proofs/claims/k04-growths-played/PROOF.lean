import PyProof.Rows.All
import Wide.All
import OpenK.AllK
import Wide.FinOn
import HandS.ForMost
import HandS.ForExc
import HandS.Defaults
import HandS.CallSlots
import HandS.Wide
import HandS.IsInst
import HandS.TupAny
import HandS.Deep
import HandS.Walk
import HandS.Property
import HandS.WordsExc
import HandS.ExcInit
import HandS.ExcField
import HandS.ExcIs
import HandS.RaiseMore
import KE.KSuper
import KE.KExcSuper
import PyProof.StrLawsRepr
import OpenK.KOps
import OpenK.KMeth
import KE.KOwnIter
import HandS.IterNext
import HandS.IterVal
import KE.GoesMore
import HandS.GenList
import HandS.GenYield
import HandS.HeadNt
import HandS.Head2
import HandS.HeadEnd
import KE.KStateDown
import PySem.Challenge.RW_countedgrowth_k04_growths_played
set_option Elab.async false
set_option linter.all false
set_option maxRecDepth 100000
set_option maxHeartbeats 0
namespace DL
open PySem PySem.Spec PyProof.Rows L2

/-! ### data -/
abbrev SS := List Nat
def mk (s : SS) : PySem.Str := ⟨s.toArray⟩
inductive D where
  | non | bl (b : Bool) | int (i : Int) | str (s : SS) | lst (ds : List D) | fl (ds : List D) | tup (ds : List D) | obj (c : Nat) (fs : List (Nat × D)) | adr (a : Addr) | ty (n : String) | cls (c : Nat) | exn (a dx : Addr) (c : Nat) (d : D)
/-- where names and classes stand -/
structure DC where
  fld : Nat → PySem.Str
  cls : Nat → Addr
  inj : ∀ m n, fld m = fld n → m = n
mutual
inductive Dp (C : DC) (K : PySem.W.Frag) (G : Hp) : V → D → Prop
  | non : Dp C K G .non .non
  | bl (b : Bool) : Dp C K G (.bl b) (.bl b)
  | int (i : Int) : Dp C K G (.int i) (.int i)
  | str (s : SS) : s.length ≤ 16777216 → s.all (· < 0x110000) = true → Dp C K G (.str (mk s)) (.str s)
  | lst {a : Addr} {xs : List V} {ds : List D} : G a = some (.lst xs) → Dps C K G xs ds → Dp C K G (.ref a) (.lst ds)
  | fl {a : Addr} {xs : List V} {ds : List D} : SqL K G a xs → Dps C K G xs ds → Dp C K G (.ref a) (.fl ds)
  | tup {a : Addr} {xs : List V} {ds : List D} : SqT K G a xs → Dps C K G xs ds → Dp C K G (.ref a) (.tup ds)
  | obj {a dx : Addr} {c : Nat} {fs : List (PySem.Str × V)} {es : List (Nat × D)} : G a = some (.ins (C.cls c) dx fs) → Dfs C K G fs es → Dp C K G (.ref a) (.obj c es)
  | adr (a : Addr) : Dp C K G (.ref a) (.adr a)
  | ty (n : String) : Dp C K G (.ty n) (.ty n)
  | cls (c : Nat) : Dp C K G (.ref (C.cls c)) (.cls c)
  | exn {a dx : Addr} {c : Nat} {v : V} {d : D} : G dx = some (.xd [(C.fld 0, v)]) → Dp C K G v d → Dp C K G (.ref a) (.exn a dx c d)
inductive Dps (C : DC) (K : PySem.W.Frag) (G : Hp) : List V → List D → Prop
  | nil : Dps C K G [] []
  | cons {v : V} {vs : List V} {d : D} {ds : List D} : Dp C K G v d → Dps C K G vs ds → Dps C K G (v :: vs) (d :: ds)
inductive Dfs (C : DC) (K : PySem.W.Frag) (G : Hp) : List (PySem.Str × V) → List (Nat × D) → Prop
  | nil : Dfs C K G [] []
  | cons {v : V} {fs : List (PySem.Str × V)} {n : Nat} {d : D} {es : List (Nat × D)} : Dp C K G v d → Dfs C K G fs es → Dfs C K G ((C.fld n, v) :: fs) ((n, d) :: es)
end
def Ex (H H' : Hp) : Prop := ∀ a o, H a = some o → H' a = some o
theorem Ex.refl (H : Hp) : Ex H H := fun _ _ h => h
theorem Ex.trans {H H1 H2 : Hp} (a : Ex H H1) (b : Ex H1 H2) : Ex H H2 := fun x o h => b x o (a x o h)
theorem Ex.new {H : Hp} {p : Addr} {o : HO} (h : H p = none) : Ex H (upd H p o) := fun a u e => by
  rw [upd_ne (ne_of_none e h)]
  exact e
theorem Ex.free {H H' : Hp} (e : Ex H H') {p : Addr} (h : H' p = none) : H p = none := by
  cases q : H p with
  | none => rfl
  | some o =>
    rw [e p o q] at h
    cases h
theorem Ex.seqT {K : PySem.W.Frag} {H H' : Hp} {a : Addr} {xs : List V} (e : Ex H H') (h : SqT K H a xs) : SqT K H' a xs := by
  rcases h with (h | ⟨o, h⟩) | h
  · exact .inl (.inl (e _ _ h))
  · exact .inl (.inr ⟨o, e _ _ h⟩)
  · exact .inr h
theorem Ex.seqL {K : PySem.W.Frag} {H H' : Hp} {a : Addr} {xs : List V} (e : Ex H H') (h : SqL K H a xs) : SqL K H' a xs := by
  rcases h with (h | ⟨o, h⟩) | h
  · exact .inl (.inl (e _ _ h))
  · exact .inl (.inr ⟨o, e _ _ h⟩)
  · exact .inr h
mutual
theorem Dp.mono {C : DC} {K : PySem.W.Frag} {G G' : Hp} (e : Ex G G') : ∀ {v d}, Dp C K G v d → Dp C K G' v d
  | _, _, .non => .non
  | _, _, .bl b => .bl b
  | _, _, .int i => .int i
  | _, _, .str s h k => .str s h k
  | _, _, .lst h hs => .lst (e _ _ h) (Dps.mono e hs)
  | _, _, .fl h hs => .fl (e.seqL h) (Dps.mono e hs)
  | _, _, .tup h hs => .tup (e.seqT h) (Dps.mono e hs)
  | _, _, .obj h hs => .obj (e _ _ h) (Dfs.mono e hs)
  | _, _, .adr a => .adr a
  | _, _, .ty n => .ty n
  | _, _, .cls c => .cls c
  | _, _, .exn h q => .exn (e _ _ h) (Dp.mono e q)
theorem Dps.mono {C : DC} {K : PySem.W.Frag} {G G' : Hp} (e : Ex G G') : ∀ {vs ds}, Dps C K G vs ds → Dps C K G' vs ds
  | _, _, .nil => .nil
  | _, _, .cons h hs => .cons (Dp.mono e h) (Dps.mono e hs)
theorem Dfs.mono {C : DC} {K : PySem.W.Frag} {G G' : Hp} (e : Ex G G') : ∀ {vs ds}, Dfs C K G vs ds → Dfs C K G' vs ds
  | _, _, .nil => .nil
  | _, _, .cons h hs => .cons (Dp.mono e h) (Dfs.mono e hs)
end
section
variable {C : DC} {K : PySem.W.Frag} {G : Hp}
theorem Dps.length {vs : List V} {ds : List D} (h : Dps C K G vs ds) : vs.length = ds.length := by
  induction ds generalizing vs with
  | nil => cases h; rfl
  | cons d ds ih => cases h with | cons a b => simp [ih b]
theorem Dps.append {vs ws : List V} {ds es : List D} (h : Dps C K G vs ds) (k : Dps C K G ws es) : Dps C K G (vs ++ ws) (ds ++ es) := by
  induction ds generalizing vs with
  | nil => cases h; exact k
  | cons d ds ih => cases h with | cons a b => exact .cons a (ih b)
theorem Dps.get {vs : List V} {ds : List D} (h : Dps C K G vs ds) {i : Nat} {d : D} (e : ds[i]? = some d) : ∃ v, vs[i]? = some v ∧ Dp C K G v d := by
  induction ds generalizing vs i with
  | nil => simp at e
  | cons a ds ih =>
    cases h with
    | @cons v vs' _ _ q r =>
      cases i with
      | zero => simp at e; subst e; exact ⟨v, rfl, q⟩
      | succ i => simpa using ih r (by simpa using e)
theorem Dps.get' {vs : List V} {ds : List D} (h : Dps C K G vs ds) {i : Nat} {v : V} (e : vs[i]? = some v) : ∃ d, ds[i]? = some d ∧ Dp C K G v d := by
  induction ds generalizing vs i with
  | nil => cases h; simp at e
  | cons a ds ih =>
    cases h with
    | @cons w vs' _ _ q r =>
      cases i with
      | zero => simp at e; subst e; exact ⟨a, rfl, q⟩
      | succ i => simpa using ih r (by simpa using e)
theorem Dps.take {vs : List V} {ds : List D} (h : Dps C K G vs ds) (n : Nat) : Dps C K G (vs.take n) (ds.take n) := by
  induction ds generalizing vs n with
  | nil => cases h; simpa using Dps.nil
  | cons d ds ih => cases h with | cons a b => cases n with
    | zero => exact .nil
    | succ n => exact .cons a (ih b n)
theorem Dps.drop {vs : List V} {ds : List D} (h : Dps C K G vs ds) (n : Nat) : Dps C K G (vs.drop n) (ds.drop n) := by
  induction ds generalizing vs n with
  | nil => cases h; simpa using Dps.nil
  | cons d ds ih => cases h with | cons a b => cases n with
    | zero => exact .cons a b
    | succ n => exact ih b n
theorem Dps.set {vs : List V} {ds : List D} (h : Dps C K G vs ds) {v : V} {d : D} (q : Dp C K G v d) (n : Nat) : Dps C K G (vs.set n v) (ds.set n d) := by
  induction ds generalizing vs n with
  | nil => cases h; exact .nil
  | cons e ds ih => cases h with | cons a b => cases n with
    | zero => exact .cons q b
    | succ n => exact .cons a (ih b n)
theorem Dps.reverse {vs : List V} {ds : List D} (h : Dps C K G vs ds) : Dps C K G vs.reverse ds.reverse := by
  induction ds generalizing vs with
  | nil => cases h; exact .nil
  | cons d ds ih => cases h with | cons a b => rw [List.reverse_cons, List.reverse_cons]; exact (ih b).append (.cons a .nil)
end

/-! ### what is owned -/
inductive O where
  | lst (ds : List D) | ins (c : Nat) (fs : List (Nat × D))
abbrev Mem := List (Addr × O)
inductive OkO (C : DC) (K : PySem.W.Frag) (G H : Hp) (p : Addr) : O → Prop
  | lst {xs : List V} {ds : List D} : H p = some (.lst xs) → Dps C K G xs ds → OkO C K G H p (.lst ds)
  | ins {dx : Addr} {c : Nat} {fs : List (PySem.Str × V)} {es : List (Nat × D)} : H p = some (.ins (C.cls c) dx fs) → Dfs C K G fs es → OkO C K G H p (.ins c es)
theorem OkO.there {C : DC} {K : PySem.W.Frag} {G H : Hp} {p : Addr} {o : O} (h : OkO C K G H p o) : H p ≠ none := by
  cases h with
  | lst e _ => rw [e]; simp
  | ins e _ => rw [e]; simp
theorem OkO.mono {C : DC} {K : PySem.W.Frag} {G G' H H' : Hp} {p : Addr} {o : O} (h : OkO C K G H p o) (e : Ex G G') (k : ∀ u, H p = some u → H' p = some u) : OkO C K G' H' p o := by
  cases h with
  | lst a b => exact .lst (k _ a) (b.mono e)
  | ins a b => exact .ins (k _ a) (b.mono e)

structure Bs where
  H0 : Hp
  G0 : Hp
  ms : List Addr
structure Con (C : DC) (K : PySem.W.Frag) (B : Bs) (μ : Mem) (G H : Hp) : Prop where
  keep : ∀ a o, a ∉ B.ms → B.H0 a = some o → H a = some o
  ever : ∀ a, B.H0 a ≠ none → H a ≠ none
  sub : Ex G H
  old : Ex B.G0 G
  fresh : ∀ a, a ∉ B.ms → B.H0 a ≠ none → B.G0 a = none → G a = none
  cell : ∀ p o, (p, o) ∈ μ → OkO C K G H p o
  hid : ∀ p o, (p, o) ∈ μ → G p = none
  mine : ∀ p o, (p, o) ∈ μ → p ∈ B.ms ∨ B.H0 p = none
  nd : (μ.map Prod.fst).Nodup

/-- slots -/
inductive Sl (C : DC) (K : PySem.W.Frag) (G : Hp) : L2.St → List (Option D) → Prop
  | nil : Sl C K G [] []
  | no {s : Option V} {σ : L2.St} {δ : List (Option D)} : Sl C K G σ δ → Sl C K G (s :: σ) (none :: δ)
  | yes {v : V} {d : D} {σ : L2.St} {δ : List (Option D)} : Dp C K G v d → Sl C K G σ δ → Sl C K G (some v :: σ) (some d :: δ)
section
variable {C : DC} {K : PySem.W.Frag} {B : Bs} {G G' H H' : Hp} {μ : Mem} {σ : L2.St} {δ : List (Option D)}
theorem Sl.mono (e : Ex G G') (h : Sl C K G σ δ) : Sl C K G' σ δ := by
  induction h with
  | nil => exact .nil
  | no _ ih => exact .no ih
  | yes q _ ih => exact .yes (q.mono e) ih
theorem Sl.get (h : Sl C K G σ δ) {i : Nat} {d : D} (e : δ[i]? = some (some d)) : ∃ v, σ[i]? = some (some v) ∧ Dp C K G v d := by
  induction h generalizing i with
  | nil => simp at e
  | no _ ih => cases i with
    | zero => simp at e
    | succ i => simpa using ih (by simpa using e)
  | @yes v d' _ _ q _ ih => cases i with
    | zero => simp at e; subst e; exact ⟨v, rfl, q⟩
    | succ i => simpa using ih (by simpa using e)
theorem Sl.set (h : Sl C K G σ δ) {v : V} {d : D} (q : Dp C K G v d) (i : Nat) : Sl C K G (σ.set i (some v)) (δ.set i (some d)) := by
  induction h generalizing i with
  | nil => exact .nil
  | no r ih => cases i with
    | zero => exact .yes q r
    | succ i => exact .no (ih i)
  | yes r s ih => cases i with
    | zero => exact .yes q s
    | succ i => exact .yes r (ih i)
theorem Sl.forget (h : Sl C K G σ δ) (i : Nat) : Sl C K G σ (δ.set i none) := by
  induction h generalizing i with
  | nil => exact .nil
  | no r ih => cases i with
    | zero => exact .no r
    | succ i => exact .no (ih i)
  | yes r s ih => cases i with
    | zero => exact .no s
    | succ i => exact .yes r (ih i)
theorem Con.now (c : Con C K B μ G H) {p : Addr} (h : H p = none) : B.H0 p = none := by
  cases q : B.H0 p with
  | none => rfl
  | some o => exact absurd h (c.ever p (by rw [q]; simp))
/-- a new piece of data -/
theorem Con.data (c : Con C K B μ G H) {p : Addr} {o : HO} (h : H p = none) : Con C K B μ (upd G p o) (upd H p o) := by
  have hG : G p = none := c.sub.free h
  have np : ∀ q u, (q, u) ∈ μ → q ≠ p := fun q u m z => by
    have := (c.cell q u m).there
    rw [z] at this
    exact this h
  refine ⟨fun a u n e => ?_, fun a n => ?_, fun a u e => ?_, c.old.trans (Ex.new hG), fun a nm n z => ?_, fun q u m => ?_, fun q u m => ?_, c.mine, c.nd⟩
  · rw [upd_ne (fun z => by rw [z, c.now h] at e; cases e)]
    exact c.keep a u n e
  · by_cases z : a = p
    · rw [z, upd_same]; simp
    · rw [upd_ne z]; exact c.ever a n
  · by_cases z : a = p
    · rw [z, upd_same] at e ⊢; exact e
    · rw [upd_ne z] at e ⊢; exact c.sub a u e
  · rw [upd_ne (fun y => by rw [y] at n; exact n (c.now h))]
    exact c.fresh a nm n z
  · exact (c.cell q u m).mono (Ex.new hG) fun w e => by rw [upd_ne (np q u m)]; exact e
  · rw [upd_ne (np q u m)]; exact c.hid q u m
/-- a thing that nobody asks for -/
theorem Con.junk (c : Con C K B μ G H) {p : Addr} {o : HO} (h : H p = none) : Con C K B μ G (upd H p o) := by
  have np : ∀ q u, (q, u) ∈ μ → q ≠ p := fun q u m z => by
    have := (c.cell q u m).there
    rw [z] at this
    exact this h
  refine ⟨fun a u n e => ?_, fun a n => ?_, c.sub.trans (Ex.new h), c.old, c.fresh, fun q u m => ?_, c.hid, c.mine, c.nd⟩
  · rw [upd_ne (fun z => by rw [z, c.now h] at e; cases e)]
    exact c.keep a u n e
  · by_cases z : a = p
    · rw [z, upd_same]; simp
    · rw [upd_ne z]; exact c.ever a n
  · exact (c.cell q u m).mono (Ex.refl G) fun w e => by rw [upd_ne (np q u m)]; exact e
/-- a new owned thing, at the end -/
theorem Con.owned (c : Con C K B μ G H) {p : Addr} {o : O} {u : HO} (h : H p = none) (ok : OkO C K G (upd H p u) p o) : Con C K B (μ ++ [(p, o)]) G (upd H p u) := by
  have j := c.junk (o := u) h
  have np : ∀ q u, (q, u) ∈ μ → q ≠ p := fun q u m z => by
    have := (c.cell q u m).there
    rw [z] at this
    exact this h
  refine ⟨j.keep, j.ever, j.sub, j.old, j.fresh, fun q w m => ?_, fun q w m => ?_, fun q w m => ?_, ?_⟩
  · rcases List.mem_append.mp m with m | m
    · exact j.cell q w m
    · simp at m; obtain ⟨rfl, rfl⟩ := m; exact ok
  · rcases List.mem_append.mp m with m | m
    · exact c.hid q w m
    · simp at m; obtain ⟨rfl, rfl⟩ := m; exact c.sub.free h
  · rcases List.mem_append.mp m with m | m
    · exact c.mine q w m
    · simp at m; obtain ⟨rfl, rfl⟩ := m; exact .inr (c.now h)
  · rw [List.map_append, List.nodup_append]
    refine ⟨c.nd, by simp, fun a ha b hb => ?_⟩
    simp at hb
    subst hb
    obtain ⟨⟨q, w⟩, m, rfl⟩ := List.mem_map.mp ha
    exact np q w m
theorem mem_set_of {μ : Mem} {i : Nat} {p : Addr} {o o' : O} (hi : μ[i]? = some (p, o)) {q : Addr} {w : O} (m : (q, w) ∈ μ.set i (p, o')) : (q = p ∧ w = o') ∨ ((q, w) ∈ μ) := by
  rcases List.mem_or_eq_of_mem_set m with m | m
  · exact .inr m
  · injection m with a b; exact .inl ⟨a, b⟩
theorem map_set_fst {μ : Mem} {i : Nat} {p : Addr} {o o' : O} (hi : μ[i]? = some (p, o)) : (μ.set i (p, o')).map Prod.fst = μ.map Prod.fst := by
  induction μ generalizing i with
  | nil => rfl
  | cons a μ ih => cases i with
    | zero => simp at hi; subst hi; rfl
    | succ i => simp [ih (by simpa using hi)]
/-- entries of one address are one -/
theorem nd_one {μ : Mem} (nd : (μ.map Prod.fst).Nodup) {i : Nat} {p : Addr} {o o' : O} (hi : μ[i]? = some (p, o)) : ∀ {q w}, (q, w) ∈ μ.set i (p, o') → q = p → w = o' := by
  induction μ generalizing i with
  | nil => simp at hi
  | cons a μ ih =>
    intro q w m e
    simp only [List.map_cons, List.nodup_cons] at nd
    cases i with
    | zero =>
      simp at hi; subst hi
      simp at m
      rcases m with ⟨_, rfl⟩ | m
      · rfl
      · exact absurd (List.mem_map.mpr ⟨(q, w), m, e⟩) nd.1
    | succ i =>
      have hi' : μ[i]? = some (p, o) := by simpa using hi
      simp at m
      rcases m with m | m
      · exfalso
        have : p ∈ μ.map Prod.fst := List.mem_map.mpr ⟨(p, o), List.mem_of_getElem? hi', rfl⟩
        rw [← e] at this
        rw [← m] at nd
        exact nd.1 this
      · exact ih nd.2 hi' m e
/-- an owned thing is written -/
theorem Con.write (c : Con C K B μ G H) {i : Nat} {p : Addr} {o o' : O} {u : HO} (hi : μ[i]? = some (p, o)) (ok : OkO C K G (upd H p u) p o') : Con C K B (μ.set i (p, o')) G (upd H p u) := by
  have hm := List.mem_of_getElem? hi
  have mine := c.mine p o hm
  have hG := c.hid p o hm
  refine ⟨fun a w n e => ?_, fun a n => ?_, fun a w e => ?_, c.old, c.fresh, fun q w m => ?_, fun q w m => ?_, fun q w m => ?_, ?_⟩
  · have : a ≠ p := fun z => by
      rcases mine with y | y
      · rw [z] at n; exact n y
      · rw [z, y] at e; cases e
    rw [upd_ne this]
    exact c.keep a w n e
  · by_cases z : a = p
    · rw [z, upd_same]; simp
    · rw [upd_ne z]; exact c.ever a n
  · rw [upd_ne (fun z => by rw [z, hG] at e; cases e)]
    exact c.sub a w e
  · by_cases z : q = p
    · have := nd_one c.nd hi m z
      subst this; subst z; exact ok
    · rcases mem_set_of hi m with ⟨y, _⟩ | m
      · exact absurd y z
      · exact (c.cell q w m).mono (Ex.refl G) fun v e => by rw [upd_ne z]; exact e
  · rcases mem_set_of hi m with ⟨y, _⟩ | m
    · rw [y]; exact hG
    · exact c.hid q w m
  · rcases mem_set_of hi m with ⟨y, _⟩ | m
    · rw [y]; exact mine
    · exact c.mine q w m
  · rw [map_set_fst hi]; exact c.nd
/-- the last owned thing becomes data -/
theorem Con.freeze (c : Con C K B (μ ++ [(p, o)]) G H) {u : HO} (hu : H p = some u) : Con C K B μ (upd G p u) H ∧ Ex G (upd G p u) := by
  have mm : ∀ q w, (q, w) ∈ μ → (q, w) ∈ μ ++ [(p, o)] := fun q w m => List.mem_append_left _ m
  have hG := c.hid p o (by simp)
  have nd := c.nd
  rw [List.map_append, List.nodup_append] at nd
  have np : ∀ q w, (q, w) ∈ μ → q ≠ p := fun q w m => nd.2.2 q (List.mem_map_of_mem (f := Prod.fst) m) p (by simp)
  have e1 : Ex G (upd G p u) := Ex.new hG
  refine ⟨⟨c.keep, c.ever, fun a w e => ?_, c.old.trans e1, fun a nm n z => ?_, fun q w m => (c.cell q w (mm q w m)).mono e1 fun _ e => e, fun q w m => ?_, fun q w m => c.mine q w (mm q w m), nd.1⟩, e1⟩
  · by_cases z : a = p
    · rw [z, upd_same] at e; rw [z]; cases e; exact hu
    · rw [upd_ne z] at e; exact c.sub a w e
  · rw [upd_ne (fun y => by
      rcases c.mine p o (by simp) with z | z
      · rw [y] at nm; exact nm z
      · rw [y] at n; exact n z)]
    exact c.fresh a nm n z
  · rw [upd_ne (np q w m)]; exact c.hid q w (mm q w m)
/-- a frame within: the first cells go in, the rest stays as it is -/
theorem Con.into (c : Con C K B (μ ++ ν) G H) : Con C K ⟨H, G, μ.map Prod.fst⟩ μ G H :=
  ⟨fun a o n e => e, fun a n => n, c.sub, Ex.refl G, fun a _ _ z => z, fun p o m => c.cell p o (List.mem_append_left _ m), fun p o m => c.hid p o (List.mem_append_left _ m),
    fun p o m => .inl (List.mem_map_of_mem (f := Prod.fst) m), by have := c.nd; rw [List.map_append, List.nodup_append] at this; exact this.1⟩
theorem Con.perm (c : Con C K B μ G H) {μ' : Mem} (p : ∀ x, x ∈ μ' → x ∈ μ) (nd : (μ'.map Prod.fst).Nodup) : Con C K B μ' G H :=
  ⟨c.keep, c.ever, c.sub, c.old, c.fresh, fun q o m => c.cell q o (p _ m), fun q o m => c.hid q o (p _ m), fun q o m => c.mine q o (p _ m), nd⟩
/-- back from the frame within -/
theorem Con.back {ν μ1 : Mem} {G1 H1 : Hp} (c : Con C K B (μ ++ ν) G H) (c1 : Con C K ⟨H, G, μ.map Prod.fst⟩ μ1 G1 H1) : Con C K B (μ1 ++ ν) G1 H1 := by
  have nd := c.nd
  rw [List.map_append, List.nodup_append] at nd
  have out : ∀ q w, (q, w) ∈ ν → q ∉ μ.map Prod.fst := fun q w m z => nd.2.2 q z q (List.mem_map_of_mem (f := Prod.fst) m) rfl
  have inν : ∀ q w, (q, w) ∈ ν → (q, w) ∈ μ ++ ν := fun q w m => List.mem_append_right _ m
  have mine1 : ∀ q w, (q, w) ∈ μ1 → q ∈ B.ms ∨ B.H0 q = none := fun q w m => by
    rcases c1.mine q w m with z | z
    · obtain ⟨⟨q', w'⟩, m', rfl⟩ := List.mem_map.mp z
      exact c.mine _ w' (List.mem_append_left _ m')
    · exact .inr (c.now z)
  refine ⟨fun a o n e => ?_, fun a n => c1.ever a (c.ever a n), c1.sub, c.old.trans c1.old, fun a nm n z => ?_, fun q w m => ?_, fun q w m => ?_, fun q w m => ?_, ?_⟩
  · have ea := c.keep a o n e
    refine c1.keep a o (fun z => ?_) ea
    obtain ⟨⟨q, w⟩, m, e2⟩ := List.mem_map.mp z
    have e2 : q = a := e2
    subst e2
    rcases c.mine q w (List.mem_append_left _ m) with y | y
    · exact n y
    · rw [y] at e; cases e
  · refine c1.fresh a (fun y => ?_) (c.ever a n) (c.fresh a nm n z)
    obtain ⟨⟨q, w⟩, m, e2⟩ := List.mem_map.mp y
    have e2 : q = a := e2
    subst e2
    rcases c.mine q w (List.mem_append_left _ m) with y | y
    · exact nm y
    · exact n y
  · rcases List.mem_append.mp m with m | m
    · exact c1.cell q w m
    · exact (c.cell q w (inν q w m)).mono c1.old fun u e => c1.keep q u (out q w m) e
  · rcases List.mem_append.mp m with m | m
    · exact c1.hid q w m
    · exact c1.fresh q (out q w m) (c.cell q w (inν q w m)).there (c.hid q w (inν q w m))
  · rcases List.mem_append.mp m with m | m
    · exact mine1 q w m
    · exact c.mine q w (inν q w m)
  · rw [List.map_append, List.nodup_append]
    refine ⟨c1.nd, nd.2.1, fun a ha b hb e => ?_⟩
    obtain ⟨⟨q, w⟩, m, rfl⟩ := List.mem_map.mp ha
    obtain ⟨⟨q2, w2⟩, m2, rfl⟩ := List.mem_map.mp hb
    have e : q = q2 := e
    subst e
    rcases c1.mine q w m with z | z
    · exact out q w2 m2 z
    · exact (c.cell q w2 (inν q w2 m2)).there z
/-- the same, new cells at the end -/
theorem Con.backE {ν μ1 μ2 : Mem} {G1 H1 : Hp} (c : Con C K B (μ ++ ν) G H) (c1 : Con C K ⟨H, G, μ.map Prod.fst⟩ (μ1 ++ μ2) G1 H1) : Con C K B (μ1 ++ ν ++ μ2) G1 H1 := by
  have b := c.back c1
  refine b.perm (fun x m => ?_) ?_
  · simp only [List.mem_append] at m ⊢
    rcases m with (m | m) | m
    · exact .inl (.inl m)
    · exact .inr m
    · exact .inl (.inr m)
  · have nd := b.nd
    simp only [List.map_append, List.nodup_append] at nd ⊢
    obtain ⟨⟨n1, n2, n3⟩, n4, n5⟩ := nd
    refine ⟨⟨n1, n4, fun a ha b hb => n5 a (List.mem_append_left _ ha) b hb⟩, n2, fun a ha b hb => ?_⟩
    rcases List.mem_append.mp ha with ha | ha
    · exact n3 a ha b hb
    · exact fun e => n5 b (List.mem_append_right _ hb) a ha e.symm
end
end DL

namespace DL
open PySem PySem.Spec PyProof.Rows L2

abbrev Dl := List (Option D)
abbrev DQ := D → Mem → Prop
/-- raised: the class's code, the field's value -/
abbrev DR := Nat → D → Mem → Prop
abbrev DE := Dl → Mem → DQ → DR → Prop
abbrev DT := Dl → Mem → (Bool → Mem → Prop) → DR → Prop
abbrev DA := Dl → Mem → (List D → Mem → Prop) → DR → Prop
structure DEnds where
  nx : Dl → Mem → Prop
  rt : DQ
  bk : Dl → Mem → Prop
  ct : Dl → Mem → Prop
  ra : Dl → DR
abbrev DS := DEnds → Dl → Mem → Prop

section
variable (C : DC) (K : PySem.W.Frag) (W : WX)
/-- what is wished of an exception -/
def Rs (B : Bs) (σ : L2.St) (G : Hp) (R : DR) : Prop := ∀ c d μ' G' H' v dx, Con C K B μ' G' H' → Ex G G' → G' dx = some (.xd [(C.fld 0, v)]) → Dp C K G' v d → R c d μ' → W (.ref (C.cls c)) (some dx) σ H'
def SndE (te : TE) (de : DE) : Prop := ∀ B σ δ μ G H (Q : VK) (DQ_ : DQ) (R : DR), Con C K B μ G H → Sl C K G σ δ → de δ μ DQ_ R → Rs C K W B σ G R →
  (∀ v d μ' G' H', Con C K B μ' G' H' → Ex G G' → Dp C K G' v d → DQ_ d μ' → Q v H') → te σ H Q
def SndT (te : TT) (de : DT) : Prop := ∀ B σ δ μ G H (Q : Bool → Hp → Prop) (DQ_ : Bool → Mem → Prop) (R : DR), Con C K B μ G H → Sl C K G σ δ → de δ μ DQ_ R → Rs C K W B σ G R →
  (∀ b μ' G' H', Con C K B μ' G' H' → Ex G G' → DQ_ b μ' → Q b H') → te σ H Q
def SndA (te : TA) (de : DA) : Prop := ∀ B σ δ μ G H (Q : List V → Hp → Prop) (DQ_ : List D → Mem → Prop) (R : DR), Con C K B μ G H → Sl C K G σ δ → de δ μ DQ_ R → Rs C K W B σ G R →
  (∀ vs ds μ' G' H', Con C K B μ' G' H' → Ex G G' → Dps C K G' vs ds → DQ_ ds μ' → Q vs H') → te σ H Q
def SndS (ts : TS) (ds : DS) : Prop := ∀ B σ δ μ G H (T : Ends) (E : DEnds), Con C K B μ G H → Sl C K G σ δ → ds E δ μ →
  (∀ σ' δ' μ' G' H', Con C K B μ' G' H' → Sl C K G' σ' δ' → E.nx δ' μ' → T.nx σ' H') → (∀ v d μ' G' H', Con C K B μ' G' H' → Dp C K G' v d → E.rt d μ' → T.rt v H') →
  (∀ σ' δ' μ' G' H', Con C K B μ' G' H' → Sl C K G' σ' δ' → E.bk δ' μ' → T.bk σ' H') → (∀ σ' δ' μ' G' H', Con C K B μ' G' H' → Sl C K G' σ' δ' → E.ct δ' μ' → T.ct σ' H') →
  (∀ σ' δ' c d μ' G' H' v dx, Con C K B μ' G' H' → Sl C K G' σ' δ' → G' dx = some (.xd [(C.fld 0, v)]) → Dp C K G' v d → E.ra δ' c d μ' → W (.ref (C.cls c)) (some dx) σ' H') → ts T σ H
end
theorem Rs.mono {C : DC} {K : PySem.W.Frag} {W : WX} {B : Bs} {σ : L2.St} {G G1 : Hp} {R : DR} (h : Rs C K W B σ G R) (e : Ex G G1) : Rs C K W B σ G1 R :=
  fun c d μ' G' H' v dx a b => h c d μ' G' H' v dx a (e.trans b)
section
variable (X : Cx) (C : DC) (W : WX)
def DPE (e : Expr) (de : DE) : Prop := ∃ te, PE X e te ∧ SndE C X.K W te de
def DPT (e : Expr) (de : DT) : Prop := ∃ te, PT X e te ∧ SndT C X.K W te de
def DPW (e : Expr) (de : DT) : Prop := ∃ te, PW X e te ∧ SndT C X.K W te de
def DPA (es : List Expr) (de : DA) : Prop := ∃ te, PA X es te ∧ SndA C X.K W te de
def DPS (st : Stmt) (ds : DS) : Prop := ∃ ts, PS X st ts ∧ SndS C X.K W ts ds
def DPSs (st : List Stmt) (ds : DS) : Prop := ∃ ts, PSs X st ts ∧ SndS C X.K W ts ds
end

/-! ### values -/
def dC (d : D) : DE := fun _ μ Q _ => Q d μ
def dVar (i : Nat) : DE := fun δ μ Q _ => match δ[i]? with
  | some (some d) => Q d μ
  | _ => False
section
variable {X : Cx} {C : DC} {W : WX} {pos : Pos}
theorem snd_const {v : V} {d : D} (h : ∀ G, Dp C X.K G v d) : SndE C X.K W (tC v) (dC d) := fun B σ δ μ G H Q DQ_ R c s q r k => k v d μ G H c (Ex.refl G) (h G) q
theorem e_int {i j} : DPE X C W (.Constant (.int i) j pos) (dC (.int i)) := ⟨_, pe_int, snd_const fun _ => .int i⟩
theorem e_bl {b j} : DPE X C W (.Constant (.bool b) j pos) (dC (.bl b)) := ⟨_, pe_bl, snd_const fun _ => .bl b⟩
theorem e_non {j} : DPE X C W (.Constant .none j pos) (dC .non) := ⟨_, pe_non, snd_const fun _ => .non⟩
theorem e_str (s : SS) {x : PySem.Str} {j} (h : x = mk s := by decide +kernel) (hl : s.length ≤ 16777216 := by decide) (hk : s.all (· < 0x110000) = true := by decide) : DPE X C W (.Constant (.str x) j pos) (dC (.str s)) := ⟨_, pe_str, snd_const fun _ => by rw [h]; exact .str s hl hk⟩
theorem e_var (i : Nat) {x : PySem.Str} (hN : X.N[i]? = some x := by rfl) (hv : Vis X.env.scope x := by first | exact Or.inl rfl | exact Or.inr (Or.inl rfl) | exact Or.inr (Or.inr rfl)) (hd : (x == ("__debug__" : PySem.Str)) = false := by decide)
    (hcd : (x == ("__classdict__" : PySem.Str)) = false := by decide) : DPE X C W (.Name x pos) (dVar i) := ⟨_, pe_var hN hv hd hcd, fun B σ δ μ G H Q DQ_ R c s q r k => by
  unfold dVar at q
  split at q
  · rename_i d e
    obtain ⟨v, e1, e2⟩ := s.get e
    exact ⟨v, e1, k v d μ G H c (Ex.refl G) e2 q⟩
  · exact q.elim⟩
/-- a module's constant -/
theorem e_glob (v : V) (d : D) {x : PySem.Str} (h : ∃ u, X.mg x = some u ∧ RelV v u) (hd : ∀ G, Dp C X.K G v d) (hg : Gl X x := by rfl) (hb : (x == ("__debug__" : PySem.Str)) = false := by decide) : DPE X C W (.Name x pos) (dC d) := by
  obtain ⟨u, h1, h2⟩ := h
  exact ⟨_, pe_glob hg h1 h2 hb, snd_const hd⟩
/-- a class of the module, as a value -/
theorem e_cls (c : Nat) {x : PySem.Str} (h : X.mg x = some (.ref (C.cls c))) (hg : Gl X x := by rfl) (hb : (x == ("__debug__" : PySem.Str)) = false := by decide) : DPE X C W (.Name x pos) (dC (.cls c)) :=
  ⟨_, pe_glob (v := .ref (C.cls c)) hg h rfl hb, snd_const fun _ => .cls c⟩
/-- a class or def of the module, as a value -/
theorem e_gadr (a : Addr) {x : PySem.Str} (h : X.mg x = some (.ref a)) (hg : Gl X x := by rfl) (hb : (x == ("__debug__" : PySem.Str)) = false := by decide) : DPE X C W (.Name x pos) (dC (.adr a)) :=
  ⟨_, pe_glob (v := .ref a) hg h rfl hb, snd_const fun _ => .adr a⟩
/-- a builtin type -/
theorem e_ty (n : String) {x : PySem.Str} (hm : X.mg x = none) (hv : bootBuiltins x = some (.type n)) (hg : Gl X x := by rfl) (hn : x ≠ "__name__" := by decide) (hb : (x == ("__debug__" : PySem.Str)) = false := by decide) : DPE X C W (.Name x pos) (dC (.ty n)) :=
  ⟨_, pe_bltn (v := .ty n) hg hm hv rfl hn hb, snd_const fun _ => .ty n⟩
end

/-! ### operators by values -/
abbrev FOp := D → D → (D → Prop) → Prop
def dBin (f : FOp) (a b : DE) : DE := fun δ μ Q R => a δ μ (fun x μ1 => b δ μ1 (fun y μ2 => f x y fun z => Q z μ2) R) R
def SndOp (C : DC) (K : PySem.W.Frag) (r : R2) (f : FOp) : Prop := ∀ B μ G H x y dx dy (Q : VK) (F : D → Prop), Con C K B μ G H → Dp C K G x dx → Dp C K G y dy → f dx dy F →
  (∀ z dz G' H', Con C K B μ G' H' → Ex G G' → Dp C K G' z dz → F dz → Q z H') → r x y H Q
def OpD (X : Cx) (C : DC) (op : Value → Value → Sem Value) (f : FOp) : Prop := ∃ r, OpR X op r ∧ SndOp C X.K r f
section
variable {X : Cx} {C : DC} {W : WX} {pos : Pos} {a b : Expr} {da db : DE} {f : FOp}
theorem snd_bin {r : R2} {ta tb : TE} (hr : SndOp C X.K r f) (ha : SndE C X.K W ta da) (hb : SndE C X.K W tb db) : SndE C X.K W (tOp r ta tb) (dBin f da db) := fun B σ δ μ G H Q DQ_ R c s q rr k =>
  ha B σ δ μ G H _ _ R c s q rr fun x dx μ1 G1 H1 c1 e1 x1 q1 => hb B σ δ μ1 G1 H1 _ _ R c1 (s.mono e1) q1 (rr.mono e1) fun y dy μ2 G2 H2 c2 e2 y2 q2 =>
    hr B μ2 G2 H2 x y dx dy Q _ c2 (x1.mono e2) y2 q2 fun z dz G3 H3 c3 e3 z3 q3 => k z dz μ2 G3 H3 c3 ((e1.trans e2).trans e3) z3 q3
theorem e_op {op : Operator} (ho : OpD X C (binaryOp op) f) (ha : DPE X C W a da) (hb : DPE X C W b db) : DPE X C W (.BinOp a op b pos) (dBin f da db) := by
  obtain ⟨ta, a1, a2⟩ := ha
  obtain ⟨tb, b1, b2⟩ := hb
  obtain ⟨r, r1, r2⟩ := ho
  exact ⟨_, pe_op r1 a1 b1, snd_bin r2 a2 b2⟩
theorem e_cmp {op : CmpOp} (ho : OpD X C (compareOp op) f) (ha : DPE X C W a da) (hb : DPE X C W b db) (hm : behindInMarks op b = false := by first | exact nobehind _ (by decide) (by decide) | rfl) : DPE X C W (.Compare a [op] [b] pos) (dBin f da db) := by
  obtain ⟨ta, a1, a2⟩ := ha
  obtain ⟨tb, b1, b2⟩ := hb
  obtain ⟨r, r1, r2⟩ := ho
  exact ⟨_, pe_cmpR r1 a1 b1 hm, snd_bin r2 a2 b2⟩
end
end DL

namespace DL
open PySem PySem.Spec PyProof.Rows L2

/-! ### texts as lists -/
theorem mk_len (s : SS) : (mk s).length = s.length := by simp [mk, PySem.Str.length]
theorem mk_tl (s : SS) : (mk s).cps.toList = s := by simp [mk]
theorem mk_append (s t : SS) : mk s ++ mk t = mk (s ++ t) := by
  show PySem.Str.append (mk s) (mk t) = _
  simp [mk, PySem.Str.append]
theorem mk_inj {s t : SS} (h : mk s = mk t) : s = t := by
  have := congrArg (fun z : PySem.Str => z.cps.toList) h
  simpa [mk] using this
theorem mk_eq (s t : SS) : decide (mk s = mk t) = decide (s = t) := by
  by_cases h : s = t
  · subst h; simp
  · rw [decide_eq_false h, decide_eq_false (fun e => h (mk_inj e))]
def okS (s : SS) : Prop := s.all (· < 0x110000) = true
theorem okS_append {s t : SS} (h : okS s) (k : okS t) : okS (s ++ t) := by unfold okS at *; simp_all

/-! ### what is plain data, for == and != at any depth -/
mutual
def pyD : D → PyData
  | .non => .none | .bl b => .bool b | .int i => .int i | .str s => .str (mk s) | .lst ds => .list (pyDs ds) | .tup ds => .tuple (pyDs ds)
  | .fl _ => .none | .obj _ _ => .none | .adr _ => .none | .ty _ => .none | .cls _ => .none | .exn _ _ _ _ => .none
def pyDs : List D → List PyData
  | [] => [] | d :: ds => pyD d :: pyDs ds
end
mutual
def plain : D → Bool
  | .non | .bl _ | .int _ | .str _ => true | .lst ds | .tup ds => plains ds | _ => false
def plains : List D → Bool
  | [] => true | d :: ds => plain d && plains ds
end
section
variable {C : DC} {K : PySem.W.Frag} {G : Hp}
theorem strOk_mk {s : SS} (h : okS s) : PyData.strOk (mk s) = true := by
  unfold PyData.strOk mk okS at *
  simpa using h
mutual
theorem Dp.py : ∀ {v : V} {d : D}, Dp C K G v d → plain d = true → L2.Dp K G v (pyD d) ∧ (pyD d).canLay0 = true
  | _, _, .non, _ => ⟨.non, rfl⟩
  | _, _, .bl b, _ => ⟨.bl b, rfl⟩
  | _, _, .int i, _ => ⟨.int i, rfl⟩
  | _, _, .str s _ h, _ => ⟨.str _, strOk_mk h⟩
  | _, _, .lst h hs, p => by
    obtain ⟨q, r⟩ := Dps.py hs p
    exact ⟨.lst (.inl (.inl h)) q, r⟩
  | _, _, .tup h hs, p => by
    obtain ⟨q, r⟩ := Dps.py hs p
    exact ⟨.tup h q, r⟩
  | _, _, .fl _ _, p => by cases p
  | _, _, .obj _ _, p => by cases p
  | _, _, .adr _, p => by cases p
  | _, _, .ty _, p => by cases p
  | _, _, .cls _, p => by cases p
  | _, _, .exn _ _, p => by cases p
theorem Dps.py : ∀ {vs : List V} {ds : List D}, Dps C K G vs ds → plains ds = true → L2.DpAll K G vs (pyDs ds) ∧ PyData.canLayAll0 (pyDs ds) = true
  | _, _, .nil, _ => ⟨.nil, rfl⟩
  | _, _, .cons h hs, p => by
    obtain ⟨p1, p2⟩ := Bool.and_eq_true_iff.mp (show (plain _ && plains _) = true from p)
    obtain ⟨q, r⟩ := Dp.py h p1
    obtain ⟨q2, r2⟩ := Dps.py hs p2
    exact ⟨.cons q q2, by show (_ && _) = true; rw [r, r2]; rfl⟩
end
theorem shaped_of {d : PyData} (h : d.canLay0 = true) (k : d.depth ≤ 64) : SeqAt.shaped d = true := by
  unfold SeqAt.shaped
  rw [h, decide_eq_true k]
  rfl
end
/-- flat data as values -/
def flat : D → Bool
  | .non | .bl _ | .int _ | .str _ => true | _ => false
def flV : D → V
  | .non => .non | .bl b => .bl b | .int i => .int i | .str s => .str (mk s) | _ => .non
theorem Dp.flat {C : DC} {K : PySem.W.Frag} {G : Hp} {v : V} {d : D} (h : Dp C K G v d) (f : flat d = true) : v = flV d ∧ flatV v = true := by
  cases h <;> first | exact ⟨rfl, rfl⟩ | cases f
theorem Dps.flat {C : DC} {K : PySem.W.Frag} {G : Hp} : ∀ {vs : List V} {ds : List D}, Dps C K G vs ds → ds.all DL.flat = true → vs = ds.map flV ∧ vs.all flatV = true
  | _, _, .nil, _ => ⟨rfl, rfl⟩
  | _, _, .cons h hs, p => by
    obtain ⟨p1, p2⟩ := Bool.and_eq_true_iff.mp (show (DL.flat _ && List.all _ DL.flat) = true from p)
    obtain ⟨e1, f1⟩ := h.flat p1
    obtain ⟨e2, f2⟩ := Dps.flat hs p2
    exact ⟨by rw [List.map_cons, ← e1, ← e2], by rw [List.all_cons, f1, f2]; rfl⟩
/-- == of flat data -/
def eqF : D → D → Bool
  | .non, .non => true
  | .bl a, .bl b => a == b
  | .bl a, .int b => (if a then 1 else 0) == b
  | .int a, .bl b => a == (if b then 1 else 0)
  | .int a, .int b => a == b
  | .str a, .str b => a == b
  | _, _ => false
theorem eqF_V {d e : D} (h : flat d = true) (k : flat e = true) : eqV (flV d) (flV e) = eqF d e := by
  have key : ∀ s t : SS, (mk s == mk t) = (s == t) := fun s t => by
    rw [Bool.eq_iff_iff]
    simp only [beq_iff_eq]
    exact ⟨mk_inj, fun e => by rw [e]⟩
  cases d <;> cases e <;> first | rfl | (cases h; done) | (cases k; done) | exact key _ _
def inF (x : D) (ds : List D) : Bool := ds.any fun y => eqF y x
theorem inF_V {x : D} {ds : List D} (h : flat x = true) (k : ds.all flat = true) : inV (flV x) (ds.map flV) = inF x ds := by
  unfold inV inF
  rw [List.any_map]
  induction ds with
  | nil => rfl
  | cons d ds ih =>
    obtain ⟨p1, p2⟩ := Bool.and_eq_true_iff.mp (show (DL.flat d && List.all ds DL.flat) = true from k)
    rw [List.any_cons, List.any_cons, ih p2]
    show (eqV (flV d) (flV x) || _) = _
    rw [eqF_V p1 h]

/-! ### the operators -/
def fAdd : FOp := fun x y Q => match x, y with
  | .int i, .int j => Q (.int (i + j))
  | .str s, .str t => s.length + t.length ≤ 16777216 ∧ Q (.str (s ++ t))
  | .lst a, .lst b => a.length + b.length ≤ 16777216 ∧ Q (.lst (a ++ b))
  | .tup a, .tup b => a.length + b.length ≤ 16777216 ∧ Q (.tup (a ++ b))
  | _, _ => False
section
variable {X : Cx} {C : DC}
theorem OpD.imp {op : Value → Value → Sem Value} {f g : FOp} (h : OpD X C op f) (i : ∀ x y Q, g x y Q → f x y Q) : OpD X C op g := by
  obtain ⟨r, a, b⟩ := h
  exact ⟨r, a, fun B μ G H x y dx dy Q F c p q w k => b B μ G H x y dx dy Q F c p q (i _ _ _ w) k⟩
theorem OpD.of {op : Value → Value → Sem Value} {r : R2} {f : FOp} (h : OpR X op r) (k : SndOp C X.K r f) : OpD X C op f := ⟨r, h, k⟩
theorem sl16 : sizeLine = 16777216 := sizeLine_eq
theorem o_add : OpD X C (binaryOp .Add) fAdd := by
  refine .of ((op_add).or (op_add_str.or (op_cat.or op_catA))) fun B μ G H x y dx dy Q F c hx hy q k => ?_
  cases hx with
  | int i =>
    cases hy with
    | int j => exact .inl ⟨i, j, rfl, rfl, k _ _ G H c (Ex.refl G) (.int _) q⟩
    | _ => exact q.elim
  | str s h1 h2 =>
    cases hy with
    | str t k1 k2 =>
      obtain ⟨z, q⟩ := q
      refine .inr (.inl ⟨mk s, mk t, rfl, rfl, by rw [mk_len, mk_len, sl16]; exact z, ?_⟩)
      rw [mk_append]
      exact k _ _ G H c (Ex.refl G) (.str _ (by simpa using z) (okS_append h2 k2)) q
    | _ => exact q.elim
  | @lst _ xs _ h1 h2 =>
    cases hy with
    | @lst _ ys _ k1 k2 =>
      obtain ⟨z, q⟩ := q
      refine .inr (.inr (.inl ⟨_, _, _, _, rfl, rfl, c.sub _ _ h1, c.sub _ _ k1, by rw [h2.length, k2.length, sl16]; exact z, fun p hp => ?_⟩))
      have e := Ex.new (o := .lst (xs ++ ys)) (c.sub.free hp)
      exact k _ _ _ _ (c.data hp) e (.lst upd_same ((h2.append k2).mono e)) q
    | _ => exact q.elim
  | @tup a xs ds h1 h2 =>
    cases hy with
    | @tup a' ys es k1 k2 =>
      obtain ⟨z, q⟩ := q
      refine .inr (.inr (.inr ⟨_, _, _, _, rfl, rfl, c.sub.seqT h1, c.sub.seqT k1, by rw [h2.length, k2.length, sl16]; exact z, fun e => ?_, fun n e => ?_, fun n n' p hp => ?_⟩))
      · subst e
        cases h2
        exact k _ _ G H c (Ex.refl G) (.tup k1 k2) q
      · subst e
        cases k2
        rw [List.append_nil] at q
        exact k _ _ G H c (Ex.refl G) (.tup h1 h2) q
      · have e := Ex.new (o := .tup (xs ++ ys)) (c.sub.free hp)
        exact k _ _ _ _ (c.data hp) e (.tup (.of upd_same) ((h2.append k2).mono e)) q
    | _ => exact q.elim
  | _ => exact q.elim
/-- two ints, by a rule -/
def fI (p : Int → Int → Prop) (g : Int → Int → D) : FOp := fun x y Q => match x, y with
  | .int i, .int j => p i j ∧ Q (g i j)
  | _, _ => False
def fI0 (g : Int → Int → D) : FOp := fun x y Q => match x, y with
  | .int i, .int j => Q (g i j)
  | _, _ => False
theorem o_I {op : Value → Value → Sem Value} {p : Int → Int → Prop} {g : Int → Int → Int} (h : OpR X op (rI p fun i j => .int (g i j))) : OpD X C op (fI p fun i j => .int (g i j)) := by
  refine .of h fun B μ G H x y dx dy Q F c hx hy q k => ?_
  cases hx with
  | int i =>
    cases hy with
    | int j => exact ⟨i, j, rfl, rfl, q.1, k _ _ G H c (Ex.refl G) (.int _) q.2⟩
    | _ => exact q.elim
  | _ => exact q.elim
theorem o_I0 {op : Value → Value → Sem Value} {g : Int → Int → Int} (h : OpR X op (rI0 fun i j => .int (g i j))) : OpD X C op (fI0 fun i j => .int (g i j)) := by
  refine .of h fun B μ G H x y dx dy Q F c hx hy q k => ?_
  cases hx with
  | int i =>
    cases hy with
    | int j => exact ⟨i, j, rfl, rfl, k _ _ G H c (Ex.refl G) (.int _) q⟩
    | _ => exact q.elim
  | _ => exact q.elim
theorem o_sub : OpD X C (binaryOp .Sub) (fI0 fun i j => .int (i - j)) := o_I0 op_sub
theorem o_mod : OpD X C (binaryOp .Mod) (fI (fun _ j => 0 < j) fun i j => .int (i % j)) := o_I op_mod
theorem o_fdiv : OpD X C (binaryOp .FloorDiv) (fI (fun i j => CDivW i j) fun i j => .int (i / j)) := o_I op_fdivW
theorem o_pow : OpD X C (binaryOp .Pow) (fI CPow fun i j => .int (i ^ j.toNat)) := o_I op_pow
theorem op_strmul : OpR X (binaryOp .Mult) (fun x y H Q => ∃ (s : SS) (n : Int), x = .str (mk s) ∧ y = .int n ∧ 0 ≤ n ∧ n ≤ 16777216 ∧ s.length * n.toNat ≤ 16777216 ∧ Q (.str (mk (List.replicate n.toNat s).flatten)) H) := by
  intro pins s σ H x y v u Q I rx ry h
  obtain ⟨z, n, rfl, rfl, h0, hn, hl, q⟩ := h
  obtain ⟨t, rfl⟩ := rx
  obtain ⟨t', rfl⟩ := ry
  have fold : ∀ (m : Nat) (acc : Array Nat), (List.replicate m (mk z).cps).foldl (· ++ ·) acc = acc ++ (List.replicate m z).flatten.toArray := by
    intro m
    induction m with
    | zero => intro acc; simp
    | succ m ih => intro acc; rw [List.replicate_succ, List.foldl_cons, ih, List.replicate_succ, List.flatten_cons]; simp [mk, Array.append_assoc]
  refine PySem.P.mul_str ?_ (fun h1 _ => ?_) (fun h1 _ => ?_) ?_
  · rw [decide_eq_false (by omega), decide_eq_false (by omega)]; rfl
  · rw [mk_len]
    have hz : z.length * 1 ≤ z.length * n.toNat := Nat.mul_le_mul_left _ (by omega)
    have d : (16777216 : Int) ≤ (2 ^ 63 - 1) / n := Int.le_ediv_of_mul_le (by omega) (by omega)
    omega
  · rw [mk_len]
    show decide (_ > sizeLine) = false
    rw [sizeLine_eq]
    simp
    omega
  · by_cases c1 : n < 1
    · rw [if_pos c1]
      have e : n = 0 := by omega
      subst e
      exact ⟨by decide, .str _, H, I.tok _, ⟨_, rfl⟩, q⟩
    · rw [if_neg c1]
      by_cases c2 : (n == 1 || (mk z).length == 0) = true
      · rw [if_pos c2]
        have e : (List.replicate n.toNat z).flatten = z := by
          rcases Bool.or_eq_true_iff.mp c2 with c | c
          · have : n = 1 := by simpa using c
            subst this
            simp
          · have : z = [] := by
              have : (mk z).length = 0 := by simpa using c
              rw [mk_len] at this
              exact List.eq_nil_of_length_eq_zero this
            subst this
            simp
        rw [e] at q
        exact ⟨.str _, H, I, ⟨_, rfl⟩, q⟩
      · rw [if_neg c2]
        have e : (⟨(List.replicate n.toNat (mk z).cps).foldl (· ++ ·) #[]⟩ : PySem.Str) = mk (List.replicate n.toNat z).flatten := by rw [fold]; simp [mk]
        rw [e]
        refine ⟨?_, .str _, H, I.tok _, ⟨_, rfl⟩, q⟩
        rw [mk_len]
        simp only [List.length_flatten, List.map_replicate, List.sum_replicate_nat]
        rw [Nat.mul_comm]
        first
          | exact hl
          | (show decide (_ > sizeLine) = false; rw [sizeLine_eq]; simp; omega)
/-- list * int -/
def fMul : FOp := fun x y Q => match x, y with
  | .int i, .int j => (CMulW i j ∨ CMul i j) ∧ Q (.int (i * j))
  | .str s, .int n => 0 ≤ n ∧ n ≤ 16777216 ∧ s.length * n.toNat ≤ 16777216 ∧ Q (.str (List.replicate n.toNat s).flatten)
  | _, _ => False
theorem okS_rep {s : SS} (h : okS s) (n : Nat) : okS (List.replicate n s).flatten := by
  induction n with
  | zero => rfl
  | succ n ih => rw [List.replicate_succ, List.flatten_cons]; exact okS_append h ih
theorem o_mul : OpD X C (binaryOp .Mult) fMul := by
  refine .of (op_mulW.or (op_mul.or op_strmul)) fun B μ G H x y dx dy Q F c hx hy q k => ?_
  cases hx with
  | int i =>
    cases hy with
    | int j =>
      rcases q.1 with q1 | q1
      · exact .inl ⟨i, j, rfl, rfl, q1, k _ _ G H c (Ex.refl G) (.int _) q.2⟩
      · exact .inr (.inl ⟨i, j, rfl, rfl, q1, k _ _ G H c (Ex.refl G) (.int _) q.2⟩)
    | _ => exact q.elim
  | str s h1 h2 =>
    cases hy with
    | int n =>
      obtain ⟨a, b, d, q⟩ := q
      refine .inr (.inr ⟨s, n, rfl, rfl, a, b, d, k _ _ G H c (Ex.refl G) (.str _ ?_ (okS_rep h2 _)) q⟩)
      rw [List.length_flatten, List.map_replicate, List.sum_replicate_nat, Nat.mul_comm]
      exact d
    | _ => exact q.elim
  | _ => exact q.elim
/-! ### comparisons -/
def fLt : FOp := fun x y Q => match x, y with
  | .int i, .int j => Q (.bl (decide (i < j)))
  | .str s, .str t => Q (.bl (decide (s < t)))
  | _, _ => False
def fLe : FOp := fun x y Q => match x, y with
  | .int i, .int j => Q (.bl (decide (i ≤ j)))
  | .str s, .str t => Q (.bl (!decide (t < s)))
  | _, _ => False
def fGt : FOp := fun x y Q => match x, y with
  | .int i, .int j => Q (.bl (decide (j < i)))
  | .str s, .str t => Q (.bl (decide (t < s)))
  | _, _ => False
def fGe : FOp := fun x y Q => match x, y with
  | .int i, .int j => Q (.bl (decide (j ≤ i)))
  | .str s, .str t => Q (.bl (!decide (s < t)))
  | _, _ => False
theorem o_ord {op : CmpOp} {p : Int → Int → Bool} {r : SS → SS → Bool} {f : FOp} (h1 : OpR X (compareOp op) (rI0 fun i j => .bl (p i j)))
    (h2 : OpR X (compareOp op) (fun x y H Q => ∃ i j, x = .str i ∧ y = .str j ∧ Q (.bl (r i.cps.toList j.cps.toList)) H))
    (hf : f = fun x y Q => match x, y with | .int i, .int j => Q (.bl (p i j)) | .str s, .str t => Q (.bl (r s t)) | _, _ => False) : OpD X C (compareOp op) f := by
  subst hf
  refine .of (h1.or h2) fun B μ G H x y dx dy Q F c hx hy q k => ?_
  cases hx with
  | int i =>
    cases hy with
    | int j => exact .inl ⟨i, j, rfl, rfl, k _ _ G H c (Ex.refl G) (.bl _) q⟩
    | _ => exact q.elim
  | str s h1 h2 =>
    cases hy with
    | str t k1 k2 => exact .inr ⟨mk s, mk t, rfl, rfl, by rw [mk_tl, mk_tl]; exact k _ _ G H c (Ex.refl G) (.bl _) q⟩
    | _ => exact q.elim
  | _ => exact q.elim
theorem o_lt : OpD X C (compareOp .Lt) fLt := o_ord (p := fun i j => decide (i < j)) (r := fun s t => decide (s < t)) op_lt op_lt_str rfl
theorem o_le : OpD X C (compareOp .LtE) fLe := o_ord (p := fun i j => decide (i ≤ j)) (r := fun s t => !decide (t < s)) op_le op_le_str rfl
theorem o_gt : OpD X C (compareOp .Gt) fGt := o_ord (p := fun i j => decide (j < i)) (r := fun s t => decide (t < s)) op_gt op_gt_str rfl
theorem o_ge : OpD X C (compareOp .GtE) fGe := o_ord (p := fun i j => decide (j ≤ i)) (r := fun s t => !decide (s < t)) op_ge op_ge_str rfl
/-- == -/
def eqG (x y : D) (Q : Bool → Prop) : Prop := match x, y with
  | .int i, .int j => Q (decide (i = j))
  | .str s, .str t => Q (decide (s = t))
  | .bl a, .bl b => Q (decide (a = b))
  | .non, .non => Q true
  | .non, .int _ | .int _, .non | .non, .str _ | .str _, .non | .int _, .str _ | .str _, .int _ | .bl _, .str _ | .str _, .bl _ => Q false
  | x, y => plain x = true ∧ plain y = true ∧ (pyD x).depth ≤ 64 ∧ (pyD y).depth ≤ 64 ∧ Q (PyData.eqv (pyD x) (pyD y))
def fEq : FOp := fun x y Q => eqG x y fun b => Q (.bl b)
def fNe : FOp := fun x y Q => eqG x y fun b => Q (.bl (!b))
theorem eqG_V {K : PySem.W.Frag} {G : Hp} {x y : V} {dx dy : D} {F : Bool → Prop} (hx : Dp C K G x dx) (hy : Dp C K G y dy) (q : eqG dx dy F) : (scal x y = true ∧ F (decide (x = y))) ∨
    ∃ d e, L2.Dp K G x d ∧ L2.Dp K G y e ∧ SeqAt.shaped d = true ∧ SeqAt.shaped e = true ∧ F (PyData.eqv d e) := by
  have gen : plain dx = true ∧ plain dy = true ∧ (pyD dx).depth ≤ 64 ∧ (pyD dy).depth ≤ 64 ∧ F (PyData.eqv (pyD dx) (pyD dy)) → ∃ d e, L2.Dp K G x d ∧ L2.Dp K G y e ∧ SeqAt.shaped d = true ∧ SeqAt.shaped e = true ∧ F (PyData.eqv d e) := fun ⟨p1, p2, d1, d2, q⟩ => by
    obtain ⟨a1, b1⟩ := hx.py p1
    obtain ⟨a2, b2⟩ := hy.py p2
    exact ⟨_, _, a1, a2, shaped_of b1 d1, shaped_of b2 d2, q⟩
  cases hx with
  | int i => cases hy with
    | int j => exact .inl ⟨rfl, by simpa [eqG] using q⟩
    | non => exact .inl ⟨rfl, by simpa [eqG] using q⟩
    | str _ _ _ => exact .inl ⟨rfl, by simpa [eqG] using q⟩
    | _ => exact .inr (gen q)
  | non => cases hy with
    | int j => exact .inl ⟨rfl, by simpa [eqG] using q⟩
    | non => exact .inl ⟨rfl, by simpa [eqG] using q⟩
    | str _ _ _ => exact .inl ⟨rfl, by simpa [eqG] using q⟩
    | _ => exact .inr (gen q)
  | bl a => cases hy with
    | bl b => exact .inl ⟨rfl, by simpa [eqG] using q⟩
    | str _ _ _ => exact .inl ⟨rfl, by simpa [eqG] using q⟩
    | _ => exact .inr (gen q)
  | str s _ _ => cases hy with
    | str t _ _ =>
      refine .inl ⟨rfl, ?_⟩
      have e : decide (V.str (mk s) = V.str (mk t)) = decide (s = t) := by
        rw [← mk_eq]
        by_cases h : mk s = mk t
        · rw [h]; simp
        · rw [decide_eq_false h, decide_eq_false (fun e => h (V.str.inj e))]
      rw [e]
      exact q
    | int j => exact .inl ⟨rfl, by simpa [eqG] using q⟩
    | non => exact .inl ⟨rfl, by simpa [eqG] using q⟩
    | bl b => exact .inl ⟨rfl, by simpa [eqG] using q⟩
    | _ => exact .inr (gen q)
  | _ => exact .inr (gen (by cases hy <;> exact q))
theorem Ldp_mono {K : PySem.W.Frag} {G H : Hp} (e : Ex G H) : ∀ {d : PyData} {v : V}, L2.Dp K G v d → L2.Dp K H v d := by
  have sq : ∀ {a xs}, SqL K G a xs → SqL K H a xs := fun {a xs} h => by
    rcases h with (h | ⟨o, h⟩) | h
    · exact .inl (.inl (e _ _ h))
    · exact .inl (.inr ⟨o, e _ _ h⟩)
    · exact .inr h
  intro d v h
  refine L2.Dp.rec (motive_1 := fun v d _ => L2.Dp K H v d) (motive_2 := fun vs ds _ => L2.DpAll K H vs ds) .non .bl .int .str (fun h _ ih => .lst (sq h) ih) (fun h _ ih => .tup (e.seqT h) ih) .nil (fun _ _ ih1 ih2 => .cons ih1 ih2) h
theorem o_eq (hu : X.A.units + 64 < cLine) : OpD X C (compareOp .Eq) fEq := by
  refine .of (op_eq.or (op_eqD hu)) fun B μ G H x y dx dy Q F c hx hy q k => ?_
  rcases eqG_V hx hy q with ⟨a, b⟩ | ⟨d, e, h1, h2, s1, s2, b⟩
  · exact .inl ⟨a, k _ _ G H c (Ex.refl G) (.bl _) b⟩
  · exact .inr ⟨d, e, Ldp_mono c.sub h1, Ldp_mono c.sub h2, s1, s2, k _ _ G H c (Ex.refl G) (.bl _) b⟩
theorem o_ne (hu : X.A.units + 64 < cLine) : OpD X C (compareOp .NotEq) fNe := by
  refine .of (op_ne.or (op_neD hu)) fun B μ G H x y dx dy Q F c hx hy q k => ?_
  rcases eqG_V hx hy q with ⟨a, b⟩ | ⟨d, e, h1, h2, s1, s2, b⟩
  · exact .inl ⟨a, k _ _ G H c (Ex.refl G) (.bl _) b⟩
  · exact .inr ⟨d, e, Ldp_mono c.sub h1, Ldp_mono c.sub h2, s1, s2, k _ _ G H c (Ex.refl G) (.bl _) b⟩
/-- is None -/
def isN : D → Bool
  | .non => true | _ => false
def fIs : FOp := fun x y Q => match y with
  | .non => Q (.bl (isN x))
  | _ => False
def fIsNot : FOp := fun x y Q => match y with
  | .non => Q (.bl (!isN x))
  | _ => False
theorem isN_V {K : PySem.W.Frag} {G : Hp} {x : V} {d : D} (h : Dp C K G x d) : decide (x = .non) = isN d := by cases h <;> rfl
theorem o_is : OpD X C (compareOp .Is) fIs := by
  refine .of op_isN fun B μ G H x y dx dy Q F c hx hy q k => ?_
  cases hy with
  | non => exact ⟨rfl, by rw [isN_V hx]; exact k _ _ G H c (Ex.refl G) (.bl _) q⟩
  | _ => exact q.elim
theorem o_isnot : OpD X C (compareOp .IsNot) fIsNot := by
  refine .of op_notN fun B μ G H x y dx dy Q F c hx hy q k => ?_
  cases hy with
  | non => exact ⟨rfl, by rw [isN_V hx]; exact k _ _ G H c (Ex.refl G) (.bl _) q⟩
  | _ => exact q.elim
/-- in: flat items of a list or tuple, deep data of a list, one sign of a text -/
def inG (x y : D) (Q : Bool → Prop) : Prop := match y with
  | .str t => match x with
    | .str [c] => Q (decide (c ∈ t))
    | _ => False
  | .tup ds => flat x = true ∧ ds.all flat = true ∧ Q (inF x ds)
  | .lst ds => (flat x = true ∧ ds.all flat = true ∧ Q (inF x ds)) ∨ (plain x = true ∧ plains ds = true ∧ (pyD x).depth ≤ 64 ∧ (pyD (.lst ds)).depth ≤ 64 ∧ Q ((pyDs ds).any fun z => PyData.eqv z (pyD x)))
  | _ => False
def fIn : FOp := fun x y Q => inG x y fun b => Q (.bl b)
def fNotIn : FOp := fun x y Q => inG x y fun b => Q (.bl (!b))
theorem o_in (hu : X.A.units + 65 < cLine) : OpD X C (compareOp .In) fIn := by
  refine .of (op_in_sign.or (op_in_seq.or (op_inD hu))) fun B μ G H x y dx dy Q F c hx hy q k => ?_
  cases hy with
  | str t k1 k2 =>
    cases hx with
    | str s h1 h2 =>
      match s, h1, h2, q with
      | [e], h1, h2, q => exact .inl ⟨e, mk t, rfl, rfl, by rw [mk_tl]; exact k _ _ G H c (Ex.refl G) (.bl _) q⟩
      | [], _, _, q => exact q.elim
      | _ :: _ :: _, _, _, q => exact q.elim
    | _ => exact q.elim
  | tup h1 h2 =>
    obtain ⟨f1, f2, q⟩ := q
    obtain ⟨e1, g1⟩ := hx.flat f1
    obtain ⟨e2, g2⟩ := h2.flat f2
    subst e1 e2
    refine .inr (.inl ⟨_, _, rfl, .inr (c.sub.seqT h1), g1, g2, ?_⟩)
    rw [inF_V f1 f2]
    exact k _ _ G H c (Ex.refl G) (.bl _) q
  | @lst a xs ds h1 h2 =>
    rcases q with ⟨f1, f2, q⟩ | ⟨p1, p2, d1, d2, q⟩
    · obtain ⟨e1, g1⟩ := hx.flat f1
      obtain ⟨e2, g2⟩ := h2.flat f2
      subst e1 e2
      refine .inr (.inl ⟨_, _, rfl, .inl (.inl (.inl (c.sub _ _ h1))), g1, g2, ?_⟩)
      rw [inF_V f1 f2]
      exact k _ _ G H c (Ex.refl G) (.bl _) q
    · obtain ⟨a1, b1⟩ := hx.py p1
      obtain ⟨a2, b2⟩ := Dp.py (.lst h1 h2) (show plain (.lst ds) = true from p2)
      exact .inr (.inr ⟨_, _, Ldp_mono c.sub a1, Ldp_mono c.sub a2, shaped_of b1 d1, shaped_of b2 d2, k _ _ G H c (Ex.refl G) (.bl _) q⟩)
  | _ => exact q.elim
theorem o_notin (hu : X.A.units + 65 < cLine) : OpD X C (compareOp .NotIn) fNotIn := by
  refine .of (op_notIn_sign.or (op_notIn_seq.or (op_notInD hu))) fun B μ G H x y dx dy Q F c hx hy q k => ?_
  cases hy with
  | str t k1 k2 =>
    cases hx with
    | str s h1 h2 =>
      match s, h1, h2, q with
      | [e], h1, h2, q => exact .inl ⟨e, mk t, rfl, rfl, by rw [mk_tl]; exact k _ _ G H c (Ex.refl G) (.bl _) q⟩
      | [], _, _, q => exact q.elim
      | _ :: _ :: _, _, _, q => exact q.elim
    | _ => exact q.elim
  | tup h1 h2 =>
    obtain ⟨f1, f2, q⟩ := q
    obtain ⟨e1, g1⟩ := hx.flat f1
    obtain ⟨e2, g2⟩ := h2.flat f2
    subst e1 e2
    refine .inr (.inl ⟨_, _, rfl, .inr (c.sub.seqT h1), g1, g2, ?_⟩)
    rw [inF_V f1 f2]
    exact k _ _ G H c (Ex.refl G) (.bl _) q
  | @lst a xs ds h1 h2 =>
    rcases q with ⟨f1, f2, q⟩ | ⟨p1, p2, d1, d2, q⟩
    · obtain ⟨e1, g1⟩ := hx.flat f1
      obtain ⟨e2, g2⟩ := h2.flat f2
      subst e1 e2
      refine .inr (.inl ⟨_, _, rfl, .inl (.inl (.inl (c.sub _ _ h1))), g1, g2, ?_⟩)
      rw [inF_V f1 f2]
      exact k _ _ G H c (Ex.refl G) (.bl _) q
    · obtain ⟨a1, b1⟩ := hx.py p1
      obtain ⟨a2, b2⟩ := Dp.py (.lst h1 h2) (show plain (.lst ds) = true from p2)
      exact .inr (.inr ⟨_, _, Ldp_mono c.sub a1, Ldp_mono c.sub a2, shaped_of b1 d1, shaped_of b2 d2, k _ _ G H c (Ex.refl G) (.bl _) q⟩)
  | _ => exact q.elim
end
end DL

namespace DL
open PySem PySem.Spec PyProof.Rows L2

/-! ### one-place -/
def dUn (f : D → (D → Prop) → Prop) (a : DE) : DE := fun δ μ Q R => a δ μ (fun x μ1 => f x fun z => Q z μ1) R
def fNeg : D → (D → Prop) → Prop := fun x Q => match x with
  | .int i => Q (.int (-i))
  | _ => False
section
variable {X : Cx} {C : DC} {W : WX} {pos : Pos} {a b c e : Expr} {es : List Expr} {da db dc : DE} {f g : FOp} {ta tb : DT} {das : DA}
theorem e_neg (ha : DPE X C W a da) : DPE X C W (.UnaryOp .USub a pos) (dUn fNeg da) := by
  obtain ⟨t, a1, a2⟩ := ha
  refine ⟨_, pe_un un_neg a1, fun B σ δ μ G H Q DQ_ R c s q rr k => a2 B σ δ μ G H _ _ R c s q rr fun x dx μ1 G1 H1 c1 e1 x1 q1 => ?_⟩
  cases x1 with
  | int i => exact ⟨i, rfl, k _ _ μ1 G1 H1 c1 e1 (.int _) q1⟩
  | _ => exact q1.elim

/-! ### tests -/
def dVal (a : DE) : DT := fun δ μ Q R => a δ μ (fun x μ1 => match x with
  | .bl b => Q b μ1
  | _ => False) R
theorem snd_tB {te : TE} (a2 : SndE C X.K W te da) : SndT C X.K W (tB te) (dVal da) := fun B σ δ μ G H Q DQ_ R c s q rr k =>
  a2 B σ δ μ G H _ _ R c s q rr fun x dx μ1 G1 H1 c1 e1 x1 q1 => by
    cases x1 with
    | bl b => exact ⟨b, rfl, k _ μ1 G1 H1 c1 e1 q1⟩
    | _ => exact q1.elim
theorem t_val (ha : DPE X C W a da) (he : ∀ whole, isTrue a X.env whole = (do let v ← whole; standAt a.pos; holding [v] (truthy v)) := by intro _; rfl) : DPT X C W a (dVal da) := by
  obtain ⟨t, a1, a2⟩ := ha
  exact ⟨_, pt_val a1 he, snd_tB a2⟩
theorem t_cmp {op : CmpOp} (ho : OpD X C (compareOp op) f) (ha : DPE X C W a da) (hb : DPE X C W b db) (hm : behindInMarks op b = false := by first | exact nobehind _ (by decide) (by decide) | rfl) : DPT X C W (.Compare a [op] [b] pos) (dVal (dBin f da db)) := by
  obtain ⟨ta, a1, a2⟩ := ha
  obtain ⟨tb, b1, b2⟩ := hb
  obtain ⟨r, r1, r2⟩ := ho
  exact ⟨_, pt_cmpR r1 a1 b1 hm, snd_tB (snd_bin r2 a2 b2)⟩
def dChain (f g : FOp) (a b c : DE) : DE := fun δ μ Q R => a δ μ (fun x μ1 => b δ μ1 (fun y μ2 => f x y fun z => match z with
  | .bl true => c δ μ2 (fun w μ3 => g y w fun v => Q v μ3) R
  | .bl false => Q (.bl false) μ2
  | _ => False) R) R
theorem snd_chain {r r' : R2} {xa xb xc : TE} (h1 : SndOp C X.K r f) (h2 : SndOp C X.K r' g) (ha : SndE C X.K W xa da) (hb : SndE C X.K W xb db) (hc : SndE C X.K W xc dc) : SndE C X.K W (tChain r r' xa xb xc) (dChain f g da db dc) := fun B σ δ μ G H Q DQ_ R c s q rr k =>
  ha B σ δ μ G H _ _ R c s q rr fun x dx μ1 G1 H1 c1 e1 x1 q1 => hb B σ δ μ1 G1 H1 _ _ R c1 (s.mono e1) q1 (rr.mono e1) fun y dy μ2 G2 H2 c2 e2 y2 q2 =>
    h1 B μ2 G2 H2 x y dx dy _ _ c2 (x1.mono e2) y2 q2 fun z dz G3 H3 c3 e3 z3 q3 => by
      cases z3 with
      | bl b =>
        refine ⟨b, rfl, ?_⟩
        cases b with
        | true =>
          rw [if_pos rfl]
          exact hc B σ δ μ2 G3 H3 _ _ R c3 (((s.mono e1).mono e2).mono e3) q3 (((rr.mono e1).mono e2).mono e3) fun w dw μ4 G4 H4 c4 e4 w4 q4 =>
            h2 B μ4 G4 H4 y w dy dw Q _ c4 ((y2.mono e3).mono e4) w4 q4 fun u du G5 H5 c5 e5 u5 q5 => k u du μ4 G5 H5 c5 ((((e1.trans e2).trans e3).trans e4).trans e5) u5 q5
        | false =>
          rw [if_neg Bool.false_ne_true]
          exact k _ _ μ2 G3 H3 c3 ((e1.trans e2).trans e3) (.bl _) q3
      | _ => exact q3.elim
theorem e_chain {op op' : CmpOp} (ho : OpD X C (compareOp op) f) (ho' : OpD X C (compareOp op') g) (ha : DPE X C W a da) (hb : DPE X C W b db) (hc : DPE X C W c dc) (hm : lastMarks [op, op'] [b, c] = false := by with_unfolding_all rfl) :
    DPE X C W (.Compare a [op, op'] [b, c] pos) (dChain f g da db dc) := by
  obtain ⟨_, a1, a2⟩ := ha
  obtain ⟨_, b1, b2⟩ := hb
  obtain ⟨_, c1, c2⟩ := hc
  obtain ⟨r, r1, r2⟩ := ho
  obtain ⟨r', r1', r2'⟩ := ho'
  exact ⟨_, pe_chain r1 r1' a1 b1 c1 hm, snd_chain r2 r2' a2 b2 c2⟩
theorem t_chain {op op' : CmpOp} (ho : OpD X C (compareOp op) f) (ho' : OpD X C (compareOp op') g) (ha : DPE X C W a da) (hb : DPE X C W b db) (hc : DPE X C W c dc) (hm : lastMarks [op, op'] [b, c] = false := by with_unfolding_all rfl) :
    DPT X C W (.Compare a [op, op'] [b, c] pos) (dVal (dChain f g da db dc)) := by
  obtain ⟨_, a1, a2⟩ := ha
  obtain ⟨_, b1, b2⟩ := hb
  obtain ⟨_, c1, c2⟩ := hc
  obtain ⟨r, r1, r2⟩ := ho
  obtain ⟨r', r1', r2'⟩ := ho'
  exact ⟨_, pt_chain r1 r1' a1 b1 c1 hm, snd_tB (snd_chain r2 r2' a2 b2 c2)⟩
def dAnd (t u : DT) : DT := fun δ μ Q R => t δ μ (fun b μ1 => if b = true then u δ μ1 Q R else Q false μ1) R
def dOr (t u : DT) : DT := fun δ μ Q R => t δ μ (fun b μ1 => if b = true then Q true μ1 else u δ μ1 Q R) R
def dNot (t : DT) : DT := fun δ μ Q R => t δ μ (fun b μ1 => Q (!b) μ1) R
theorem w_and1 (ha : DPT X C W a ta) : DPW X C W (.BoolOp .And [a] pos) ta := by
  obtain ⟨_, a1, a2⟩ := ha
  exact ⟨_, pw_and1 a1, a2⟩
theorem w_or1 (ha : DPT X C W a ta) : DPW X C W (.BoolOp .Or [a] pos) ta := by
  obtain ⟨_, a1, a2⟩ := ha
  exact ⟨_, pw_or1 a1, a2⟩
theorem w_and (ha : DPT X C W a ta) (hb : DPW X C W (.BoolOp .And (b :: es) pos) tb) : DPW X C W (.BoolOp .And (a :: b :: es) pos) (dAnd ta tb) := by
  obtain ⟨_, a1, a2⟩ := ha
  obtain ⟨_, b1, b2⟩ := hb
  refine ⟨_, pw_and a1 b1, fun B σ δ μ G H Q DQ_ R c s q rr k => a2 B σ δ μ G H _ _ R c s q rr fun x μ1 G1 H1 c1 e1 q1 => ?_⟩
  cases x with
  | true => exact b2 B σ δ μ1 G1 H1 _ _ R c1 (s.mono e1) q1 (rr.mono e1) fun y μ2 G2 H2 c2 e2 q2 => k y μ2 G2 H2 c2 (e1.trans e2) q2
  | false => exact k _ μ1 G1 H1 c1 e1 q1
theorem w_or (ha : DPT X C W a ta) (hb : DPW X C W (.BoolOp .Or (b :: es) pos) tb) : DPW X C W (.BoolOp .Or (a :: b :: es) pos) (dOr ta tb) := by
  obtain ⟨_, a1, a2⟩ := ha
  obtain ⟨_, b1, b2⟩ := hb
  refine ⟨_, pw_or a1 b1, fun B σ δ μ G H Q DQ_ R c s q rr k => a2 B σ δ μ G H _ _ R c s q rr fun x μ1 G1 H1 c1 e1 q1 => ?_⟩
  cases x with
  | true => exact k _ μ1 G1 H1 c1 e1 q1
  | false => exact b2 B σ δ μ1 G1 H1 _ _ R c1 (s.mono e1) q1 (rr.mono e1) fun y μ2 G2 H2 c2 e2 q2 => k y μ2 G2 H2 c2 (e1.trans e2) q2
theorem DPW.t (h : DPW X C W a ta) : DPT X C W a ta := by
  obtain ⟨_, a1, a2⟩ := h
  exact ⟨_, a1.pt, a2⟩
theorem t_not (ha : DPT X C W a ta) : DPT X C W (.UnaryOp .Not a pos) (dNot ta) := by
  obtain ⟨_, a1, a2⟩ := ha
  exact ⟨_, pt_not a1, fun B σ δ μ G H Q DQ_ R c s q rr k => a2 B σ δ μ G H _ _ R c s q rr fun x μ1 G1 H1 c1 e1 q1 => k _ μ1 G1 H1 c1 e1 q1⟩
/-- and, or, not as values (bools) -/
def dAndV (a b : DE) : DE := fun δ μ Q R => a δ μ (fun x μ1 => match x with
  | .bl true => b δ μ1 Q R
  | .bl false => Q (.bl false) μ1
  | _ => False) R
def dOrV (a b : DE) : DE := fun δ μ Q R => a δ μ (fun x μ1 => match x with
  | .bl false => b δ μ1 Q R
  | .bl true => Q (.bl true) μ1
  | _ => False) R
def fNot : D → (D → Prop) → Prop := fun x Q => match x with
  | .bl b => Q (.bl (!b))
  | _ => False
theorem e_one {op} (ha : DPE X C W a da) : DPE X C W (.BoolOp op [a] pos) da := by
  obtain ⟨_, a1, a2⟩ := ha
  exact ⟨_, pe_one a1, a2⟩
theorem e_and (ha : DPE X C W a da) (hb : DPE X C W (.BoolOp .And (b :: es) pos) db) : DPE X C W (.BoolOp .And (a :: b :: es) pos) (dAndV da db) := by
  obtain ⟨_, a1, a2⟩ := ha
  obtain ⟨_, b1, b2⟩ := hb
  refine ⟨_, pe_and a1 b1, fun B σ δ μ G H Q DQ_ R c s q rr k => a2 B σ δ μ G H _ _ R c s q rr fun x dx μ1 G1 H1 c1 e1 x1 q1 => ?_⟩
  cases x1 with
  | bl z =>
    refine ⟨z, rfl, ?_⟩
    cases z with
    | true => exact b2 B σ δ μ1 G1 H1 _ _ R c1 (s.mono e1) q1 (rr.mono e1) fun y dy μ2 G2 H2 c2 e2 y2 q2 => k y dy μ2 G2 H2 c2 (e1.trans e2) y2 q2
    | false => exact k _ _ μ1 G1 H1 c1 e1 (.bl _) q1
  | _ => exact q1.elim
theorem e_or (ha : DPE X C W a da) (hb : DPE X C W (.BoolOp .Or (b :: es) pos) db) : DPE X C W (.BoolOp .Or (a :: b :: es) pos) (dOrV da db) := by
  obtain ⟨_, a1, a2⟩ := ha
  obtain ⟨_, b1, b2⟩ := hb
  refine ⟨_, pe_or a1 b1, fun B σ δ μ G H Q DQ_ R c s q rr k => a2 B σ δ μ G H _ _ R c s q rr fun x dx μ1 G1 H1 c1 e1 x1 q1 => ?_⟩
  cases x1 with
  | bl z =>
    refine ⟨z, rfl, ?_⟩
    cases z with
    | true => exact k _ _ μ1 G1 H1 c1 e1 (.bl _) q1
    | false => exact b2 B σ δ μ1 G1 H1 _ _ R c1 (s.mono e1) q1 (rr.mono e1) fun y dy μ2 G2 H2 c2 e2 y2 q2 => k y dy μ2 G2 H2 c2 (e1.trans e2) y2 q2
  | _ => exact q1.elim
theorem e_not (ha : DPE X C W a da) : DPE X C W (.UnaryOp .Not a pos) (dUn fNot da) := by
  obtain ⟨_, a1, a2⟩ := ha
  refine ⟨_, pe_not a1, fun B σ δ μ G H Q DQ_ R c s q rr k => a2 B σ δ μ G H _ _ R c s q rr fun x dx μ1 G1 H1 c1 e1 x1 q1 => ?_⟩
  cases x1 with
  | bl z => exact ⟨z, rfl, k _ _ μ1 G1 H1 c1 e1 (.bl _) q1⟩
  | _ => exact q1.elim
def dIf (t : DT) (a b : DE) : DE := fun δ μ Q R => t δ μ (fun z μ1 => if z = true then a δ μ1 Q R else b δ μ1 Q R) R
theorem e_if (hc : DPT X C W c ta) (ha : DPE X C W a da) (hb : DPE X C W b db) : DPE X C W (.IfExp c a b pos) (dIf ta da db) := by
  obtain ⟨_, c1, c2⟩ := hc
  obtain ⟨_, a1, a2⟩ := ha
  obtain ⟨_, b1, b2⟩ := hb
  refine ⟨_, pe_ifExp c1 a1 b1, fun B σ δ μ G H Q DQ_ R c s q rr k => c2 B σ δ μ G H _ _ R c s q rr fun z μ1 G1 H1 c1 e1 q1 => ?_⟩
  cases z with
  | true => exact a2 B σ δ μ1 G1 H1 _ _ R c1 (s.mono e1) q1 (rr.mono e1) fun y dy μ2 G2 H2 c2 e2 y2 q2 => k y dy μ2 G2 H2 c2 (e1.trans e2) y2 q2
  | false => exact b2 B σ δ μ1 G1 H1 _ _ R c1 (s.mono e1) q1 (rr.mono e1) fun y dy μ2 G2 H2 c2 e2 y2 q2 => k y dy μ2 G2 H2 c2 (e1.trans e2) y2 q2

/-! ### argument lists, displays -/
def dNil : DA := fun _ μ Q _ => Q [] μ
def dCons (a : DE) (as : DA) : DA := fun δ μ Q R => a δ μ (fun x μ1 => as δ μ1 (fun xs μ2 => Q (x :: xs) μ2) R) R
theorem a_nil : DPA X C W [] dNil := ⟨_, pa_nil, fun B σ δ μ G H Q DQ_ R c s q rr k => k [] [] μ G H c (Ex.refl G) .nil q⟩
theorem a_cons (ha : DPE X C W e da) (hr : DPA X C W es das) (hs : starEach (e :: es) X.env = (false, eval e X.env) :: starEach es X.env := by rfl) : DPA X C W (e :: es) (dCons da das) := by
  obtain ⟨_, a1, a2⟩ := ha
  obtain ⟨_, b1, b2⟩ := hr
  exact ⟨_, pa_cons a1 b1 hs, fun B σ δ μ G H Q DQ_ R c s q rr k => a2 B σ δ μ G H _ _ R c s q rr fun x dx μ1 G1 H1 c1 e1 x1 q1 =>
    b2 B σ δ μ1 G1 H1 _ _ R c1 (s.mono e1) q1 (rr.mono e1) fun ys dys μ2 G2 H2 c2 e2 y2 q2 => k _ _ μ2 G2 H2 c2 (e1.trans e2) (.cons (x1.mono e2) y2) q2⟩
def dTup (as : DA) : DE := fun δ μ Q R => as δ μ (fun xs μ1 => xs.length ≤ 16777216 ∧ Q (.tup xs) μ1) R
def dLst (as : DA) : DE := fun δ μ Q R => as δ μ (fun xs μ1 => xs.length ≤ 16777216 ∧ Q (.lst xs) μ1) R
theorem e_tup {x1} (h : DPA X C W es das) : DPE X C W (.Tuple es x1 pos) (dTup das) := by
  obtain ⟨_, a1, a2⟩ := h
  refine ⟨_, pe_tup a1, fun B σ δ μ G H Q DQ_ R c s q rr k => a2 B σ δ μ G H _ _ R c s q rr fun xs ds μ1 G1 H1 c1 e1 x1 q1 => ⟨by rw [x1.length, sl16]; exact q1.1, fun p hp => ?_⟩⟩
  have e2 := Ex.new (o := .tup xs) (c1.sub.free hp)
  exact k _ _ μ1 _ _ (c1.data hp) (e1.trans e2) (.tup (.of upd_same) (x1.mono e2)) q1.2
theorem e_lst (h : DPA X C W es das) : DPE X C W (.List es pos) (dLst das) := by
  obtain ⟨_, a1, a2⟩ := h
  refine ⟨_, pe_lst a1, fun B σ δ μ G H Q DQ_ R c s q rr k => a2 B σ δ μ G H _ _ R c s q rr fun xs ds μ1 G1 H1 c1 e1 x1 q1 => ⟨by rw [x1.length, sl16]; exact q1.1, fun p hp => ?_⟩⟩
  have e2 := Ex.new (o := .lst xs) (c1.sub.free hp)
  exact k _ _ μ1 _ _ (c1.data hp) (e1.trans e2) (.lst upd_same (x1.mono e2)) q1.2
/-- a list that is owned: appended to, stored into -/
def dLstO (as : DA) : DE := fun δ μ Q R => as δ μ (fun xs μ1 => xs.length ≤ 16777216 ∧ ∀ p : Addr, Q (.adr p) (μ1 ++ [(p, .lst xs)])) R
theorem e_lstO (h : DPA X C W es das) : DPE X C W (.List es pos) (dLstO das) := by
  obtain ⟨_, a1, a2⟩ := h
  refine ⟨_, pe_lst a1, fun B σ δ μ G H Q DQ_ R c s q rr k => a2 B σ δ μ G H _ _ R c s q rr fun xs ds μ1 G1 H1 c1 e1 x1 q1 => ⟨by rw [x1.length, sl16]; exact q1.1, fun p hp => ?_⟩⟩
  exact k _ _ _ _ _ (c1.owned hp (.lst upd_same x1)) e1 (.adr p) (q1.2 p)

/-! ### subscripts and slices -/
def fIx : FOp := fun x y Q => match x, y with
  | .lst ds, .int i | .tup ds, .int i => ∃ d, atI ds i = some d ∧ Q d
  | .str s, .int i => ∃ c, atI s i = some c ∧ Q (.str [c])
  | _, _ => False
theorem Dps.atI {K : PySem.W.Frag} {G : Hp} {vs : List V} {ds : List D} (h : Dps C K G vs ds) {i : Int} {d : D} (e : L2.atI ds i = some d) : ∃ v, L2.atI vs i = some v ∧ Dp C K G v d := by
  unfold L2.atI at *
  rw [h.length]
  cases q : ixN ds.length i with
  | none => rw [q] at e; cases e
  | some j =>
    rw [q] at e
    exact h.get e
theorem okS_one {s : SS} (h : okS s) {c : Nat} (hc : c ∈ s) : okS [c] := by
  unfold okS at *
  rw [List.all_eq_true] at h
  simpa using h c hc
theorem atI_mem {α : Type} {xs : List α} {i : Int} {v : α} (h : L2.atI xs i = some v) : v ∈ xs := by
  obtain ⟨j, _, e, _⟩ := atI_get h
  exact List.mem_of_getElem? e
theorem snd_ix : SndOp C X.K (rIx X.K) fIx := fun B μ G H x y dx dy Q F c hx hy q k => by
  cases hy with
  | int i =>
    cases hx with
    | lst h1 h2 =>
      obtain ⟨d, e, q⟩ := q
      obtain ⟨v, e1, e2⟩ := h2.atI e
      exact .inl ⟨_, _, i, v, rfl, rfl, .of (c.sub _ _ h1), e1, k _ _ G H c (Ex.refl G) e2 q⟩
    | tup h1 h2 =>
      obtain ⟨d, e, q⟩ := q
      obtain ⟨v, e1, e2⟩ := h2.atI e
      exact .inr (.inl ⟨_, _, i, v, rfl, rfl, c.sub.seqT h1, e1, k _ _ G H c (Ex.refl G) e2 q⟩)
    | str s h1 h2 =>
      obtain ⟨d, e, q⟩ := q
      exact .inr (.inr ⟨mk s, i, d, rfl, rfl, by rw [mk_len, sl16]; exact h1, by rw [mk_tl]; exact e, k _ _ G H c (Ex.refl G) (.str [d] (by simp) (okS_one h2 (atI_mem e))) q⟩)
    | _ => exact q.elim
  | _ => cases hx <;> exact q.elim
theorem e_ix (ha : DPE X C W a da) (hb : DPE X C W b db) (hs : PlainIx b := by intro _ _; rfl) : DPE X C W (.Subscript a b pos) (dBin fIx da db) := by
  obtain ⟨ta, a1, a2⟩ := ha
  obtain ⟨tb, b1, b2⟩ := hb
  exact ⟨_, pe_ix ix_seq a1 b1 hs, snd_bin snd_ix a2 b2⟩
/-- an item of an owned list at μ[j] -/
def dIxO (j : Nat) (a b : DE) : DE := fun δ μ Q R => a δ μ (fun x μ1 => b δ μ1 (fun y μ2 => match x, y, μ2[j]? with
  | .adr p, .int i, some (q, .lst ds) => p = q ∧ ∃ d, atI ds i = some d ∧ Q d μ2
  | _, _, _ => False) R) R
theorem e_ixO (j : Nat) (ha : DPE X C W a da) (hb : DPE X C W b db) (hs : PlainIx b := by intro _ _; rfl) : DPE X C W (.Subscript a b pos) (dIxO j da db) := by
  obtain ⟨ta, a1, a2⟩ := ha
  obtain ⟨tb, b1, b2⟩ := hb
  refine ⟨_, pe_ix ix_list a1 b1 hs, fun B σ δ μ G H Q DQ_ R c s q rr k => a2 B σ δ μ G H _ _ R c s q rr fun x dx μ1 G1 H1 c1 e1 x1 q1 => b2 B σ δ μ1 G1 H1 _ _ R c1 (s.mono e1) q1 (rr.mono e1) fun y dy μ2 G2 H2 c2 e2 y2 q2 => ?_⟩
  split at q2
  · rename_i p i q ds e
    obtain ⟨rfl, d, ea, q2⟩ := q2
    cases x1
    cases y2
    have o := c2.cell _ _ (List.mem_of_getElem? e)
    cases o with
    | lst h1 h2 =>
      obtain ⟨v, v1, v2⟩ := h2.atI ea
      exact ⟨_, _, i, v, rfl, rfl, .of h1, v1, k _ _ μ2 G2 H2 c2 (e1.trans e2) v2 q2⟩
  · exact q2.elim
abbrev DO := Dl → Mem → (Option Int → Mem → Prop) → DR → Prop
def SndO (C : DC) (K : PySem.W.Frag) (W : WX) (to : TO) (d : DO) : Prop := ∀ B σ δ μ G H (Q : Option Int → Hp → Prop) (DQ_ : Option Int → Mem → Prop) (R : DR), Con C K B μ G H → Sl C K G σ δ → d δ μ DQ_ R → Rs C K W B σ G R →
  (∀ o μ' G' H', Con C K B μ' G' H' → Ex G G' → DQ_ o μ' → Q o H') → to σ H Q
def DPO (X : Cx) (C : DC) (W : WX) (o : Option Expr) (d : DO) : Prop := ∃ t, PO X o t ∧ SndO C X.K W t d
def dNoP : DO := fun _ μ Q _ => Q none μ
def dPart (a : DE) : DO := fun δ μ Q R => a δ μ (fun x μ1 => match x with
  | .int i => Q (some i) μ1
  | _ => False) R
theorem o_none : DPO X C W none dNoP := ⟨_, po_none, fun B σ δ μ G H Q DQ_ R c s q rr k => k none μ G H c (Ex.refl G) q⟩
theorem o_some (h : DPE X C W e da) : DPO X C W (some e) (dPart da) := by
  obtain ⟨_, a1, a2⟩ := h
  refine ⟨_, po_some a1, fun B σ δ μ G H Q DQ_ R c s q rr k => a2 B σ δ μ G H _ _ R c s q rr fun x dx μ1 G1 H1 c1 e1 x1 q1 => ?_⟩
  cases x1 with
  | int i => exact ⟨i, rfl, k _ μ1 G1 H1 c1 e1 q1⟩
  | _ => exact q1.elim
/-- xs[lo:hi] -/
def cut {α : Type} (xs : List α) (lo hi : Option Int) : List α := (xs.drop (HT.sIx xs.length 0 lo)).take (HT.sIx xs.length xs.length hi - HT.sIx xs.length 0 lo)
theorem cut_length {α : Type} (xs : List α) (lo hi : Option Int) : (cut xs lo hi).length ≤ xs.length := by
  unfold cut
  rw [List.length_take, List.length_drop]
  omega
theorem cut_mem {α : Type} {xs : List α} {lo hi : Option Int} {x : α} (h : x ∈ cut xs lo hi) : x ∈ xs := List.mem_of_mem_drop (List.mem_of_mem_take h)
theorem Dps.cut {K : PySem.W.Frag} {G : Hp} {vs : List V} {ds : List D} (h : Dps C K G vs ds) (lo hi : Option Int) : Dps C K G (cutV vs lo hi) (DL.cut ds lo hi) := by
  unfold cutV DL.cut
  rw [h.length]
  exact (h.drop _).take _
theorem mk_cut (s : SS) (lo hi : Option Int) : cutS (mk s) lo hi = mk (cut s lo hi) := by
  unfold cutS cut
  rw [mk_len, mk_tl]
  rfl
theorem okS_cut {s : SS} (h : okS s) (lo hi : Option Int) : okS (cut s lo hi) := by
  unfold okS at *
  rw [List.all_eq_true] at *
  exact fun c hc => h c (cut_mem hc)
def dSl (a : DE) (lo hi : DO) : DE := fun δ μ Q R => a δ μ (fun x μ1 => lo δ μ1 (fun l μ2 => hi δ μ2 (fun u μ3 => match x with
  | .lst ds => Q (.lst (cut ds l u)) μ3
  | .tup ds => Q (.tup (cut ds l u)) μ3
  | .str s => Q (.str (cut s l u)) μ3
  | _ => False) R) R) R
theorem e_sl {lo hi : Option Expr} {dl dh : DO} {p2 : Pos} (ha : DPE X C W a da) (hl : DPO X C W lo dl) (hh : DPO X C W hi dh) : DPE X C W (.Subscript a (.Slice lo hi none p2) pos) (dSl da dl dh) := by
  obtain ⟨_, a1, a2⟩ := ha
  obtain ⟨_, l1, l2⟩ := hl
  obtain ⟨_, h1, h2⟩ := hh
  refine ⟨_, pe_slice (sl_list.or (sl_tupA.or sl_str)) a1 l1 h1, fun B σ δ μ G H Q DQ_ R c s q rr k => a2 B σ δ μ G H _ _ R c s q rr fun x dx μ1 G1 H1 c1 e1 x1 q1 => l2 B σ δ μ1 G1 H1 _ _ R c1 (s.mono e1) q1 (rr.mono e1) fun lv μ2 G2 H2 c2 e2 q2 =>
    h2 B σ δ μ2 G2 H2 _ _ R c2 ((s.mono e1).mono e2) q2 ((rr.mono e1).mono e2) fun hv μ3 G3 H3 c3 e3 q3 => ?_⟩
  have ee := (e1.trans e2).trans e3
  have x3 := (x1.mono e2).mono e3
  cases x3 with
  | @lst a xs ds y1 y2 =>
    refine .inl ⟨_, _, rfl, .of (c3.sub _ _ y1), fun p hp => ?_⟩
    have e4 := Ex.new (o := .lst (cutV xs lv hv)) (c3.sub.free hp)
    exact k _ _ μ3 _ _ (c3.data hp) (ee.trans e4) (.lst upd_same ((y2.cut lv hv).mono e4)) q3
  | @tup a xs ds y1 y2 =>
    refine .inr (.inl ⟨_, _, rfl, c3.sub.seqT y1, fun w => ?_, fun w p hp => ?_⟩)
    · refine k _ _ μ3 _ _ c3 ee (.tup (xs := xs) y1 ?_) q3
      have : cutV xs lv hv = xs := by
        unfold cutV
        rw [w.1, w.2]
        simp
      rw [← this]
      exact y2.cut lv hv
    · have e4 := Ex.new (o := .tup (cutV xs lv hv)) (c3.sub.free hp)
      exact k _ _ μ3 _ _ (c3.data hp) (ee.trans e4) (.tup (.of upd_same) ((y2.cut lv hv).mono e4)) q3
  | str z y1 y2 =>
    refine .inr (.inr ⟨mk z, rfl, by rw [mk_len, sl16]; exact y1, ?_⟩)
    rw [mk_cut]
    exact k _ _ μ3 _ _ c3 ee (.str _ (Nat.le_trans (cut_length _ _ _) y1) (okS_cut y2 _ _)) q3
  | _ => exact q3.elim

/-! ### built-ins by name -/
abbrev FC := List D → (D → Prop) → Prop
def dCB (f : FC) (as : DA) : DE := fun δ μ Q R => as δ μ (fun xs μ1 => f xs fun z => Q z μ1) R
def SndC (C : DC) (K : PySem.W.Frag) (r : List V → Hp → VK → Prop) (f : FC) : Prop := ∀ B μ G H xs ds (Q : VK) (F : D → Prop), Con C K B μ G H → Dps C K G xs ds → f ds F →
  (∀ z dz G' H', Con C K B μ G' H' → Ex G G' → Dp C K G' z dz → F dz → Q z H') → r xs H Q
def CaD (X : Cx) (C : DC) (fv : Value) (f : FC) : Prop := ∃ r, CallR X fv r ∧ SndC C X.K r f
theorem snd_cb {r : List V → Hp → VK → Prop} {t : TA} {f : FC} (hr : SndC C X.K r f) (ha : SndA C X.K W t das) : SndE C X.K W (tCB r t) (dCB f das) := fun B σ δ μ G H Q DQ_ R c s q rr k =>
  ha B σ δ μ G H _ _ R c s q rr fun xs ds μ1 G1 H1 c1 e1 x1 q1 => hr B μ1 G1 H1 xs ds Q _ c1 x1 q1 fun z dz G3 H3 c3 e3 z3 q3 => k z dz μ1 G3 H3 c3 (e1.trans e3) z3 q3
theorem e_bi {id : String} {x : PySem.Str} {p : Pos} {f : FC} (hc : CaD X C (.builtin id) f) (hm : X.mg x = none) (hv : bootBuiltins x = some (.builtin id)) (ha : DPA X C W (e :: es) das) (hg : Gl X x := by rfl) (hn : x ≠ "__name__" := by decide) (hdb : (x == ("__debug__" : PySem.Str)) = false := by decide)
    (he : starEach (e :: es) X.env = (false, eval e X.env) :: starEach es X.env := by rfl) (hpl : (backTo pos (starEach es X.env)).any (·.1) = false := by rfl) : DPE X C W (.Call (.Name x p) (e :: es) [] pos) (dCB f das) := by
  obtain ⟨r, r1, r2⟩ := hc
  obtain ⟨t, a1, a2⟩ := ha
  exact ⟨_, pe_callB r1 hg hm hv a1 hn hdb he hpl, snd_cb r2 a2⟩
theorem e_bt {T : String} {x : PySem.Str} {p : Pos} {f : FC} (hc : CaD X C (.type T) f) (hm : X.mg x = none) (hv : bootBuiltins x = some (.type T)) (ha : DPA X C W (e :: es) das) (hg : Gl X x := by rfl) (hn : x ≠ "__name__" := by decide) (hdb : (x == ("__debug__" : PySem.Str)) = false := by decide)
    (he : starEach (e :: es) X.env = (false, eval e X.env) :: starEach es X.env := by rfl) (hpl : (backTo pos (starEach es X.env)).any (·.1) = false := by rfl) : DPE X C W (.Call (.Name x p) (e :: es) [] pos) (dCB f das) := by
  obtain ⟨r, r1, r2⟩ := hc
  obtain ⟨t, a1, a2⟩ := ha
  exact ⟨_, pe_callTy r1 hg hm hv a1 hn hdb he hpl, snd_cb r2 a2⟩
def fLen : FC := fun xs Q => match xs with
  | [.lst ds] | [.tup ds] => Q (.int (ds.length : Nat))
  | [.str s] => Q (.int (s.length : Nat))
  | _ => False
theorem c_len : CaD X C (.builtin "len") fLen := by
  refine ⟨_, call_len, fun B μ G H xs ds Q F c h q k => ?_⟩
  match ds, h, q with
  | [_], .cons hx .nil, q =>
    cases hx with
    | lst h1 h2 => exact ⟨_, _, rfl, .inl ⟨_, .of (c.sub _ _ h1), rfl⟩, k _ _ G H c (Ex.refl G) (by rw [h2.length]; exact .int _) q⟩
    | tup h1 h2 => exact ⟨_, _, rfl, .inr ⟨_, c.sub.seqT h1, rfl⟩, k _ _ G H c (Ex.refl G) (by rw [h2.length]; exact .int _) q⟩
    | str s h1 h2 => exact ⟨_, _, rfl, ⟨by rw [mk_len, sl16]; exact h1, rfl⟩, k _ _ G H c (Ex.refl G) (by rw [mk_len]; exact .int _) q⟩
    | _ => exact q.elim
  | [], _, q => exact q.elim
  | _ :: _ :: _, _, q => exact absurd q (by intro z; unfold fLen at z; split at z <;> first | exact z | simp_all)
def fInt : FC := fun xs Q => match xs with
  | [.int i] => Q (.int i)
  | [.bl b] => Q (.int (if b then 1 else 0))
  | _ => False
theorem c_int : CaD X C (.type "int") fInt := by
  refine ⟨_, call_int1, fun B μ G H xs ds Q F c h q k => ?_⟩
  match ds, h, q with
  | [_], .cons hx .nil, q =>
    cases hx with
    | int i => exact .inl ⟨_, rfl, k _ _ G H c (Ex.refl G) (.int _) q⟩
    | bl b => exact .inr ⟨_, rfl, k _ _ G H c (Ex.refl G) (.int _) q⟩
    | _ => exact q.elim
  | [], _, q => exact q.elim
  | _ :: _ :: _, _, q => exact absurd q (by intro z; unfold fInt at z; split at z <;> first | exact z | simp_all)
def fList : FC := fun xs Q => match xs with
  | [.lst ds] | [.tup ds] | [.fl ds] => Q (.lst ds)
  | _ => False
theorem c_list : CaD X C (.type "list") fList := by
  refine ⟨_, call_list_of, fun B μ G H xs ds Q F c h q k => ?_⟩
  match ds, h, q with
  | [_], .cons hx .nil, q =>
    cases hx with
    | @lst a vs es h1 h2 =>
      refine ⟨_, _, rfl, .inl (.of (c.sub _ _ h1)), fun l hl => ?_⟩
      have e := Ex.new (o := .lst vs) (c.sub.free hl)
      exact k _ _ _ _ (c.data hl) e (.lst upd_same (h2.mono e)) q
    | @tup a vs es h1 h2 =>
      refine ⟨_, _, rfl, .inr (c.sub.seqT h1), fun l hl => ?_⟩
      have e := Ex.new (o := .lst vs) (c.sub.free hl)
      exact k _ _ _ _ (c.data hl) e (.lst upd_same (h2.mono e)) q
    | @fl a vs es h1 h2 =>
      refine ⟨_, _, rfl, .inl (c.sub.seqL h1), fun l hl => ?_⟩
      have e := Ex.new (o := .lst vs) (c.sub.free hl)
      exact k _ _ _ _ (c.data hl) e (.lst upd_same (h2.mono e)) q
    | _ => exact q.elim
  | [], _, q => exact q.elim
  | _ :: _ :: _, _, q => exact absurd q (by intro z; unfold fList at z; split at z <;> first | exact z | simp_all)
def fTuple : FC := fun xs Q => match xs with
  | [.lst ds] | [.tup ds] => Q (.tup ds)
  | _ => False
theorem c_tuple : CaD X C (.type "tuple") fTuple := by
  refine ⟨_, call_tuple_of, fun B μ G H xs ds Q F c h q k => ?_⟩
  match ds, h, q with
  | [_], .cons hx .nil, q =>
    cases hx with
    | @lst a vs es h1 h2 =>
      refine ⟨_, _, rfl, .inl ⟨.of (c.sub _ _ h1), fun l hl => ?_⟩⟩
      have e := Ex.new (o := .tup vs) (c.sub.free hl)
      exact k _ _ _ _ (c.data hl) e (.tup (.of upd_same) (h2.mono e)) q
    | @tup a vs es h1 h2 => exact ⟨_, _, rfl, .inr ⟨c.sub.seqT h1, k _ _ _ _ c (Ex.refl G) (.tup h1 h2) q⟩⟩
    | _ => exact q.elim
  | [], _, q => exact q.elim
  | _ :: _ :: _, _, q => exact absurd q (by intro z; unfold fTuple at z; split at z <;> first | exact z | simp_all)
/-- ints out of data -/
def ints? : List D → Option (List Int)
  | [] => some []
  | .int i :: ds => (ints? ds).map (i :: ·)
  | _ => none
theorem ints_V {K : PySem.W.Frag} {G : Hp} : ∀ {vs : List V} {ds : List D} {ns : List Int}, Dps C K G vs ds → ints? ds = some ns → vs = ns.map V.int
  | _, _, ns, .nil, e => by cases e; rfl
  | _, _, ns, .cons (d := d) (ds := ds) h hs, e => by
    cases h with
    | int i =>
      have e : (ints? ds).map (i :: ·) = some ns := e
      cases q : ints? ds with
      | none => rw [q] at e; cases e
      | some ms =>
        rw [q] at e
        cases e
        rw [ints_V hs q]
        rfl
    | _ => cases e
theorem ints_map (ns : List Int) : ints? (ns.map D.int) = some ns := by
  induction ns with
  | nil => rfl
  | cons n ns ih => show (ints? (ns.map D.int)).map (n :: ·) = _; rw [ih]; rfl
def fSum : FC := fun xs Q => match xs with
  | [.lst ds] => ∃ ns, ints? ds = some ns ∧ Q (.int ns.sum)
  | _ => False
theorem c_sum (hc : X.calm = true) : CaD X C (.builtin "sum") fSum := by
  refine ⟨_, cr_sum hc, fun B μ G H xs ds Q F c h q k => ?_⟩
  match ds, h, q with
  | [_], .cons hx .nil, q =>
    cases hx with
    | @lst a vs es h1 h2 =>
      obtain ⟨ns, e, q⟩ := q
      have e2 := ints_V h2 e
      subst e2
      exact ⟨_, _, rfl, .of (c.sub _ _ h1), k _ _ _ _ c (Ex.refl G) (.int _) q⟩
    | _ => exact q.elim
  | [], _, q => exact q.elim
  | _ :: _ :: _, _, q => exact absurd q (by intro z; unfold fSum at z; split at z <;> first | exact z | simp_all)
end
end DL

namespace DL
open PySem PySem.Spec PyProof.Rows L2

/-! ### one reading for all places -/
def canE (C : DC) (K : PySem.W.Frag) (W : WX) (de : DE) : TE := fun σ H Q => ∃ B δ μ G DQ_ R, Con C K B μ G H ∧ Sl C K G σ δ ∧ de δ μ DQ_ R ∧ Rs C K W B σ G R ∧
  ∀ v d μ' G' H', Con C K B μ' G' H' → Ex G G' → Dp C K G' v d → DQ_ d μ' → Q v H'
theorem can_snd {C : DC} {K : PySem.W.Frag} {W : WX} {de : DE} : SndE C K W (canE C K W de) de := fun B σ δ μ G H Q DQ_ R c s q rr k => ⟨B, δ, μ, G, DQ_, R, c, s, q, rr, k⟩
def canT (C : DC) (K : PySem.W.Frag) (W : WX) (de : DT) : TT := fun σ H Q => ∃ B δ μ G DQ_ R, Con C K B μ G H ∧ Sl C K G σ δ ∧ de δ μ DQ_ R ∧ Rs C K W B σ G R ∧
  ∀ b μ' G' H', Con C K B μ' G' H' → Ex G G' → DQ_ b μ' → Q b H'
theorem can_sndT {C : DC} {K : PySem.W.Frag} {W : WX} {de : DT} : SndT C K W (canT C K W de) de := fun B σ δ μ G H Q DQ_ R c s q rr k => ⟨B, δ, μ, G, DQ_, R, c, s, q, rr, k⟩
theorem DPE.can {X : Cx} {C : DC} {W : WX} {e : Expr} {de : DE} (h : DPE X C W e de) : PE X e (canE C X.K W de) := by
  obtain ⟨t, p, s⟩ := h
  refine ⟨fun pins st σ H Q I hw => p.run pins st σ H Q I ?_⟩
  obtain ⟨B, δ, μ, G, DQ_, R, c, sl, q, rr, k⟩ := hw
  exact s B σ δ μ G H Q DQ_ R c sl q rr k
theorem DPT.can {X : Cx} {C : DC} {W : WX} {e : Expr} {de : DT} (h : DPT X C W e de) : PT X e (canT C X.K W de) := by
  obtain ⟨t, p, s⟩ := h
  refine ⟨fun pins st σ H Q I hw => p.run pins st σ H Q I ?_⟩
  obtain ⟨B, δ, μ, G, DQ_, R, c, sl, q, rr, k⟩ := hw
  exact s B σ δ μ G H Q DQ_ R c sl q rr k

/-! ### targets -/
abbrev DG := D → Dl → Mem → (Dl → Mem → Prop) → Prop
abbrev DGs := List D → Dl → Mem → (Dl → Mem → Prop) → Prop
def SndG (C : DC) (K : PySem.W.Frag) (g : TG) (dg : DG) : Prop := ∀ B σ δ μ G H v d (Q : L2.St → Hp → Prop) (DQ_ : Dl → Mem → Prop), Con C K B μ G H → Sl C K G σ δ → Dp C K G v d → dg d δ μ DQ_ →
  (∀ σ' δ' μ' G' H', Con C K B μ' G' H' → Sl C K G' σ' δ' → Ex G G' → DQ_ δ' μ' → Q σ' H') → g v σ H Q
def SndGs (C : DC) (K : PySem.W.Frag) (g : TGs) (dg : DGs) : Prop := ∀ B σ δ μ G H vs ds (Q : L2.St → Hp → Prop) (DQ_ : Dl → Mem → Prop), Con C K B μ G H → Sl C K G σ δ → Dps C K G vs ds → dg ds δ μ DQ_ →
  (∀ σ' δ' μ' G' H', Con C K B μ' G' H' → Sl C K G' σ' δ' → Ex G G' → DQ_ δ' μ' → Q σ' H') → g vs σ H Q
/-- it changes these slots at most -/
def TgIn (g : TG) (is : List Nat) : Prop := ∀ v σ H Q, g v σ H Q → g v σ H fun σ' H' => wipe σ' is = wipe σ is ∧ Q σ' H'
def TgsIn (g : TGs) (is : List Nat) : Prop := ∀ v σ H Q, g v σ H Q → g v σ H fun σ' H' => wipe σ' is = wipe σ is ∧ Q σ' H'
def DPG (X : Cx) (C : DC) (tg : Expr) (g : TG) (dg : DG) : Prop := PG X tg g ∧ SndG C X.K g dg
def DPGs (X : Cx) (C : DC) (tg : List Expr) (g : TGs) (dg : DGs) : Prop := PGs X tg g ∧ SndGs C X.K g dg
def dgName (i : Nat) : DG := fun d δ μ Q => Q (δ.set i (some d)) μ
def dgTup (n : Nat) (gs : DGs) : DG := fun d δ μ Q => match d with
  | .tup ds => ds.length = n ∧ gs ds δ μ Q
  | _ => False
def dgNil : DGs := fun _ δ μ Q => Q δ μ
def dgCons (g : DG) (gs : DGs) : DGs := fun ds δ μ Q => match ds with
  | d :: r => g d δ μ fun δ1 μ1 => gs r δ1 μ1 Q
  | [] => False
section
variable {X : Cx} {C : DC} {W : WX} {pos : Pos}
theorem g_name (i : Nat) {x : PySem.Str} (hN : X.N.Nodup) (hi : X.N[i]? = some x := by rfl) (hx : Loc X.env.scope x := by first | exact Or.inl rfl | exact Or.inr rfl) (hf : X.fn x = true ∨ X.env.scope.names.lookup x = some .local := by first | exact .inl rfl | exact .inr rfl) : DPG X C (.Name x pos) (gName i) (dgName i) :=
  ⟨pg_name hN hi hx hf, fun B σ δ μ G H v d Q DQ_ c s p q k => k _ _ μ G H c (s.set p i) (Ex.refl G) q⟩
theorem gs_nil : DPGs X C [] gNil (fun ds δ μ Q => ds = [] ∧ Q δ μ) :=
  ⟨pgs_nil, fun B σ δ μ G H vs ds Q DQ_ c s p q k => by
    obtain ⟨rfl, q⟩ := q
    cases p
    exact ⟨rfl, k _ _ μ G H c s (Ex.refl G) q⟩⟩
theorem gs_cons {e : Expr} {es : List Expr} {t : TG} {u : TGs} {dt : DG} {du : DGs} (h1 : DPG X C e t dt) (h2 : DPGs X C es u du)
    (hs : (assignEach (e :: es) X.env).map (·.2) = assign e X.env :: (assignEach es X.env).map (·.2) := by rfl) : DPGs X C (e :: es) (gCons t u) (dgCons dt du) :=
  ⟨pgs_cons h1.1 h2.1 hs, fun B σ δ μ G H vs ds Q DQ_ c s p q k => by
    cases p with
    | nil => exact q.elim
    | @cons v vs d ds p1 p2 =>
      exact ⟨v, vs, rfl, h1.2 B σ δ μ G H v d _ _ c s p1 q fun σ1 δ1 μ1 G1 H1 c1 s1 e1 q1 => h2.2 B σ1 δ1 μ1 G1 H1 vs ds Q DQ_ c1 s1 (p2.mono e1) q1 fun σ2 δ2 μ2 G2 H2 c2 s2 e2 q2 => k σ2 δ2 μ2 G2 H2 c2 s2 (e1.trans e2) q2⟩⟩
theorem g_tup {es : List Expr} {j : Nat} {t : TGs} {dt : DGs} {n : Nat} (hc : X.calm = true) (h : DPGs X C es t dt)
    (hn : (assignEach es X.env).length = n := by rfl) (hst : (assignEach es X.env).findIdx? (·.1) = none := by rfl) : DPG X C (.Tuple es j pos) (gTup X.K n t) (dgTup n dt) :=
  ⟨pg_tup hc h.1 hn hst, fun B σ δ μ G H v d Q DQ_ c s p q k => by
    cases p with
    | tup p1 p2 =>
      obtain ⟨l, q⟩ := q
      exact ⟨_, _, rfl, c.sub.seqT p1, by rw [p2.length]; exact l, h.2 B σ δ μ G H _ _ Q DQ_ c s p2 q k⟩
    | _ => exact q.elim⟩
theorem wipe_set {σ : L2.St} {i : Nat} {v : Option V} : ∀ {is : List Nat}, i ∈ is → wipe (σ.set i v) is = wipe σ is
  | [], h => by cases h
  | j :: is, h => by
    unfold wipe
    by_cases e : i ∈ is
    · rw [wipe_set e]
    · have : i = j := by
        rcases List.mem_cons.mp h with h | h
        · exact h
        · exact absurd h e
      subst this
      have : ∀ is, wipe (σ.set i v) is = (wipe σ is).set i (if i ∈ is then none else v) := by
        intro is
        induction is with
        | nil => simp [wipe]
        | cons k is ih =>
          unfold wipe
          rw [ih]
          by_cases h2 : i = k
          · subst h2; simp
          · rw [List.set_comm _ _ h2]
            simp [h2]
      rw [this]
      simp
theorem in_name {i : Nat} {is : List Nat} (h : i ∈ is) : TgIn (gName i) is := fun v σ H Q q => ⟨wipe_set h, q⟩
theorem in_nil {is : List Nat} : TgsIn gNil is := fun v σ H Q q => ⟨q.1, rfl, q.2⟩
def MonoG (g : TG) : Prop := ∀ v σ H (Q R : L2.St → Hp → Prop), (∀ σ H, Q σ H → R σ H) → g v σ H Q → g v σ H R
def MonoGs (g : TGs) : Prop := ∀ v σ H (Q R : L2.St → Hp → Prop), (∀ σ H, Q σ H → R σ H) → g v σ H Q → g v σ H R
theorem mg_name {i : Nat} : MonoG (gName i) := fun v σ H Q R f q => f _ _ q
theorem mg_nil : MonoGs gNil := fun v σ H Q R f q => ⟨q.1, f _ _ q.2⟩
theorem mg_cons {t : TG} {u : TGs} (a : MonoG t) (b : MonoGs u) : MonoGs (gCons t u) := fun v σ H Q R f q => by
  obtain ⟨x, r, e, q⟩ := q
  exact ⟨x, r, e, a _ _ _ _ _ (fun _ _ q => b _ _ _ _ _ f q) q⟩
theorem mg_tup {n : Nat} {u : TGs} {K : PySem.W.Frag} (b : MonoGs u) : MonoG (gTup K n u) := fun v σ H Q R f q => by
  obtain ⟨x, r, e, q1, q2, q⟩ := q
  exact ⟨x, r, e, q1, q2, b _ _ _ _ _ f q⟩
theorem in_cons {t : TG} {u : TGs} {is : List Nat} (m : MonoG t) (m2 : MonoGs u) (a : TgIn t is) (b : TgsIn u is) : TgsIn (gCons t u) is := fun v σ H Q q => by
  obtain ⟨x, r, e, q⟩ := q
  refine ⟨x, r, e, m _ _ _ _ _ (fun σ1 H1 ⟨e1, q1⟩ => ?_) (a _ _ _ _ q)⟩
  exact m2 _ _ _ _ _ (fun σ2 H2 ⟨e2, q2⟩ => ⟨e2.trans e1, q2⟩) (b _ _ _ _ q1)
theorem in_tup {n : Nat} {u : TGs} {K : PySem.W.Frag} {is : List Nat} (b : TgsIn u is) : TgIn (gTup K n u) is := fun v σ H Q q => by
  obtain ⟨x, r, e, q1, q2, q⟩ := q
  exact ⟨x, r, e, q1, q2, b _ _ _ _ q⟩
/-- o[i] = v, o an owned list at μ[j] -/
def dNR : DR := fun _ _ _ => False
theorem Rs.never {K : PySem.W.Frag} {W : WX} {B : Bs} {σ : L2.St} {G : Hp} : Rs C K W B σ G dNR := fun _ _ _ _ _ _ _ _ _ _ _ h => h.elim
def dgSub (j : Nat) (o i : DE) : DG := fun d δ μ Q => o δ μ (fun x μ1 => i δ μ1 (fun y μ2 => match x, y, μ2[j]? with
  | .adr p, .int k, some (q, .lst ds) => p = q ∧ ∃ m, ixN ds.length k = some m ∧ Q δ (μ2.set j (p, .lst (ds.set m d)))
  | _, _, _ => False) dNR) dNR
theorem g_sub (j : Nat) {o i : Expr} {W : WX} {d1 d2 : DE} (ho : DPE X C W o d1) (hi : DPE X C W i d2)
    (ha : ∀ v, assign (.Subscript o i pos) X.env v = (do
      let ov ← holding [v] (eval o X.env)
      let iv ← holding [v, ov] (eval i X.env)
      standAt pos
      holding [v, ov, iv] (setItem ov iv v)
      release [v, ov, iv] []) := by intro _; rfl) : DPG X C (.Subscript o i pos) (gSub (canE C X.K W d1) (canE C X.K W d2) rSetL) (dgSub j d1 d2) :=
  ⟨pg_sub ho.can hi.can set_list ha, fun B σ δ μ G H v d Q DQ_ c s p q k => by
    refine can_snd B σ δ μ G H _ _ _ c s q Rs.never fun x dx μ1 G1 H1 c1 e1 x1 q1 => can_snd B σ δ μ1 G1 H1 _ _ _ c1 (s.mono e1) q1 Rs.never fun y dy μ2 G2 H2 c2 e2 y2 q2 => ?_
    split at q2
    · rename_i p' k' q' ds e
      obtain ⟨rfl, m, hm, q2⟩ := q2
      cases x1
      cases y2
      have o := c2.cell _ _ (List.mem_of_getElem? e)
      cases o with
      | @lst xs _ h1 h2 =>
        refine ⟨_, xs, k', m, rfl, rfl, h1, by rw [h2.length]; exact hm, ?_⟩
        exact k σ δ _ G2 _ (c2.write e (.lst upd_same (h2.set ((p.mono e1).mono e2) m))) ((s.mono e1).mono e2) (e1.trans e2) q2
    · exact q2.elim⟩
end

/-! ### statements -/
def dNext : DS := fun E δ μ => E.nx δ μ
def dSeq (t u : DS) : DS := fun E δ μ => t { E with nx := u E } δ μ
def dRet (de : DE) : DS := fun E δ μ => de δ μ E.rt (E.ra δ)
def dRetN : DS := fun E _ μ => E.rt .non μ
def dDrop (de : DE) : DS := fun E δ μ => de δ μ (fun _ μ1 => E.nx δ μ1) (E.ra δ)
def dBreak : DS := fun E δ μ => E.bk δ μ
def dCont : DS := fun E δ μ => E.ct δ μ
def dAsg (de : DE) (g : DG) : DS := fun E δ μ => de δ μ (fun x μ1 => g x δ μ1 E.nx) (E.ra δ)
def dIfS (t : DT) (a b : DS) : DS := fun E δ μ => t δ μ (fun c μ1 => if c = true then a E δ μ1 else b E δ μ1) (E.ra δ)
section
variable {X : Cx} {C : DC} {W : WX} {pos : Pos} {st : Stmt} {rest : List Stmt} {e : Expr} {de : DE} {t u : DS}
theorem ss_nil : DPSs X C W [] dNext := ⟨_, pss_nil, fun B σ δ μ G H T E c s q k1 k2 k3 k4 k5 => k1 σ δ μ G H c s q⟩
theorem snd_seq {K : PySem.W.Frag} {ta tb : TS} (a2 : SndS C K W ta t) (b2 : SndS C K W tb u) : SndS C K W (tSeq ta tb) (dSeq t u) := fun B σ δ μ G H T E c s q k1 k2 k3 k4 k5 =>
  a2 B σ δ μ G H { T with nx := tb T } { E with nx := u E } c s q (fun σ' δ' μ' G' H' c' s' q' => b2 B σ' δ' μ' G' H' T E c' s' q' k1 k2 k3 k4 k5) k2 k3 k4 k5
theorem ss_cons (h1 : DPS X C W st t) (h2 : DPSs X C W rest u) : DPSs X C W (st :: rest) (dSeq t u) := by
  obtain ⟨_, a1, a2⟩ := h1
  obtain ⟨_, b1, b2⟩ := h2
  exact ⟨_, pss_cons a1 b1, snd_seq a2 b2⟩
theorem ss_one (h1 : DPS X C W st t) : DPSs X C W [st] t := by
  obtain ⟨_, a1, a2⟩ := h1
  exact ⟨_, pss_one a1, a2⟩
theorem s_pass : DPS X C W (.Pass pos) dNext := ⟨_, ps_pass, fun B σ δ μ G H T E c s q k1 k2 k3 k4 k5 => k1 σ δ μ G H c s q⟩
theorem s_break : DPS X C W (.Break pos) dBreak := ⟨_, ps_break, fun B σ δ μ G H T E c s q k1 k2 k3 k4 k5 => k3 σ δ μ G H c s q⟩
theorem s_cont : DPS X C W (.Continue pos) dCont := ⟨_, ps_continue, fun B σ δ μ G H T E c s q k1 k2 k3 k4 k5 => k4 σ δ μ G H c s q⟩
theorem wish_of {B : Bs} {σ : L2.St} {δ : Dl} {G : Hp} {K : PySem.W.Frag} {E : DEnds} (s : Sl C K G σ δ)
    (k5 : ∀ σ' δ' c d μ' G' H' v dx, Con C K B μ' G' H' → Sl C K G' σ' δ' → G' dx = some (.xd [(C.fld 0, v)]) → Dp C K G' v d → E.ra δ' c d μ' → W (.ref (C.cls c)) (some dx) σ' H') : Rs C K W B σ G (E.ra δ) :=
  fun c d μ' G' H' v dx cc ee e1 e2 q => k5 σ δ c d μ' G' H' v dx cc (s.mono ee) e1 e2 q
theorem s_ret (h : DPE X C W e de) : DPS X C W (.Return (some e) pos) (dRet de) := by
  obtain ⟨_, a1, a2⟩ := h
  exact ⟨_, ps_ret a1, fun B σ δ μ G H T E c s q k1 k2 k3 k4 k5 => a2 B σ δ μ G H _ _ _ c s q (wish_of s k5) fun v d μ' G' H' c' e' p' q' => k2 v d μ' G' H' c' p' q'⟩
theorem s_retN : DPS X C W (.Return none pos) dRetN := ⟨_, ps_retN, fun B σ δ μ G H T E c s q k1 k2 k3 k4 k5 => k2 _ _ μ G H c .non q⟩
theorem s_expr (h : DPE X C W e de) (hs : swapsWith e none pos.line X.env = pure false := by rfl) : DPS X C W (.Expr e pos) (dDrop de) := by
  obtain ⟨_, a1, a2⟩ := h
  exact ⟨_, ps_expr a1 hs, fun B σ δ μ G H T E c s q k1 k2 k3 k4 k5 => a2 B σ δ μ G H _ _ _ c s q (wish_of s k5) fun v d μ' G' H' c' e' p' q' => k1 σ δ μ' G' H' c' (s.mono e') q'⟩
theorem s_doc {x : PySem.Str} {j p'} : DPS X C W (.Expr (.Constant (.str x) j pos) p') dNext := ⟨_, ps_doc, fun B σ δ μ G H T E c s q k1 k2 k3 k4 k5 => k1 σ δ μ G H c s q⟩
theorem s_if {tt : DT} {a b : List Stmt} (hc : DPT X C W e tt) (ha : DPSs X C W a t) (hb : DPSs X C W b u) : DPS X C W (.If e a b pos) (dIfS tt t u) := by
  obtain ⟨_, c1, c2⟩ := hc
  obtain ⟨_, a1, a2⟩ := ha
  obtain ⟨_, b1, b2⟩ := hb
  refine ⟨_, ps_if c1 a1 b1, fun B σ δ μ G H T E c s q k1 k2 k3 k4 k5 => c2 B σ δ μ G H _ _ _ c s q (wish_of s k5) fun x μ' G' H' c' e' q' => ?_⟩
  cases x with
  | true => exact a2 B σ δ μ' G' H' T E c' (s.mono e') q' k1 k2 k3 k4 k5
  | false => exact b2 B σ δ μ' G' H' T E c' (s.mono e') q' k1 k2 k3 k4 k5
theorem snd_asg {te : TE} {g : TG} {dg : DG} {K : PySem.W.Frag} (a2 : SndE C K W te de) (g2 : SndG C K g dg) : SndS C K W (tAsg te g) (dAsg de dg) :=
  fun B σ δ μ G H T E c s q k1 k2 k3 k4 k5 => a2 B σ δ μ G H _ _ _ c s q (wish_of s k5) fun v d μ' G' H' c' e' p' q' =>
    g2 B σ δ μ' G' H' v d _ _ c' (s.mono e') p' q' fun σ2 δ2 μ2 G2 H2 c2 s2 e2 q2 => k1 σ2 δ2 μ2 G2 H2 c2 s2 q2
theorem s_set (i : Nat) {x : PySem.Str} {p' : Pos} (hN : X.N.Nodup) (h : DPE X C W e de) (hi : X.N[i]? = some x := by rfl) (hx : Loc X.env.scope x := by first | exact Or.inl rfl | exact Or.inr rfl)
    (hs : swapsWith e (some (.Name x p')) pos.line X.env = pure false := by rfl) (hf : X.fn x = true ∨ X.env.scope.names.lookup x = some .local := by first | exact .inl rfl | exact .inr rfl) : DPS X C W (.Assign [.Name x p'] e pos) (dAsg de (dgName i)) := by
  obtain ⟨_, a1, a2⟩ := h
  exact ⟨_, ps_set hN hi hx a1 hs hf, snd_asg a2 (g_name (pos := p') i hN hi hx hf).2⟩
theorem s_asg {tg : Expr} {g : TG} {dg : DG} (h : DPE X C W e de) (hg : DPG X C tg g dg) (hs : swapsWithSole [tg] e pos.line X.env = pure false := by rfl) (hw : swappedStores [tg] e X.env = pure none := by rfl)
    (h1 : (assignEach [tg] X.env).map (·.2) = [assign tg X.env] := by rfl) : DPS X C W (.Assign [tg] e pos) (dAsg de dg) := by
  obtain ⟨_, a1, a2⟩ := h
  exact ⟨_, ps_asg a1 hg.1 hs hw h1, snd_asg a2 hg.2⟩
end

/-! ### what is walked -/
def ItOk (C : DC) (K : PySem.W.Frag) (J : It) (its : List D) (G0 : Hp) : Prop := (∀ H, Ex G0 H → J.stop its.length H) ∧ ∀ i d, its[i]? = some d → ∀ H, Ex G0 H → J.go i H ∧ ∀ x H', J.yld i H x H' →
  (H' = H ∧ Dp C K G0 x d) ∨ (∃ p o, H p = none ∧ H' = upd H p o ∧ ∀ G, Ex G0 G → G p = none → Dp C K (upd G p o) x d)
theorem ItOk.yield {C : DC} {K : PySem.W.Frag} {J : It} {its : List D} {G0 : Hp} (ok : ItOk C K J its G0) {B : Bs} {μ : Mem} {G H : Hp} (c : Con C K B μ G H) (e0 : Ex G0 G) {i : Nat} {d : D} (hd : its[i]? = some d) {x : V} {H' : Hp} (y : J.yld i H x H') :
    ∃ G', Con C K B μ G' H' ∧ Ex G G' ∧ Dp C K G' x d := by
  rcases (ok.2 i d hd H (e0.trans c.sub)).2 x H' y with ⟨rfl, p⟩ | ⟨p, o, hp, rfl, k⟩
  · exact ⟨G, c, Ex.refl G, p.mono e0⟩
  · exact ⟨_, c.data hp, Ex.new (c.sub.free hp), k G e0 (c.sub.free hp)⟩
abbrev DI := Dl → Mem → (List D → Mem → Prop) → DR → Prop
def SndI (C : DC) (K : PySem.W.Frag) (W : WX) (wi : TI) (di : DI) : Prop := ∀ B σ δ μ G H (R : It → Hp → Prop) (DQ_ : List D → Mem → Prop) (RR : DR), Con C K B μ G H → Sl C K G σ δ → di δ μ DQ_ RR → Rs C K W B σ G RR →
  (∀ J its μ' G' H', Con C K B μ' G' H' → Ex G G' → ItOk C K J its G' → DQ_ its μ' → R J H') → wi σ H R
def DPI (X : Cx) (C : DC) (W : WX) (tg iter : Expr) (di : DI) : Prop := ∃ wi, PI X tg iter wi ∧ SndI C X.K W wi di
def fItems : D → (List D → Prop) → Prop := fun d Q => match d with
  | .lst ds | .tup ds => Q ds
  | .str s => Q (s.map fun c => .str [c])
  | _ => False
def dAny (a : DE) : DI := fun δ μ Q R => a δ μ (fun d μ1 => fItems d fun its => Q its μ1) R
section
variable {X : Cx} {C : DC} {W : WX} {tg e : Expr} {de : DE} {K : PySem.W.Frag}
theorem ok_list {a : Addr} {xs : List V} {ds : List D} {G : Hp} (h : G a = some (.lst xs)) (p : Dps C K G xs ds) : ItOk C K (Itl K a) ds G := by
  refine ⟨fun H e => ⟨xs, .of (e _ _ h), by rw [p.length]; exact Nat.le_refl _⟩, fun i d hd H e => ?_⟩
  obtain ⟨v, hv, q⟩ := p.get hd
  exact ⟨⟨xs, v, .of (e _ _ h), hv⟩, fun x H' y => .inl ⟨y.1, by have := y.2 xs (.of (e _ _ h)); rw [hv] at this; cases this; exact q⟩⟩
theorem ok_tup {a : Addr} {xs : List V} {ds : List D} {G : Hp} (h : SqT K G a xs) (p : Dps C K G xs ds) : ItOk C K (Itt K a) ds G := by
  refine ⟨fun H e => ⟨xs, e.seqT h, by rw [p.length]; exact Nat.le_refl _⟩, fun i d hd H e => ?_⟩
  obtain ⟨v, hv, q⟩ := p.get hd
  exact ⟨⟨xs, v, e.seqT h, hv⟩, fun x H' y => .inl ⟨y.1, by have := y.2 xs (e.seqT h); rw [hv] at this; cases this; exact q⟩⟩
theorem ok_str {s : SS} {G : Hp} (h2 : okS s) : ItOk C K (Its (mk s)) (s.map fun c => .str [c]) G := by
  have hs : (mk s).cps.size = s.length := by simp [mk]
  refine ⟨fun H e => by show (mk s).cps.size ≤ _; rw [hs, List.length_map]; exact Nat.le_refl _, fun i d hd H e => ?_⟩
  rw [List.getElem?_map] at hd
  cases q : s[i]? with
  | none => rw [q] at hd; cases hd
  | some c =>
    rw [q] at hd
    cases hd
    have hm := List.mem_of_getElem? q
    refine ⟨by show i < (mk s).cps.size; rw [hs]; exact (List.getElem?_eq_some_iff.mp q).1, fun x H' y => .inl ⟨y.1, ?_⟩⟩
    obtain ⟨_, c', hc, rfl⟩ := y
    have : (mk s).cps[i]? = some c := by simp [mk, q]
    rw [this] at hc
    cases hc
    exact .str [c] (by simp) (okS_one h2 hm)
def iAnyT (K : PySem.W.Frag) (te : TE) : TI := fun σ H R => te σ H fun x H1 => (∃ a, x = .ref a ∧ (∃ xs, SqL K H1 a xs) ∧ R (Itl K a) H1) ∨ (∃ a, x = .ref a ∧ (∃ xs, SqT K H1 a xs) ∧ R (Itt K a) H1) ∨ ∃ z, x = .str z ∧ R (Its z) H1
theorem pi_any {te : TE} (he : PE X e te) : PI X tg e (iAnyT X.K te) := by
  refine ⟨fun pins s σ H R I h => ?_⟩
  refine thn (he.run pins s σ H _ I h) fun v s1 ⟨x, H1, I1, r1, q1⟩ => ?_
  rcases q1 with ⟨a, e, ⟨xs, hq⟩, q⟩ | ⟨a, e, ⟨xs, hq⟩, q⟩ | ⟨z, e, q⟩
  · subst e
    cases r1
    obtain ⟨its, rv, p, hz⟩ := I1.list hq
    exact wpAny_pyIter_list p.isList (pi_one (tk := s1.toks) I1 _ (turn_list a _) ⟨_, Heap.get?_push_size _ rfl, rfl, rfl⟩ q)
  · subst e
    cases r1
    obtain ⟨its, rv, p, hz⟩ := I1.tuple hq
    exact wpAny_pyIter_tuple (show s1.heap.IsTuple a its.toArray from p) (pi_one (tk := s1.toks) I1 _ (turn_tuple a _) ⟨_, Heap.get?_push_size _ rfl, rfl, rfl⟩ q)
  · subst e
    obtain ⟨t, rfl⟩ := r1
    cases ha : z.cps.all (· < 128)
    · exact wpAny_pyIter_wide ha (pi_one (tk := s1.toks) I1 _ (turn_str _ z t "str_iterator" (.inr rfl)) ⟨_, Heap.get?_push_size _ rfl, rfl, rfl⟩ q)
    · exact wpAny_pyIter_ascii ha (pi_one (tk := s1.toks) I1 _ (turn_str _ z t "str_ascii_iterator" (.inl rfl)) ⟨_, Heap.get?_push_size _ rfl, rfl, rfl⟩ q)
theorem i_any (h : DPE X C W e de) : DPI X C W tg e (dAny de) := by
  obtain ⟨_, a1, a2⟩ := h
  refine ⟨_, pi_any a1, fun B σ δ μ G H R DQ_ RR c s q rr k => a2 B σ δ μ G H _ _ _ c s q rr fun v d μ' G' H' c' e' p' q' => ?_⟩
  cases p' with
  | lst h1 h2 => exact .inl ⟨_, rfl, ⟨_, .of (c'.sub _ _ h1)⟩, k _ _ μ' G' H' c' e' (ok_list h1 h2) q'⟩
  | tup h1 h2 => exact .inr (.inl ⟨_, rfl, ⟨_, c'.sub.seqT h1⟩, k _ _ μ' G' H' c' e' (ok_tup h1 h2) q'⟩)
  | str z h1 h2 => exact .inr (.inr ⟨_, rfl, k _ _ μ' G' H' c' e' (ok_str h2) q'⟩)
  | _ => exact q'.elim
def rng (lo : Int) (n : Nat) : List D := (List.range n).map fun i => .int (lo + (i : Nat))
theorem rng_get {lo : Int} {n i : Nat} {d : D} (h : (rng lo n)[i]? = some d) : i < n ∧ d = .int (lo + (i : Nat)) := by
  unfold rng at h
  rw [List.getElem?_map] at h
  cases q : (List.range n)[i]? with
  | none => rw [q] at h; cases h
  | some j =>
    rw [q] at h
    obtain ⟨h1, h2⟩ := List.getElem?_eq_some_iff.mp q
    rw [List.length_range] at h1
    rw [List.getElem_range] at h2
    subst h2
    cases h
    exact ⟨h1, rfl⟩
theorem rng_length {lo : Int} {n : Nat} : (rng lo n).length = n := by simp [rng]
theorem ok_rng {lo : Int} {n : Nat} {G : Hp} : ItOk C K (Itr lo n) (rng lo n) G := by
  refine ⟨fun H e => by show n ≤ _; rw [rng_length]; exact Nat.le_refl _, fun i d hd H e => ?_⟩
  obtain ⟨h1, rfl⟩ := rng_get hd
  exact ⟨h1, fun x H' y => .inl ⟨y.1, by rw [y.2]; exact .int _⟩⟩
abbrev FI := List D → (List D → Prop) → Prop
def fRng1 : FI := fun xs Q => match xs with
  | [.int j] => -(2 ^ 62) ≤ j ∧ j < 2 ^ 62 ∧ Q (rng 0 j.toNat)
  | _ => False
def fRng2 : FI := fun xs Q => match xs with
  | [.int i, .int j] => -(2 ^ 62) ≤ i ∧ i < 2 ^ 62 ∧ -(2 ^ 62) ≤ j ∧ j < 2 ^ 62 ∧ Q (rng i (j - i).toNat)
  | _ => False
def dItA (f : FI) (as : DA) : DI := fun δ μ Q R => as δ μ (fun xs μ1 => f xs fun its => Q its μ1) R
variable {p pos tpos : Pos} {das : DA}
theorem i_rng1 (hm : X.mg "range" = none) (h : DPA X C W [e] das) (hg : Gl X "range" := by rfl) (hs : starEach [e] X.env = [(false, eval e X.env)] := by rfl) : DPI X C W tg (.Call (.Name "range" p) [e] [] pos) (dItA fRng1 das) := by
  obtain ⟨t, a1, a2⟩ := h
  refine ⟨_, pi_range1 hg hm a1 hs, fun B σ δ μ G H R DQ_ RR c s q rr k => a2 B σ δ μ G H _ _ RR c s q rr fun vs ds μ' G' H' c' e' p' q' => ?_⟩
  unfold fRng1 at q'
  split at q'
  · cases p' with
    | cons p1 p2 =>
      cases p2
      cases p1
      exact ⟨_, rfl, q'.1, q'.2.1, k _ _ μ' G' H' c' e' ok_rng q'.2.2⟩
  · exact q'.elim
theorem i_rng2 {e2 : Expr} (hm : X.mg "range" = none) (h : DPA X C W [e, e2] das) (hg : Gl X "range" := by rfl) (hs : starEach [e, e2] X.env = [(false, eval e X.env), (false, eval e2 X.env)] := by rfl) (hs2 : starEach [e2] X.env = [(false, eval e2 X.env)] := by rfl) :
    DPI X C W tg (.Call (.Name "range" p) [e, e2] [] pos) (dItA fRng2 das) := by
  obtain ⟨t, a1, a2⟩ := h
  refine ⟨_, pi_range2 hg hm a1 hs hs2, fun B σ δ μ G H R DQ_ RR c s q rr k => a2 B σ δ μ G H _ _ RR c s q rr fun vs ds μ' G' H' c' e' p' q' => ?_⟩
  unfold fRng2 at q'
  split at q'
  · cases p' with
    | cons p1 p2 =>
      cases p2 with
      | cons p2 p3 =>
        cases p3
        cases p1
        cases p2
        exact ⟨_, _, rfl, ⟨q'.1, q'.2.1, q'.2.2.1, q'.2.2.2.1⟩, k _ _ μ' G' H' c' e' ok_rng q'.2.2.2.2⟩
  · exact q'.elim
/-- pairs of place and item -/
def enm : Nat → List D → List D
  | _, [] => []
  | n, d :: ds => .tup [.int (n : Nat), d] :: enm (n + 1) ds
theorem enm_length (n : Nat) (ds : List D) : (enm n ds).length = ds.length := by
  induction ds generalizing n with
  | nil => rfl
  | cons d ds ih => simp [enm, ih]
theorem enm_get {n i : Nat} {ds : List D} {d : D} (h : (enm n ds)[i]? = some d) : ∃ x, ds[i]? = some x ∧ d = .tup [.int ((n + i : Nat) : Int), x] := by
  induction ds generalizing n i with
  | nil => simp [enm] at h
  | cons y ds ih =>
    cases i with
    | zero => simp [enm] at h; exact ⟨y, rfl, by rw [← h]; rfl⟩
    | succ i =>
      simp only [enm, List.getElem?_cons_succ] at h
      obtain ⟨x, h1, h2⟩ := ih h
      exact ⟨x, by simpa using h1, by rw [h2, show n + 1 + i = n + (i + 1) by omega]⟩
theorem pair_dp {K : PySem.W.Frag} {G0 G : Hp} {T : Addr} {x y : V} {dx dy : D} (e : Ex G0 G) (n : G T = none) (hx : Dp C K G0 x dx) (hy : Dp C K G0 y dy) : Dp C K (upd G T (.tup [x, y])) (.ref T) (.tup [dx, dy]) :=
  .tup (.of upd_same) (.cons ((hx.mono e).mono (Ex.new n)) (.cons ((hy.mono e).mono (Ex.new n)) .nil))
theorem ok_enum {a : Addr} {xs : List V} {ds : List D} {G : Hp} (h : G a = some (.lst xs)) (p : Dps C K G xs ds) : ItOk C K (Ite K a) (enm 0 ds) G := by
  refine ⟨fun H e => ⟨xs, .of (e _ _ h), by rw [p.length, enm_length]; exact Nat.le_refl _⟩, fun i d hd H e => ?_⟩
  obtain ⟨x, hx, rfl⟩ := enm_get hd
  obtain ⟨v, hv, q⟩ := p.get hx
  refine ⟨⟨xs, v, .of (e _ _ h), hv⟩, fun w H' y => ?_⟩
  obtain ⟨T, u, rfl, hT, rfl, hu⟩ := y
  have := hu xs (.of (e _ _ h))
  rw [hv] at this
  cases this
  exact .inr ⟨T, _, hT, rfl, fun G' e' n' => by rw [Nat.zero_add]; exact pair_dp e' n' (.int _) q⟩
def fEnum : FI := fun xs Q => match xs with
  | [.lst ds] => Q (enm 0 ds)
  | _ => False
theorem i_enum {elts : List Expr} {kk : Nat} (hm : X.mg "enumerate" = none) (h : DPA X C W [e] das) (hg : Gl X "enumerate" := by rfl) (hs : starEach [e] X.env = [(false, eval e X.env)] := by rfl) : DPI X C W (.Tuple elts kk tpos) (.Call (.Name "enumerate" p) [e] [] pos) (dItA fEnum das) := by
  obtain ⟨t, a1, a2⟩ := h
  refine ⟨_, pi_enum hg hm a1 hs, fun B σ δ μ G H R DQ_ RR c s q rr k => a2 B σ δ μ G H _ _ RR c s q rr fun vs ds μ' G' H' c' e' p' q' => ?_⟩
  unfold fEnum at q'
  split at q'
  · cases p' with
    | cons p1 p2 =>
      cases p2
      cases p1 with
      | lst h1 h2 => exact ⟨_, _, rfl, .of (c'.sub _ _ h1), k _ _ μ' G' H' c' e' (ok_enum h1 h2) q'⟩
  · exact q'.elim
def zp : List D → List D → List D
  | a :: as, b :: bs => .tup [a, b] :: zp as bs
  | _, _ => []
theorem zp_length (a b : List D) : (zp a b).length = min a.length b.length := by
  induction a generalizing b with
  | nil => simp [zp]
  | cons x a ih =>
    cases b with
    | nil => simp [zp]
    | cons y b => simp [zp, ih]
theorem zp_get {a b : List D} {i : Nat} {d : D} (h : (zp a b)[i]? = some d) : ∃ x y, a[i]? = some x ∧ b[i]? = some y ∧ d = .tup [x, y] := by
  induction a generalizing b i with
  | nil => simp [zp] at h
  | cons x a ih =>
    cases b with
    | nil => simp [zp] at h
    | cons y b =>
      cases i with
      | zero => simp [zp] at h; exact ⟨x, y, rfl, rfl, h.symm⟩
      | succ i =>
        simp only [zp, List.getElem?_cons_succ] at h ⊢
        exact ih h
theorem ok_zip {a b : Addr} {xs ys : List V} {ds es : List D} {G : Hp} (h : G a = some (.lst xs)) (p : Dps C K G xs ds) (h2 : G b = some (.lst ys)) (p2 : Dps C K G ys es) : ItOk C K (Itz K a b) (zp ds es) G := by
  refine ⟨fun H e => ⟨xs, ys, .of (e _ _ h), .of (e _ _ h2), by rw [p.length, p2.length, zp_length]; omega⟩, fun i d hd H e => ?_⟩
  obtain ⟨x, y, hx, hy, rfl⟩ := zp_get hd
  obtain ⟨v, hv, q⟩ := p.get hx
  obtain ⟨v2, hv2, q2⟩ := p2.get hy
  refine ⟨⟨xs, ys, v, v2, .of (e _ _ h), .of (e _ _ h2), hv, hv2⟩, fun w H' y => ?_⟩
  obtain ⟨T, u, u2, rfl, hT, rfl, hu, hu2⟩ := y
  have := hu xs (.of (e _ _ h))
  rw [hv] at this
  cases this
  have := hu2 ys (.of (e _ _ h2))
  rw [hv2] at this
  cases this
  exact .inr ⟨T, _, hT, rfl, fun G' e' n' => pair_dp e' n' q q2⟩
def fZip : FI := fun xs Q => match xs with
  | [.lst ds, .lst es] => Q (zp ds es)
  | _ => False
theorem i_zip {e2 : Expr} {elts : List Expr} {kk : Nat} (hm : X.mg "zip" = none) (h : DPA X C W [e, e2] das) (hg : Gl X "zip" := by rfl) (hs : starEach [e, e2] X.env = (false, eval e X.env) :: starEach [e2] X.env := by rfl) (hpl : (backTo pos (starEach [e2] X.env)).any (·.1) = false := by rfl) :
    DPI X C W (.Tuple elts kk tpos) (.Call (.Name "zip" p) [e, e2] [] pos) (dItA fZip das) := by
  obtain ⟨t, a1, a2⟩ := h
  refine ⟨_, pi_zip hg hm a1 hs hpl, fun B σ δ μ G H R DQ_ RR c s q rr k => a2 B σ δ μ G H _ _ RR c s q rr fun vs ds μ' G' H' c' e' p' q' => ?_⟩
  unfold fZip at q'
  split at q'
  · cases p' with
    | cons p1 p2 =>
      cases p2 with
      | cons p2 p3 =>
        cases p3
        cases p1 with
        | lst h1 h2 =>
          cases p2 with
          | lst h3 h4 => exact ⟨_, _, _, _, rfl, .of (c'.sub _ _ h1), .of (c'.sub _ _ h3), k _ _ μ' G' H' c' e' (ok_zip h1 h2 h3 h4) q'⟩
  · exact q'.elim
end

/-! ### loops -/
def Bs.at (B : Bs) (G : Hp) : Bs := { H0 := B.H0, G0 := G, ms := B.ms }
theorem Con.to {C : DC} {K : PySem.W.Frag} {B : Bs} {μ : Mem} {G H : Hp} (c : Con C K B μ G H) : Con C K (B.at G) μ G H :=
  ⟨c.keep, c.ever, c.sub, Ex.refl _, fun a _ _ z => z, c.cell, c.hid, c.mine, c.nd⟩
theorem Con.fro {C : DC} {K : PySem.W.Frag} {B : Bs} {μ μ1 : Mem} {G H G1 H1 : Hp} (c : Con C K B μ G H) (d : Con C K (B.at G) μ1 G1 H1) : Con C K B μ1 G1 H1 :=
  ⟨d.keep, d.ever, d.sub, c.old.trans d.old, fun a nm n z => d.fresh a nm n (c.fresh a nm n z), d.cell, d.hid, d.mine, d.nd⟩
/-- Jv: by the turn, the slots and what is owned -/
def dFor (di : DI) (g : DG) (b : DS) : DS := fun E δ μ => di δ μ (fun its μ1 => ∃ Jv : Nat → Dl → Mem → Prop, Jv 0 δ μ1 ∧ (∀ k d δ μ, its[k]? = some d → Jv k δ μ →
  g d δ μ fun δ2 μ2 => b { E with nx := Jv (k + 1), ct := Jv (k + 1), bk := E.nx } δ2 μ2) ∧ ∀ δ μ, Jv its.length δ μ → E.nx δ μ) (E.ra δ)
section
variable {X : Cx} {C : DC} {W : WX} {tg iter : Expr} {pos : Pos}
theorem snd_for {K : PySem.W.Frag} {wi : TI} {g : TG} {tb : TS} {di : DI} {dg : DG} {db : DS} (i2 : SndI C K W wi di) (g2 : SndG C K g dg) (b2 : SndS C K W tb db) : SndS C K W (tFor wi g tb) (dFor di dg db) := fun B σ δ μ G H T E c s q k1 k2 k3 k4 k5 =>
  i2 B σ δ μ G H _ _ _ c s q (wish_of s k5) fun J its μ1 G1 H1 c1 e1 ok ⟨Jv, v0, step, fin⟩ => by
    refine ⟨fun i m σ H => m = its.length - i ∧ i ≤ its.length ∧ ∃ δ μ G, Con C K B μ G H ∧ Sl C K G σ δ ∧ Ex G1 G ∧ Jv i δ μ, ⟨its.length, by simp, Nat.zero_le _, δ, μ1, G1, c1, s.mono e1, Ex.refl _, v0⟩, ?_⟩
    rintro i m σ2 H2 ⟨rfl, hi, δ2, μ2, G2, c2, s2, e2, v2⟩
    by_cases hlt : i < its.length
    · have hd : its[i]? = some its[i] := by simp [hlt]
      refine .inr ⟨(ok.2 i _ hd H2 (e2.trans c2.sub)).1, fun σ' H' => ∃ δ μ G, Con C K B μ G H' ∧ Sl C K G σ' δ ∧ Ex G1 G ∧ Jv (i + 1) δ μ, fun σ' H' n => ⟨_, by omega, rfl, hlt, n⟩, fun x H3 y => ?_⟩
      obtain ⟨G3, c3, e3, p3⟩ := ok.yield c2 e2 hd y
      refine g2 B σ2 δ2 μ2 G3 H3 x _ _ _ c3 (s2.mono e3) p3 (step i _ δ2 μ2 hd v2) fun σ4 δ4 μ4 G4 H4 c4 s4 e4 q4 => ?_
      have ee : Ex G1 G4 := (e2.trans e3).trans e4
      exact b2 (B.at G4) σ4 δ4 μ4 G4 H4 _ _ c4.to s4 q4 (fun σ' δ' μ' G' H' c' s' q' => ⟨δ', μ', G', c4.fro c', s', ee.trans c'.old, q'⟩) (fun v d μ' G' H' c' p' q' => k2 v d μ' G' H' (c4.fro c') p' q')
        (fun σ' δ' μ' G' H' c' s' q' => k1 σ' δ' μ' G' H' (c4.fro c') s' q') (fun σ' δ' μ' G' H' c' s' q' => ⟨δ', μ', G', c4.fro c', s', ee.trans c'.old, q'⟩)
        (fun σ' δ' cc d μ' G' H' v dx c' s' e p' q' => k5 σ' δ' cc d μ' G' H' v dx (c4.fro c') s' e p' q')
    · have e : i = its.length := by omega
      subst e
      exact .inl ⟨ok.1 H2 (e2.trans c2.sub), k1 _ _ _ _ _ c2 s2 (fin δ2 μ2 v2)⟩
theorem s_for {body : List Stmt} {di : DI} {g : TG} {dg : DG} {db : DS} (hp : PassesOwn (model X.prog X.w) X.A X.env X.xe) (hc : X.calm = true) (hi : DPI X C W tg iter di) (hg : DPG X C tg g dg) (hb : DPSs X C W body db)
    (hs : ∀ x, foldedSetIterable iter X.env x = pure x := by intro _; rfl) : DPS X C W (.For tg iter body [] pos) (dFor di dg db) := by
  obtain ⟨_, i1, i2⟩ := hi
  obtain ⟨_, b1, b2⟩ := hb
  exact ⟨_, ps_for hp hc i1 hg.1 b1 hs, snd_for i2 hg.2 b2⟩
/-- Jv: by the measure, the slots and what is owned -/
def dWhile (t : DT) (b : DS) : DS := fun E δ μ => ∃ Jv : Nat → Dl → Mem → Prop, (∃ m, Jv m δ μ) ∧ ∀ m δ μ, Jv m δ μ → t δ μ (fun c μ1 => if c = true then
  b { E with nx := fun δ' μ' => ∃ m', m' < m ∧ Jv m' δ' μ', ct := fun δ' μ' => ∃ m', m' < m ∧ Jv m' δ' μ', bk := E.nx } δ μ1 else E.nx δ μ1) (E.ra δ)
theorem s_while {c : Expr} {body : List Stmt} {t : DT} {db : DS} (hp : PassesOwn (model X.prog X.w) X.A X.env X.xe) (hc : DPT X C W c t) (hb : DPSs X C W body db) : DPS X C W (.While c body [] pos) (dWhile t db) := by
  obtain ⟨_, c1, c2⟩ := hc
  obtain ⟨_, b1, b2⟩ := hb
  refine ⟨_, ps_while hp c1 b1, fun B σ δ μ G H T E cc s q k1 k2 k3 k4 k5 => ?_⟩
  obtain ⟨Jv, ⟨m0, v0⟩, step⟩ := q
  refine ⟨fun m σ H => ∃ δ μ G, Con C X.K B μ G H ∧ Sl C X.K G σ δ ∧ Jv m δ μ, ⟨m0, δ, μ, G, cc, s, v0⟩, ?_⟩
  rintro m σ2 H2 ⟨δ2, μ2, G2, cc2, s2, v2⟩
  refine c2 B σ2 δ2 μ2 G2 H2 _ _ _ cc2 s2 (step m δ2 μ2 v2) (wish_of s2 k5) fun x μ3 G3 H3 cc3 e3 q3 => ?_
  cases x with
  | true =>
    rw [if_pos rfl] at q3 ⊢
    refine ⟨fun σ' H' => ∃ δ μ G, Con C X.K B μ G H' ∧ Sl C X.K G σ' δ ∧ ∃ m', m' < m ∧ Jv m' δ μ, fun σ' H' ⟨δ, μ, G, a, b, m', hm, v⟩ => ⟨m', hm, δ, μ, G, a, b, v⟩, ?_⟩
    exact b2 B σ2 δ2 μ3 G3 H3 _ _ cc3 (s2.mono e3) q3 (fun σ' δ' μ' G' H' c' s' q' => ⟨δ', μ', G', c', s', q'⟩) k2 k1 (fun σ' δ' μ' G' H' c' s' q' => ⟨δ', μ', G', c', s', q'⟩) k5
  | false =>
    rw [if_neg Bool.false_ne_true] at q3 ⊢
    exact k1 _ _ _ _ _ cc3 (s2.mono e3) q3
end

/-! ### list comprehensions -/
def noW : WX := fun _ _ _ _ => False
theorem Rs.no {C : DC} {K : PySem.W.Frag} {B : Bs} {σ : L2.St} {G : Hp} : Rs C K noW B σ G dNR := fun _ _ _ _ _ _ _ _ _ _ _ h => h.elim
def wipeD (δ : Dl) : List Nat → Dl
  | [] => δ
  | v :: vs => (wipeD δ vs).set v none
theorem Sl.wipe {C : DC} {K : PySem.W.Frag} {G : Hp} {σ : L2.St} {δ : Dl} (s : Sl C K G σ δ) : ∀ vs, Sl C K G (L2.wipe σ vs) (wipeD δ vs)
  | [] => s
  | v :: vs => by
    have h := s.wipe vs
    unfold L2.wipe wipeD
    generalize L2.wipe σ vs = σ' at h ⊢
    generalize wipeD δ vs = δ' at h ⊢
    clear s
    induction h generalizing v with
    | nil => exact .nil
    | no r ih => cases v with
      | zero => exact .no r
      | succ i => exact .no (ih i)
    | yes r s ih => cases v with
      | zero => exact .no s
      | succ i => exact .yes r (ih i)
/-- Jv: by the turn, what is gathered and what is owned -/
def dLcG (fin : List D → Mem → DQ → Prop) (di : DI) (g : DG) (tt : DT) (de : DE) (vs : List Nat) : DE := fun δ μ Q R => di δ μ (fun its μ1 => its.length < 16777216 ∧ ∃ Jv : Nat → List D → Mem → Prop, Jv 0 [] μ1 ∧ (∀ k d acc μ, its[k]? = some d → acc.length ≤ k → Jv k acc μ →
  g d (wipeD δ vs) μ fun δ2 μ2 => tt δ2 μ2 (fun b μ3 => if b = true then de δ2 μ3 (fun y μ4 => Jv (k + 1) (acc ++ [y]) μ4) dNR else Jv (k + 1) acc μ3) dNR) ∧ ∀ acc μ, acc.length ≤ its.length → Jv its.length acc μ → fin acc μ Q) R
def dLc := dLcG fun acc μ Q => Q (.lst acc) μ
/-- the new list is owned -/
def dLcO := dLcG fun acc μ Q => ∀ p : Addr, Q (.adr p) (μ ++ [(p, .lst acc)])
def tYesD : DT := fun _ μ Q _ => Q true μ
section
variable {X : Cx} {C : DC} {W : WX} {tg iter elt : Expr} {pos : Pos}
theorem wipe_get (σ : L2.St) (is : List Nat) (j : Nat) : (wipe σ is)[j]? = if j ∈ is then (if j < σ.length then some none else none) else σ[j]? := by
  induction is with
  | nil => simp [wipe]
  | cons k is ih =>
    unfold wipe
    rw [List.getElem?_set, wipe_length]
    by_cases h : k = j
    · subst h; simp
    · rw [if_neg h, ih]
      have : (j ∈ k :: is) ↔ j ∈ is := by simp [Ne.symm h]
      simp only [this]
theorem wipe_wipe (σ : L2.St) (is : List Nat) : wipe (wipe σ is) is = wipe σ is := by
  apply List.ext_getElem?
  intro j
  rw [wipe_get, wipe_get, wipe_length]
  by_cases h : j ∈ is <;> simp [h]
theorem snd_lc {K : PySem.W.Frag} {fin : List D → Mem → DQ → Prop} {wi : TI} {g : TG} {tt : TT} {te : TE} {di : DI} {dg : DG} {dt : DT} {de : DE} {vs : List Nat} (i2 : SndI C K W wi di) (g2 : SndG C K g dg) (gi : TgIn g vs) (gm : MonoG g) (t2 : SndT C K noW tt dt) (e2 : SndE C K noW te de)
    (hf : ∀ B μ G H D xs acc Q_ (Q : VK) , Con C K B (μ ++ [(D, .lst acc)]) G H → H D = some (.lst xs) → Dps C K G xs acc → fin acc μ Q_ → (∀ v d μ' G' H', Con C K B μ' G' H' → Ex G G' → Dp C K G' v d → Q_ d μ' → Q v H') → Q (.ref D) H) :
    SndE C K W (tLc wi g tt te vs) (dLcG fin di dg dt de vs) := fun B σ δ μ G H Q DQ_ R c s q rr k =>
  i2 B σ δ μ G H _ _ _ c s q rr fun J its μ1 G1 H1 c1 e1 ok ⟨hlen, Jv, v0, step, fin'⟩ D hD => by
    refine ⟨fun i m H => m = its.length - i ∧ i ≤ its.length ∧ ∃ acc μ G, Con C K B (μ ++ [(D, .lst acc)]) G H ∧ Ex G1 G ∧ acc.length ≤ i ∧ Jv i acc μ, ⟨its.length, by simp, Nat.zero_le _, [], μ1, G1, c1.owned hD (.lst upd_same .nil), Ex.refl _, Nat.le_refl _, v0⟩, ?_⟩
    rintro i m H2 ⟨rfl, hi, acc, μ2, G2, c2, ee2, hl, v2⟩
    by_cases hlt : i < its.length
    · have hd : its[i]? = some its[i] := by simp [hlt]
      refine .inr ⟨(ok.2 i _ hd H2 (ee2.trans c2.sub)).1, fun H' => ∃ acc μ G, Con C K B (μ ++ [(D, .lst acc)]) G H' ∧ Ex G1 G ∧ acc.length ≤ i + 1 ∧ Jv (i + 1) acc μ, fun H' n => ⟨_, by omega, rfl, hlt, n⟩, fun x H3 y => ?_⟩
      obtain ⟨G3, c3, e3, p3⟩ := ok.yield c2 ee2 hd y
      have s3 : Sl C K G3 σ δ := s.mono ((e1.trans ee2).trans e3)
      have g3 := g2 ⟨H3, G3, μ2.map Prod.fst⟩ (L2.wipe σ vs) (wipeD δ vs) μ2 G3 H3 x _ (fun σ' H' => ∃ δ' μ' G', Con C K ⟨H3, G3, μ2.map Prod.fst⟩ μ' G' H' ∧ Sl C K G' σ' δ' ∧ Ex G3 G' ∧ dt δ' μ' (fun b μ3 => if b = true then de δ' μ3 (fun y μ4 => Jv (i + 1) (acc ++ [y]) μ4) dNR else Jv (i + 1) acc μ3) dNR) _
        c3.into (s3.wipe vs) p3 (step i _ acc μ2 hd hl v2) fun σ4 δ4 μ4 G4 H4 c4 s4 e4 q4 => ⟨δ4, μ4, G4, c4, s4, e4, q4⟩
      refine gm _ _ _ _ _ (fun σ' H' ⟨ew, δ4, μ4, G4, c4, s4, e4, q4⟩ => ⟨ew.trans (wipe_wipe σ vs), ?_⟩) (gi _ _ _ _ g3)
      have back : ∀ {μ5 : Mem} {G5 H5 : Hp}, Con C K ⟨H3, G3, μ2.map Prod.fst⟩ μ5 G5 H5 → Con C K B (μ5 ++ [(D, .lst acc)]) G5 H5 := fun c5 => c3.back c5
      have eb : ∀ {μ5 : Mem} {G5 H5 : Hp}, Con C K ⟨H3, G3, μ2.map Prod.fst⟩ μ5 G5 H5 → Ex G1 G5 := fun c5 => (ee2.trans e3).trans c5.old
      refine t2 ⟨H3, G3, μ2.map Prod.fst⟩ σ' δ4 μ4 G4 H' _ _ dNR c4 s4 q4 Rs.no fun b μ5 G5 H5 c5 e5 q5 => ?_
      cases b with
      | false =>
        rw [if_neg Bool.false_ne_true] at q5 ⊢
        exact ⟨acc, μ5, G5, back c5, eb c5, Nat.le_succ_of_le hl, q5⟩
      | true =>
        rw [if_pos rfl] at q5 ⊢
        refine e2 ⟨H3, G3, μ2.map Prod.fst⟩ σ' δ4 μ5 G5 H5 _ _ dNR c5 (s4.mono e5) q5 Rs.no fun y d6 μ6 G6 H6 c6 e6 p6 q6 => ?_
        have c7 := back c6
        have o := c7.cell D (.lst acc) (by simp)
        cases o with
        | @lst xs _ h1 h2 =>
          refine ⟨xs, h1, by rw [h2.length, sl16]; omega, acc ++ [d6], μ6, G6, ?_, eb c6, by simp; exact hl, q6⟩
          have w := c7.write (i := μ6.length) (p := D) (o := .lst acc) (o' := .lst (acc ++ [d6])) (u := .lst (xs ++ [y])) (by simp) (.lst upd_same (h2.append (.cons p6 .nil)))
          simpa using w
    · have e : i = its.length := by omega
      subst e
      refine .inl ⟨ok.1 H2 (ee2.trans c2.sub), ?_⟩
      have o := c2.cell D (.lst acc) (by simp)
      cases o with
      | lst h1 h2 => exact hf B μ2 G2 H2 D _ acc DQ_ Q c2 h1 h2 (fin' acc μ2 hl v2) fun v d μ' G' H' a b p q => k v d μ' G' H' a ((e1.trans ee2).trans b) p q
theorem hf_dat {K : PySem.W.Frag} : ∀ B μ G H (P : Addr) xs acc Q_ (Q : VK), Con C K B (μ ++ [(P, .lst acc)]) G H → H P = some (.lst xs) → Dps C K G xs acc → (fun (acc : List D) μ (Q : DQ) => Q (.lst acc) μ) acc μ Q_ →
    (∀ v d μ' G' H', Con C K B μ' G' H' → Ex G G' → Dp C K G' v d → Q_ d μ' → Q v H') → Q (.ref P) H := fun B μ G H P xs acc Q_ Q c h p q k => by
  obtain ⟨c2, e⟩ := c.freeze h
  exact k _ _ μ _ H c2 e (.lst upd_same (p.mono e)) q
theorem hf_own {K : PySem.W.Frag} : ∀ B μ G H (P : Addr) xs acc Q_ (Q : VK), Con C K B (μ ++ [(P, .lst acc)]) G H → H P = some (.lst xs) → Dps C K G xs acc → (fun (acc : List D) (μ : Mem) (Q : DQ) => ∀ p : Addr, Q (.adr p) (μ ++ [(p, .lst acc)])) acc μ Q_ →
    (∀ v d μ' G' H', Con C K B μ' G' H' → Ex G G' → Dp C K G' v d → Q_ d μ' → Q v H') → Q (.ref P) H := fun B μ G H P xs acc Q_ Q c h p q k =>
  k _ _ _ G H c (Ex.refl G) (.adr P) (q P)
abbrev Blk (X : Cx) (scope : Scope) (Y : Cx) : Prop := ∃ (s : Shared) (H : Hp) (P : Addr) (cl : List (PySem.Str × Addr)) (fp : List Addr), Y = X.blk s H scope (compEnvC scope cl P X.env) fp
theorem e_lcG {fin : List D → Mem → DQ → Prop} {ifs : List Expr} {scope : Scope} {own : List (PySem.Str × Nat)} {g : TG} {di : DI} {dg : DG} {dt : DT} {de : DE} {tt : TT} (hc : X.calm = true) (hN : X.N.Nodup) (hi : DPI X C W tg iter di) (ok : BlkOk X.N X.env.scope scope own)
    (hg : ∀ Y, Blk X scope Y → DPG Y C tg g dg) (gi : TgIn g (own.map (·.2))) (gm : MonoG g) (ht : ∀ Y, Blk X scope Y → PTs Y ifs tt) (ht2 : SndT C X.K noW tt dt) (he : ∀ Y, Blk X scope Y → DPE Y C noW elt de)
    (hf : ∀ B μ G H P xs acc Q_ (Q : VK), Con C X.K B (μ ++ [(P, .lst acc)]) G H → H P = some (.lst xs) → Dps C X.K G xs acc → fin acc μ Q_ → (∀ v d μ' G' H', Con C X.K B μ' G' H' → Ex G G' → Dp C X.K G' v d → Q_ d μ' → Q v H') → Q (.ref P) H)
    (hs : ∀ x, foldedSetIterable iter X.env x = pure x := by intro _; rfl) : DPE X C W (.ListComp elt [⟨tg, iter, ifs, 0⟩] scope pos) (dLcG fin di dg dt de (own.map (·.2))) := by
  obtain ⟨_, i1, i2⟩ := hi
  have g2 : SndG C X.K g dg := (hg _ ⟨⟨X.s_0.heap, X.s_0.gens, X.s_0.drawn, 0, X.s_0.os⟩, X.H_0, 0, [], [], rfl⟩).2
  exact ⟨_, pe_lc hc hN i1 ok (fun s H P cl fp => (hg _ ⟨s, H, P, cl, fp, rfl⟩).1) (fun s H P cl fp => ht _ ⟨s, H, P, cl, fp, rfl⟩) (fun s H P cl fp => (he _ ⟨s, H, P, cl, fp, rfl⟩).can) hs, snd_lc i2 g2 gi gm ht2 can_snd hf⟩
theorem yes_snd {K : PySem.W.Frag} : SndT C K noW tYes tYesD := fun B σ δ μ G H Q DQ_ R c s q rr k => k true μ G H c (Ex.refl G) q
/-- [elt for tg in iter] -/
theorem e_lc {scope : Scope} (own : List (PySem.Str × Nat)) {g : TG} {di : DI} {dg : DG} {de : DE} (hc : X.calm = true) (hN : X.N.Nodup) (hi : DPI X C W tg iter di) (ok : BlkOk X.N X.env.scope scope own)
    (hg : ∀ Y, Blk X scope Y → DPG Y C tg g dg) (gi : TgIn g (own.map (·.2))) (gm : MonoG g) (he : ∀ Y, Blk X scope Y → DPE Y C noW elt de)
    (hs : ∀ x, foldedSetIterable iter X.env x = pure x := by intro _; rfl) : DPE X C W (.ListComp elt [⟨tg, iter, [], 0⟩] scope pos) (dLc di dg tYesD de (own.map (·.2))) :=
  e_lcG hc hN hi ok hg gi gm (fun _ _ => pts_nil) yes_snd he hf_dat hs
theorem e_lcO {scope : Scope} (own : List (PySem.Str × Nat)) {g : TG} {di : DI} {dg : DG} {de : DE} (hc : X.calm = true) (hN : X.N.Nodup) (hi : DPI X C W tg iter di) (ok : BlkOk X.N X.env.scope scope own)
    (hg : ∀ Y, Blk X scope Y → DPG Y C tg g dg) (gi : TgIn g (own.map (·.2))) (gm : MonoG g) (he : ∀ Y, Blk X scope Y → DPE Y C noW elt de)
    (hs : ∀ x, foldedSetIterable iter X.env x = pure x := by intro _; rfl) : DPE X C W (.ListComp elt [⟨tg, iter, [], 0⟩] scope pos) (dLcO di dg tYesD de (own.map (·.2))) :=
  e_lcG hc hN hi ok hg gi gm (fun _ _ => pts_nil) yes_snd he hf_own hs
theorem e_lcIf {scope : Scope} {c : Expr} (own : List (PySem.Str × Nat)) {g : TG} {di : DI} {dg : DG} {de : DE} {dt : DT} (hc : X.calm = true) (hN : X.N.Nodup) (hi : DPI X C W tg iter di) (ok : BlkOk X.N X.env.scope scope own)
    (hg : ∀ Y, Blk X scope Y → DPG Y C tg g dg) (gi : TgIn g (own.map (·.2))) (gm : MonoG g) (ht : ∀ Y, Blk X scope Y → DPT Y C noW c dt) (he : ∀ Y, Blk X scope Y → DPE Y C noW elt de)
    (hs : ∀ x, foldedSetIterable iter X.env x = pure x := by intro _; rfl) : DPE X C W (.ListComp elt [⟨tg, iter, [c], 0⟩] scope pos) (dLc di dg dt de (own.map (·.2))) :=
  e_lcG hc hN hi ok hg gi gm (fun Y h => pts_one ((by obtain ⟨_, _, _, _, _, rfl⟩ := h; exact rfl : Y.K = X.K) ▸ (ht Y h).can)) can_sndT he hf_dat hs
end

/-! ### what is owned, used -/
/-- an owned list, the last, as data from here on -/
def dFz (a : DE) : DE := fun δ μ Q R => a δ μ (fun x μ1 => match x with
  | .adr p => ∃ μ2 ds, μ1 = μ2 ++ [(p, .lst ds)] ∧ Q (.lst ds) μ2
  | _ => False) R
section
variable {X : Cx} {C : DC} {W : WX} {o e : Expr} {es : List Expr} {do_ : DE} {das : DA} {apos cpos : Pos}
theorem e_fz (h : DPE X C W e do_) : DPE X C W e (dFz do_) := by
  obtain ⟨_, a1, a2⟩ := h
  refine ⟨_, a1, fun B σ δ μ G H Q DQ_ R c s q rr k => a2 B σ δ μ G H _ _ R c s q rr fun v d μ1 G1 H1 c1 e1 p1 q1 => ?_⟩
  cases p1 with
  | adr p =>
    obtain ⟨μ2, ds, rfl, q2⟩ := q1
    have ok := c1.cell p (.lst ds) (by simp)
    cases ok with
    | lst h1 h2 =>
      obtain ⟨c2, e2⟩ := c1.freeze h1
      exact k _ _ μ2 _ H1 c2 (e1.trans e2) (.lst upd_same (h2.mono e2)) q2
  | _ => exact q1.elim
end
end DL

namespace DL
open PySem PySem.Spec PyProof.Rows L2

/-! ### promises over data -/
abbrev DF := List D → Mem → DQ → DR → Prop
def spOf (C : DC) (K : PySem.W.Frag) (np : Nat) (f : DF) : Sp := fun vs H Q E => vs.length = np ∧ ∃ G ds μ DQ_ R, Con C K ⟨H, G, μ.map Prod.fst⟩ μ G H ∧ Dps C K G vs ds ∧ f ds μ DQ_ R ∧
  (∀ v d μ' G' H', Con C K ⟨H, G, μ.map Prod.fst⟩ μ' G' H' → Dp C K G' v d → DQ_ d μ' → Q v H') ∧
  ∀ c d μ' G' H' v dx, Con C K ⟨H, G, μ.map Prod.fst⟩ μ' G' H' → G' dx = some (.xd [(C.fld 0, v)]) → Dp C K G' v d → R c d μ' → E (.ref (C.cls c)) (some dx) H'
def EW (E : XK) : WX := fun cls d _ H => E cls d H
def dEnds (Q : DQ) (R : DR) : DEnds := { nx := fun _ μ => Q .non μ, rt := Q, bk := fun _ _ => False, ct := fun _ _ => False, ra := fun _ => R }
def slots (N : List PySem.Str) (ds : List D) : Dl := ds.map some ++ List.replicate (N.length - ds.length) none
theorem sl_start {C : DC} {K : PySem.W.Frag} {G : Hp} {N : List PySem.Str} {vs : List V} {ds : List D} (h : Dps C K G vs ds) : Sl C K G (L2.start N vs) (slots N ds) := by
  unfold L2.start slots
  rw [h.length]
  generalize N.length - ds.length = n
  have : ∀ n, Sl C K G (List.replicate n none) (List.replicate n none) := fun n => by
    induction n with
    | zero => exact .nil
    | succ n ih => rw [List.replicate_succ, List.replicate_succ]; exact .no ih
  induction ds generalizing vs with
  | nil => cases h; exact this n
  | cons d ds ih => cases h with | cons a b => exact .yes a (ih b)
section
variable {P : Program} {w : World} {K : PySem.W.Frag} {mg : PySem.Str → Option Value} {base : Heap} {C : DC}
theorem spOf_len {np : Nat} {f : DF} : ∀ vs H Q E, spOf C K np f vs H Q E → vs.length = np := fun _ _ _ _ h => h.1
theorem body_ok {X : Cx} {E : XK} {st : List Stmt} {db : DS} {f : DF} {np : Nat} {vs : List V} {H : Hp} {Q : VK} (hb : DPSs X C (EW E) st db) (pure_ : ∀ ds μ Q R, ds.length = np → f ds μ Q R → db (dEnds Q R) (slots X.N ds) μ) (h : spOf C X.K np f vs H Q E) :
    ∃ t, PSs X st t ∧ t { nx := fun _ H' => Q .non H', rt := Q } (start X.N vs) H := by
  obtain ⟨t, p, s⟩ := hb
  obtain ⟨hl, G, ds, μ, DQ_, R, c, hd, hf, k1, k2⟩ := h
  refine ⟨t, p, s _ _ _ μ G H _ _ c (sl_start hd) (pure_ ds μ DQ_ R (by rw [← hd.length]; exact hl) hf) ?_ ?_ ?_ ?_ ?_⟩
  · exact fun σ' δ' μ' G' H' c' s' q => k1 _ _ μ' G' H' c' .non q
  · exact fun v d μ' G' H' c' p' q => k1 v d μ' G' H' c' p' q
  · exact fun σ' δ' μ' G' H' c' s' q => q.elim
  · exact fun σ' δ' μ' G' H' c' s' q => q.elim
  · exact fun σ' δ' cc d μ' G' H' v dx c' s' e p' q => k2 cc d μ' G' H' v dx c' e p' q
/-- THE RULE: a def keeps its promise -/
theorem okD {x qual : PySem.Str} {params : Arguments} {body : List Stmt} {scope : Scope} {dvs : List V} {kws : List (PySem.Str × V)} {fa : Addr} {fd : FuncData} {N ps : List PySem.Str} {k : Nat} {f : DF} {db : DS} (F : FunD K x qual params body scope dvs kws fa fd) (S : FnScope N ps scope)
    (hb : ∀ (cdv : Value) (A : Around) (outer : List Env) (s : Shared) (H : Hp) (E : XK), Room k (A.deeper (envOfC qual scope s.heap.objs.size fa cdv)) → Takes (cxOf (L2.CX P w) P w K mg base N qual scope fa cdv A outer s H E) (EW E) →
      DPSs (cxOf (L2.CX P w) P w K mg base N qual scope fa cdv A outer s H E) C (EW E) body db)
    (pure_ : ∀ ds μ Q R, ds.length = ps.length → f ds μ Q R → db (dEnds Q R) (slots N ds) μ) : FnOk P w K mg base (L2.CX P w) (k + 1) fa fd ps (spOf C K ps.length f) :=
  F.ok S spOf_len fun cdv A outer s H vs Q E hr h => body_ok (X := cxOf (L2.CX P w) P w K mg base N qual scope fa cdv A outer s H E) (hb cdv A outer s H E hr (takes_of rfl rfl rfl rfl)) pure_ h
end

/-! ### calls -/
/-- a def by its name: where it stands and what it promises -/
def FDa (P : Program) (w : World) (K : PySem.W.Frag) (mg : PySem.Str → Option Value) (base : Heap) (C : DC) (x : PySem.Str) (k na : Nat) (dds : List D) (f : DF) : Prop :=
  ∃ fa fd ps dvs dsv, mg x = some (.ref fa) ∧ PySem.W.keepIn K (.ref fa) = true ∧ FnOk P w K mg base (L2.CX P w) k fa fd ps (spOf C K ps.length f) ∧ Binds K fd ps dsv ∧ Vals dvs dsv ∧ (∀ G, Dps C K G dvs dds) ∧ na + dds.length = ps.length
/-- f(as), f looks at the first n owned things -/
def dCall (n na : Nat) (dds : List D) (f : DF) (as : DA) : DE := fun δ μ Q R => as δ μ (fun xs μ1 => xs.length = na ∧ f (xs ++ dds) (μ1.take n) (fun d μ' => Q d (μ'.take n ++ μ1.drop n ++ μ'.drop n)) (fun c d μ' => R c d (μ'.take n ++ μ1.drop n ++ μ'.drop n))) R
theorem Con.ret {C : DC} {K : PySem.W.Frag} {B : Bs} {μ μ' : Mem} {G H G' H' : Hp} (n : Nat) (c : Con C K B μ G H) (c' : Con C K ⟨H, G, (μ.take n).map Prod.fst⟩ μ' G' H') : Con C K B (μ'.take n ++ μ.drop n ++ μ'.drop n) G' H' := by
  have e1 : μ'.take n ++ μ'.drop n = μ' := List.take_append_drop n μ'
  have e2 : μ.take n ++ μ.drop n = μ := List.take_append_drop n μ
  exact Con.backE (μ := μ.take n) (by rw [e2]; exact c) (by rw [e1]; exact c')
theorem Con.go {C : DC} {K : PySem.W.Frag} {B : Bs} {μ : Mem} {G H : Hp} (n : Nat) (c : Con C K B μ G H) : Con C K ⟨H, G, (μ.take n).map Prod.fst⟩ (μ.take n) G H :=
  Con.into (ν := μ.drop n) (by rw [List.take_append_drop]; exact c)
/-- the promise at a call -/
theorem sp_at {C : DC} {K : PySem.W.Frag} {W : WX} {B : Bs} {σ : L2.St} {μ : Mem} {G H : Hp} {np n : Nat} {f : DF} {vs : List V} {ds : List D} {Q : VK} {DQ_ : DQ} {R : DR} (c : Con C K B μ G H) (hl : vs.length = np) (hd : Dps C K G vs ds)
    (hf : f ds (μ.take n) (fun d μ' => DQ_ d (μ'.take n ++ μ.drop n ++ μ'.drop n)) (fun c d μ' => R c d (μ'.take n ++ μ.drop n ++ μ'.drop n))) (rr : Rs C K W B σ G R)
    (k : ∀ v d μ' G' H', Con C K B μ' G' H' → Ex G G' → Dp C K G' v d → DQ_ d μ' → Q v H') : spOf C K np f vs H Q (WE W σ) :=
  ⟨hl, G, ds, μ.take n, _, _, c.go n, hd, hf, fun v d μ' G' H' c' p q => k v d _ G' H' (c.ret n c') c'.old p q, fun cc d μ' G' H' v dx c' e p q => rr cc d _ G' H' v dx (c.ret n c') c'.old e p q⟩
section
variable {X : Cx} {C : DC} {W : WX} {x : PySem.Str} {p pos apos : Pos} {e o : Expr} {es : List Expr} {das : DA} {do_ : DE} {f : DF} {k na : Nat}
theorem e_call (n : Nat) {dds : List D} (h : FDa X.prog X.w X.K X.mg X.base C x k na dds f) (hr : Room k X.A) (tk : Takes X W) (ha : DPA X C W (e :: es) das) (hg : Gl X x := by rfl) (hdb : (x == ("__debug__" : PySem.Str)) = false := by decide)
    (he : starEach (e :: es) X.env = (false, eval e X.env) :: starEach es X.env := by rfl) (hpl : (backTo pos (starEach es X.env)).any (·.1) = false := by rfl) : DPE X C W (.Call (.Name x p) (e :: es) [] pos) (dCall n na dds f das) := by
  obtain ⟨fa, fd, ps, dvs, dsv, hm, hk, F, hb, hd, hdd, hl⟩ := h
  obtain ⟨t, a1, a2⟩ := ha
  refine ⟨_, pe_callSD F hr hg hm hk hb hd (fun σ => passAt tk σ) a1 hdb he hpl, fun B σ δ μ G H Q DQ_ R c s q rr kk => a2 B σ δ μ G H _ _ R c s q rr fun vs ds μ1 G1 H1 c1 e1 p1 q1 => ?_⟩
  refine sp_at (n := n) c1 ?_ (p1.append (hdd G1)) q1.2 (rr.mono e1) fun v d μ' G' H' c' e' p' q' => kk v d μ' G' H' c' (e1.trans e') p' q'
  rw [(p1.append (hdd G1)).length, List.length_append, q1.1, ← hl]

/-! ### methods -/
/-- a method of a class: what it promises -/
def MDa (P : Program) (w : World) (K : PySem.W.Frag) (mg : PySem.Str → Option Value) (base : Heap) (C : DC) (c : Nat) (m : PySem.Str) (k na : Nat) (dds : List D) (f : DF) : Prop :=
  Cls K (C.cls c) ∧ (∀ i, C.fld i ≠ m) ∧ ∃ fa fd ps dvs dsv, Meth K (C.cls c) m fa ∧ FnOk P w K mg base (L2.CX P w) k fa fd ps (spOf C K ps.length f) ∧ Binds K fd ps dsv ∧ Vals dvs dsv ∧ (∀ G, Dps C K G dvs dds) ∧ na + 1 + dds.length = ps.length
theorem Dfs.none {C : DC} {K : PySem.W.Frag} {G : Hp} {m : PySem.Str} (hm : ∀ i, C.fld i ≠ m) : ∀ {fs : List (PySem.Str × V)} {es : List (Nat × D)}, Dfs C K G fs es → fs.lookup m = none
  | _, _, .nil => rfl
  | _, _, .cons (n := n) h hs => by
    have : (m == C.fld n) = false := by simpa using (hm n).symm
    simp only [List.lookup, this]
    exact Dfs.none hm hs
theorem Dfs.lookup {C : DC} {K : PySem.W.Frag} {G : Hp} {i : Nat} {d : D} : ∀ {fs : List (PySem.Str × V)} {es : List (Nat × D)}, Dfs C K G fs es → es.lookup i = some d → ∃ v, fs.lookup (C.fld i) = some v ∧ Dp C K G v d
  | _, _, .nil, e => by cases e
  | _, _, .cons (n := n) (v := v) (d := d') h hs, e => by
    by_cases hn : i = n
    · subst hn
      simp only [List.lookup, beq_self_eq_true] at e ⊢
      cases e
      exact ⟨v, rfl, h⟩
    · have e1 : (i == n) = false := by simpa using hn
      have e2 : (C.fld i == C.fld n) = false := by simpa using fun z => hn (C.inj _ _ z)
      simp only [List.lookup, e1] at e
      simp only [List.lookup, e2]
      exact Dfs.lookup hs e
/-- it is an instance: as data, or an owned one -/
def isObj (c : Nat) (x : D) (μ : Mem) : Prop := match x with
  | .obj c' _ => c' = c
  | .adr p => ∃ (j : Nat) (es : List (Nat × D)), μ[j]? = some (p, .ins c es)
  | _ => False
theorem isObj.at {C : DC} {K : PySem.W.Frag} {B : Bs} {μ : Mem} {G H : Hp} {c : Nat} {x : D} {v : V} (h : isObj c x μ) (cc : Con C K B μ G H) (p : Dp C K G v x) : ∃ a dx fs es, v = .ref a ∧ H a = some (.ins (C.cls c) dx fs) ∧ Dfs C K G fs es := by
  cases p with
  | obj h1 h2 =>
    have h : _ = c := h
    subst h
    exact ⟨_, _, _, _, rfl, cc.sub _ _ h1, h2⟩
  | adr a =>
    obtain ⟨j, es, hj⟩ := h
    have o := cc.cell _ _ (List.mem_of_getElem? hj)
    cases o with
    | ins h1 h2 => exact ⟨_, _, _, _, rfl, h1, h2⟩
  | _ => exact h.elim
def tMethSD (C : Addr) (m : PySem.Str) (sp : Sp) (dvs : List V) (E : L2.St → XK) (ta : TE) (t : TA) : TE := fun σ H Q => ta σ H fun x H1 => ∃ a dx fs, x = .ref a ∧ H1 a = some (.ins C dx fs) ∧ fs.lookup m = none ∧ t σ H1 fun vs H2 => sp (x :: (vs ++ dvs)) H2 Q (E σ)
theorem pe_methSD {CX : CXT} {pl : Sem Bool} {fa : Addr} {C : Addr} {m : PySem.Str} {fd : FuncData} {ps : List PySem.Str} {sp : Sp} {dvs : List V} {dsv : List Value} {E : L2.St → XK} {ta : TE} {t : TA} (he : PE X o ta) (c : Cls X.K C) (hm : Meth X.K C m fa) (F : FnOk X.prog X.w X.K X.mg X.base CX k fa fd ps sp) (hr : Room k X.A) (hb : Binds X.K fd ps dsv) (hd : Vals dvs dsv) (hx : ∀ σ, PassesAt CX X σ (E σ)) (ha : PA X (e :: es) t)
    (hst : starEach (e :: es) X.env = (false, eval e X.env) :: starEach es X.env) (hpl : (backTo pos (starEach es X.env)).any (·.1) = false)
    (ht : eval (.Call (.Attribute o m apos) (e :: es) [] pos) X.env = (do
      let ov ← eval o X.env
      standAt apos.atName
      let (f, first) ← holding [ov] (getMethod ov m pl)
      callWith pos f first (backTo pos (starEach (e :: es) X.env)) (backToKw pos (keywordEach [] X.env)))) :
    PE X (.Call (.Attribute o m apos) (e :: es) [] pos) (tMethSD C m sp dvs E ta t) := by
  refine ⟨fun pins s σ H Q I h => ?_⟩
  refine PySem.W.methodCall_KW (pl := pl) (thn (he.run pins s σ H _ I h) fun u s1 ⟨x, H1, I1, rx, a, dx, fs, ex, ea, l, q⟩ => ?_) ht
  subst ex
  obtain rfl : u = Value.ref a := rx
  refine getmeth_ok I1 ea c hm l ?_
  refine PySem.W.callWith_K (first := [.ref a]) (h₀ := X.base) I.ok.mod.kin hm.kp (thn (ha.run pos pins s1 σ H1 _ I1 q) fun us s2 ⟨vs, H2, I2, r, q2⟩ => ⟨I2.kIn, ?_⟩) hst hpl
  exact run_fnSD (us := .ref a :: us) (vs := .ref a :: vs) F hr hb hd (hx σ) I2 (.cons rfl r) q2
theorem pe_meth0SD {CX : CXT} {pl : Sem Bool} {fa : Addr} {C : Addr} {m : PySem.Str} {fd : FuncData} {ps : List PySem.Str} {sp : Sp} {dvs : List V} {dsv : List Value} {E : L2.St → XK} {ta : TE} (he : PE X o ta) (c : Cls X.K C) (hm : Meth X.K C m fa) (F : FnOk X.prog X.w X.K X.mg X.base CX k fa fd ps sp) (hr : Room k X.A) (hb : Binds X.K fd ps dsv) (hd : Vals dvs dsv) (hx : ∀ σ, PassesAt CX X σ (E σ))
    (ht : eval (.Call (.Attribute o m apos) [] [] pos) X.env = (do
      let ov ← eval o X.env
      standAt apos.atName
      let (f, first) ← holding [ov] (getMethod ov m pl)
      callWith pos f first (backTo pos (starEach [] X.env)) (backToKw pos (keywordEach [] X.env)))) :
    PE X (.Call (.Attribute o m apos) [] [] pos) (tMethSD C m sp dvs E ta tNil) := by
  refine ⟨fun pins s σ H Q I h => ?_⟩
  refine PySem.W.methodCall_KW (pl := pl) (thn (he.run pins s σ H _ I h) fun u s1 ⟨x, H1, I1, rx, a, dx, fs, ex, ea, l, q⟩ => ?_) ht
  subst ex
  obtain rfl : u = Value.ref a := rx
  refine getmeth_ok I1 ea c hm l ?_
  exact PySem.W.callWith_K0 (first := [.ref a]) I1.kIn hm.kp (run_fnSD (us := [.ref a]) (vs := [.ref a]) F hr hb hd (hx σ) I1 (.cons rfl .nil) q)
/-- o.m(as), it looks at the first n owned things -/
def dMeth (n na c : Nat) (dds : List D) (f : DF) (o : DE) (as : DA) : DE := fun δ μ Q R => o δ μ (fun x μ0 => isObj c x μ0 ∧ as δ μ0 (fun xs μ1 => xs.length = na ∧ f (x :: (xs ++ dds)) (μ1.take n) (fun d μ' => Q d (μ'.take n ++ μ1.drop n ++ μ'.drop n)) (fun c d μ' => R c d (μ'.take n ++ μ1.drop n ++ μ'.drop n))) R) R
theorem snd_meth {n c : Nat} {dds : List D} {m : PySem.Str} {ps : List PySem.Str} {dvs : List V} {t : TA} {ta : TE} (hf : ∀ i, C.fld i ≠ m) (hdd : ∀ G, Dps C X.K G dvs dds) (hl : na + 1 + dds.length = ps.length) (o2 : SndE C X.K W ta do_) (a2 : SndA C X.K W t das) :
    SndE C X.K W (tMethSD (C.cls c) m (spOf C X.K ps.length f) dvs (WE W) ta t) (dMeth n na c dds f do_ das) := fun B σ δ μ G H Q DQ_ R cc s q rr kk =>
  o2 B σ δ μ G H _ _ R cc s q rr fun x dx μ0 G0 H0 c0 e0 p0 ⟨q0, q1⟩ => by
    obtain ⟨a, dxa, fs, es, rfl, ea, hfs⟩ := q0.at c0 p0
    refine ⟨a, dxa, fs, rfl, ea, hfs.none hf, a2 B σ δ μ0 G0 H0 _ _ R c0 (s.mono e0) q1 (rr.mono e0) fun vs ds μ1 G1 H1 c1 e1 p1 q2 => ?_⟩
    have pp := Dps.cons (p0.mono e1) (p1.append (hdd G1))
    refine sp_at (n := n) c1 ?_ pp q2.2 ((rr.mono e0).mono e1) fun v d μ' G' H' c' e' p' q' => kk v d μ' G' H' c' ((e0.trans e1).trans e') p' q'
    rw [pp.length, List.length_cons, List.length_append, q2.1, ← hl]
    omega
theorem e_meth (n : Nat) {c : Nat} {m : PySem.Str} {dds : List D} {pl : Sem Bool} (h : MDa X.prog X.w X.K X.mg X.base C c m k na dds f) (hr : Room k X.A) (tk : Takes X W) (ho : DPE X C W o do_) (ha : DPA X C W (e :: es) das)
    (hst : starEach (e :: es) X.env = (false, eval e X.env) :: starEach es X.env := by rfl) (hpl : (backTo pos (starEach es X.env)).any (·.1) = false := by rfl)
    (ht : eval (.Call (.Attribute o m apos) (e :: es) [] pos) X.env = (do
      let ov ← eval o X.env
      standAt apos.atName
      let (f, first) ← holding [ov] (getMethod ov m pl)
      callWith pos f first (backTo pos (starEach (e :: es) X.env)) (backToKw pos (keywordEach [] X.env))) := by rfl) : DPE X C W (.Call (.Attribute o m apos) (e :: es) [] pos) (dMeth n na c dds f do_ das) := by
  obtain ⟨cl, hf, fa, fd, ps, dvs, dsv, hm, F, hb, hd, hdd, hl⟩ := h
  obtain ⟨ta, o1, o2⟩ := ho
  obtain ⟨t, a1, a2⟩ := ha
  exact ⟨_, pe_methSD o1 cl hm F hr hb hd (fun σ => passAt tk σ) a1 hst hpl ht, snd_meth hf hdd hl o2 a2⟩
theorem e_meth0 (n : Nat) {c : Nat} {m : PySem.Str} {dds : List D} {pl : Sem Bool} (h : MDa X.prog X.w X.K X.mg X.base C c m k 0 dds f) (hr : Room k X.A) (tk : Takes X W) (ho : DPE X C W o do_)
    (ht : eval (.Call (.Attribute o m apos) [] [] pos) X.env = (do
      let ov ← eval o X.env
      standAt apos.atName
      let (f, first) ← holding [ov] (getMethod ov m pl)
      callWith pos f first (backTo pos (starEach [] X.env)) (backToKw pos (keywordEach [] X.env))) := by rfl) : DPE X C W (.Call (.Attribute o m apos) [] [] pos) (dMeth n 0 c dds f do_ dNil) := by
  obtain ⟨cl, hf, fa, fd, ps, dvs, dsv, hm, F, hb, hd, hdd, hl⟩ := h
  obtain ⟨ta, o1, o2⟩ := ho
  exact ⟨_, pe_meth0SD o1 cl hm F hr hb hd (fun σ => passAt tk σ) ht, snd_meth hf hdd hl o2 fun B σ δ μ G H Q DQ_ R c s q rr k => k [] [] μ G H c (Ex.refl G) .nil q⟩

/-! ### properties, fields -/
def PDa (P : Program) (w : World) (K : PySem.W.Frag) (mg : PySem.Str → Option Value) (base : Heap) (C : DC) (c : Nat) (m : PySem.Str) (k : Nat) (f : DF) : Prop :=
  Cls K (C.cls c) ∧ ∃ p g fd ps, PropOf K (C.cls c) m p g ∧ FnOk P w K mg base (L2.CX P w) k g fd ps (spOf C K ps.length f) ∧ Binds K fd ps [] ∧ ps.length = 1
def dProp (n c : Nat) (f : DF) (o : DE) : DE := fun δ μ Q R => o δ μ (fun x μ1 => isObj c x μ1 ∧ f [x] (μ1.take n) (fun d μ' => Q d (μ'.take n ++ μ1.drop n ++ μ'.drop n)) dNR) R
theorem e_prop (n : Nat) {c : Nat} {m : PySem.Str} (h : PDa X.prog X.w X.K X.mg X.base C c m k f) (hr : Room (k + 1) X.A) (ho : DPE X C W o do_) (hab : attributeBase o m X.env (eval o X.env) = eval o X.env := by rfl) : DPE X C W (.Attribute o m pos) (dProp n c f do_) := by
  obtain ⟨cl, p, g, fd, ps, hp, F, hb, hl⟩ := h
  obtain ⟨ta, o1, o2⟩ := ho
  refine ⟨_, pe_prop o1 cl hp F hr hb .nil (E := fun _ _ _ => False) (fun _ _ _ _ _ _ _ h => by
    obtain ⟨_, _, _, _, _, _, _, _, _, _, _, _, z⟩ := h
    exact z.elim) hab, fun B σ δ μ G H Q DQ_ R cc s q rr kk => o2 B σ δ μ G H _ _ R cc s q rr fun x dx μ1 G1 H1 c1 e1 p1 ⟨q1, q2⟩ => ?_⟩
  obtain ⟨a, dxa, fs, es, rfl, ea, hfs⟩ := q1.at c1 p1
  exact ⟨a, dxa, fs, rfl, ea, sp_at (n := n) (W := noW) (σ := σ) (R := dNR) c1 hl.symm (.cons p1 .nil) q2 Rs.no fun v d μ' G' H' c' e' p' q' => kk v d μ' G' H' c' (e1.trans e') p' q'⟩
/-- o.f, a field of an instance -/
def dFld (cs : List Nat) (i : Nat) (o : DE) : DE := fun δ μ Q R => o δ μ (fun x μ1 => match x with
  | .obj c es => c ∈ cs ∧ ∃ d, es.lookup i = some d ∧ Q d μ1
  | .adr p => ∃ (j c : Nat) (es : List (Nat × D)) (d : D), c ∈ cs ∧ μ1[j]? = some (p, .ins c es) ∧ es.lookup i = some d ∧ Q d μ1
  | _ => False) R
/-- the classes' part: they give fields -/
def FldOk (K : PySem.W.Frag) (C : DC) (cs : List Nat) (i : Nat) : Prop := ∀ c ∈ cs, Cls K (C.cls c) ∧ NoAttr K (C.cls c) (C.fld i)
theorem e_fld (i : Nat) {cs : List Nat} {m : PySem.Str} (hi : C.fld i = m) (h : FldOk X.K C cs i) (ho : DPE X C W o do_) (hab : attributeBase o m X.env (eval o X.env) = eval o X.env := by rfl) : DPE X C W (.Attribute o m pos) (dFld cs i do_) := by
  obtain ⟨ta, o1, o2⟩ := ho
  subst hi
  refine ⟨_, pe_fld o1 hab, fun B σ δ μ G H Q DQ_ R cc s q rr kk => o2 B σ δ μ G H _ _ R cc s q rr fun x dx μ1 G1 H1 c1 e1 p1 q1 => ?_⟩
  cases p1 with
  | @obj a dx c fs es h1 h2 =>
    obtain ⟨hcs, d, l, q2⟩ := q1
    obtain ⟨v, l2, pv⟩ := h2.lookup l
    exact ⟨a, _, dx, fs, v, rfl, c1.sub _ _ h1, (h c hcs).1, (h c hcs).2, l2, kk v d μ1 G1 H1 c1 e1 pv q2⟩
  | adr a =>
    obtain ⟨j, c, es, d, hcs, hj, l, q2⟩ := q1
    have ok := c1.cell _ _ (List.mem_of_getElem? hj)
    cases ok with
    | @ins dx _ fs _ h1 h2 =>
      obtain ⟨v, l2, pv⟩ := h2.lookup l
      exact ⟨a, _, dx, fs, v, rfl, h1, (h c hcs).1, (h c hcs).2, l2, kk v d μ1 G1 H1 c1 e1 pv q2⟩
  | _ => exact q1.elim
end
end DL

namespace DL
open PySem PySem.Spec PyProof.Rows L2

/-! ### objects are made -/
section
variable {X : Cx} {C : DC} {W : WX} {x : PySem.Str} {p pos apos : Pos} {e o : Expr} {es : List Expr} {das : DA} {do_ de : DE} {f : DF} {k na : Nat}
/-- a class by its name, its __init__ and what it promises -/
def KDa (P : Program) (w : World) (K : PySem.W.Frag) (mg : PySem.Str → Option Value) (base : Heap) (C : DC) (x : PySem.Str) (c k na : Nat) (dds : List D) (f : DF) : Prop :=
  mg x = some (.ref (C.cls c)) ∧ ∃ fa fd ps dvs dsv, Mk K (C.cls c) fa ∧ FnOk P w K mg base (L2.CX P w) k fa fd ps (spOf C K ps.length f) ∧ Binds K fd ps dsv ∧ Vals dvs dsv ∧ (∀ G, Dps C K G dvs dds) ∧ na + 1 + dds.length = ps.length
def tMakeSD (C : Addr) (sp : Sp) (dvs : List V) (E : L2.St → XK) (t : TA) : TE := fun σ H Q => t σ H fun vs H1 => ∀ x dx, H1 x = none → H1 dx = none → dx ≠ x → sp (.ref x :: (vs ++ dvs)) (upd (upd H1 dx (.own x)) x (.ins C dx [])) (fun v H2 => v = .non ∧ Q (.ref x) H2) (E σ)
theorem run_makeSD {CX : CXT} {fa Ca : Addr} {fd : FuncData} {ps : List PySem.Str} {sp : Sp} {dvs : List V} {ds : List Value} {E : XK} {pins : List (Addr × Obj)} {σ : L2.St} {H : Hp} {s : Shared} {Q : VK} {us : List Value} {vs : List V} (M : Mk X.K Ca fa) (F : FnOk X.prog X.w X.K X.mg X.base CX k fa fd ps sp) (hr : Room (k + 1) X.A) (hb : Binds X.K fd ps ds) (hd : Vals dvs ds)
    (hx : PassesAt CX X σ E) (I : Inv X pins σ H s) (r : Vals vs us)
    (h : ∀ x dx, H x = none → H dx = none → dx ≠ x → sp (.ref x :: (vs ++ dvs)) (upd (upd H dx (.own x)) x (.ins Ca dx [])) (fun v H2 => v = .non ∧ Q (.ref x) H2) E) :
    wpAny (model X.prog X.w) X.A (call (.ref Ca) us) (EP X pins σ Q) X.xe s := by
  have hq := h (s.heap.objs.size + 1) s.heap.objs.size (I.hok.fresh (Nat.le_succ _)) (I.hok.fresh (Nat.le_refl _)) (Nat.ne_of_lt (Nat.lt_succ_self _))
  have I2 := Inv.made (C := Ca) I
  have r2 : Vals (V.ref (s.heap.objs.size + 1) :: (vs ++ dvs)) (Value.ref (s.heap.objs.size + 1) :: (us ++ ds)) := .cons rfl (r.append hd)
  have hl : (Value.ref (s.heap.objs.size + 1) :: us ++ ds).length = ps.length := by
    have e := r2.length
    rw [F.len _ _ _ _ hq] at e
    exact e.symm
  refine wpAny_call (make_map (f := fa) I.kIn M.makes M.init (beq_iff_eq.mp M.fn) (codeAny_mono (F.run _ X.stack _ _ ⟨Value.ref (s.heap.objs.size + 1) :: us, []⟩ (Value.ref (s.heap.objs.size + 1) :: (us ++ ds)) _ _ E (hr.make Ca us [])
    (I2.env0.make Ca us []) (hb _ (Value.ref (s.heap.objs.size + 1) :: us) I2.kIn hl) r2 hq) fun r s' hq' => ?_))
  cases r with
  | error e => exact hx pins _ _ e s' I2 hq'
  | ok fl =>
    cases fl with
    | ret u =>
      obtain ⟨v, H', I3, rv, ev, q3⟩ := I2.after hq'
      subst ev
      exact ⟨rv, ⟨V.ref (s.heap.objs.size + 1), H', I3, rfl, q3⟩⟩
    | next => exact False.elim hq'
    | brk => exact False.elim hq'
    | cont => exact False.elim hq'
theorem pe_makeSD {CX : CXT} {fa Ca : Addr} {fd : FuncData} {ps : List PySem.Str} {sp : Sp} {dvs : List V} {ds : List Value} {E : L2.St → XK} {t : TA} (M : Mk X.K Ca fa) (F : FnOk X.prog X.w X.K X.mg X.base CX k fa fd ps sp) (hr : Room (k + 1) X.A) (hg : Gl X x) (hm : X.mg x = some (.ref Ca)) (hb : Binds X.K fd ps ds) (hd : Vals dvs ds) (hx : ∀ σ, PassesAt CX X σ (E σ))
    (ha : PA X (e :: es) t) (hdb : (x == ("__debug__" : PySem.Str)) = false := by decide) (he : starEach (e :: es) X.env = (false, eval e X.env) :: starEach es X.env := by rfl) (hpl : (backTo pos (starEach es X.env)).any (·.1) = false := by rfl) :
    PE X (.Call (.Name x p) (e :: es) [] pos) (tMakeSD Ca sp dvs E t) := by
  refine ⟨fun pins s σ H Q I h => ?_⟩
  refine wpAny_Call_Name_kw (ld_glob I hg hm ?_ hdb)
  refine PySem.W.callWith_K (h₀ := X.base) I.ok.mod.kin M.kp (thn (ha.run pos pins s σ H _ I h) fun us s1 ⟨vs, H1, I1, r, q⟩ => ⟨I1.kIn, ?_⟩) he hpl
  exact run_makeSD M F hr hb hd (hx σ) I1 r q
/-- C(as): made, and data from then on -/
def dMake (na c : Nat) (dds : List D) (f : DF) (as : DA) : DE := fun δ μ Q R => as δ μ (fun xs μ1 => xs.length = na ∧ ∀ p : Addr, f (.adr p :: (xs ++ dds)) [(p, .ins c [])] (fun d μ' => d = .non ∧ ∃ fs, μ' = [(p, .ins c fs)] ∧ Q (.obj c fs) μ1) (fun c' d _ => R c' d μ1)) R
theorem e_make {c : Nat} {dds : List D} (h : KDa X.prog X.w X.K X.mg X.base C x c k na dds f) (hr : Room (k + 1) X.A) (tk : Takes X W) (ha : DPA X C W (e :: es) das) (hg : Gl X x := by rfl) (hdb : (x == ("__debug__" : PySem.Str)) = false := by decide)
    (he : starEach (e :: es) X.env = (false, eval e X.env) :: starEach es X.env := by rfl) (hpl : (backTo pos (starEach es X.env)).any (·.1) = false := by rfl) : DPE X C W (.Call (.Name x p) (e :: es) [] pos) (dMake na c dds f das) := by
  obtain ⟨hm, fa, fd, ps, dvs, dsv, M, F, hb, hd, hdd, hl⟩ := h
  obtain ⟨t, a1, a2⟩ := ha
  refine ⟨_, pe_makeSD M F hr hg hm hb hd (fun σ => passAt tk σ) a1 hdb he hpl, fun B σ δ μ G H Q DQ_ R cc s q rr kk => a2 B σ δ μ G H _ _ R cc s q rr fun vs ds μ1 G1 H1 c1 e1 p1 q1 a dx ha hdx ne => ?_⟩
  have ha' : upd H1 dx (.own a) a = none := by rw [upd_ne (Ne.symm ne)]; exact ha
  have c2 : Con C X.K B (μ1 ++ [(a, .ins c [])]) G1 (upd (upd H1 dx (.own a)) a (.ins (C.cls c) dx [])) := (c1.junk hdx).owned ha' (.ins upd_same .nil)
  have nd := c2.nd
  have c3 : Con C X.K B ([(a, .ins c [])] ++ μ1) G1 (upd (upd H1 dx (.own a)) a (.ins (C.cls c) dx [])) := c2.perm (fun y m => by simp only [List.mem_append] at m ⊢; exact m.symm) (by
    rw [List.map_append, List.nodup_append] at nd ⊢
    exact ⟨nd.2.1, nd.1, fun u hu v hv e => nd.2.2 v hv u hu e.symm⟩)
  have pp : Dps C X.K G1 (.ref a :: (vs ++ dvs)) (.adr a :: (ds ++ dds)) := .cons (.adr a) (p1.append (hdd G1))
  refine ⟨by rw [pp.length, List.length_cons, List.length_append, q1.1, ← hl]; omega, G1, _, [(a, .ins c [])], _, _, c3.into, pp, q1.2 a, fun v d μ' G' H' c' p' ⟨ed, fs, eμ, q'⟩ => ?_, fun c' d μ' G' H' v dx' c4 e' p' q' => ?_⟩
  · subst ed
    subst eμ
    cases p'
    refine ⟨rfl, ?_⟩
    have c5 := c3.back c'
    have c6 : Con C X.K B (μ1 ++ [(a, .ins c fs)]) G' H' := c5.perm (fun y m => by simp only [List.mem_append] at m ⊢; exact m.symm) (by
      have nd := c5.nd
      rw [List.map_append, List.nodup_append] at nd ⊢
      exact ⟨nd.2.1, nd.1, fun u hu v hv e => nd.2.2 v hv u hu e.symm⟩)
    have ok := c6.cell a (.ins c fs) (by simp)
    cases ok with
    | ins h1 h2 =>
      obtain ⟨c7, e7⟩ := c6.freeze h1
      exact kk _ _ μ1 _ _ c7 ((e1.trans c'.old).trans e7) (.obj upd_same (h2.mono e7)) q'
  · have c5 := c3.back c4
    have c6 : Con C X.K B μ1 G' H' := c5.perm (fun y m => List.mem_append_right _ m) (by
      have nd := c5.nd
      rw [List.map_append, List.nodup_append] at nd
      exact nd.2.1)
    exact rr c' d μ1 G' H' v dx' c6 (e1.trans c4.old) e' p' q'

/-! ### fields are stored -/
def putD (i : Nat) (d : D) : List (Nat × D) → List (Nat × D)
  | [] => [(i, d)]
  | (j, x) :: r => if j = i then (j, d) :: r else (j, x) :: putD i d r
theorem Dfs.put {C : DC} {K : PySem.W.Frag} {G : Hp} {i : Nat} {v : V} {d : D} (q : Dp C K G v d) : ∀ {fs : List (PySem.Str × V)} {es : List (Nat × D)}, Dfs C K G fs es → Dfs C K G (putF (C.fld i) v fs) (putD i d es)
  | _, _, .nil => .cons q .nil
  | _, _, .cons (n := n) h hs => by
    unfold putF putD
    by_cases e : n = i
    · subst e
      rw [if_pos rfl, if_pos rfl]
      exact .cons q hs
    · rw [if_neg e, if_neg (fun z => e (C.inj _ _ z))]
      exact .cons h (Dfs.put q hs)
theorem Dfs.length {C : DC} {K : PySem.W.Frag} {G : Hp} : ∀ {fs : List (PySem.Str × V)} {es : List (Nat × D)}, Dfs C K G fs es → fs.length = es.length
  | _, _, .nil => rfl
  | _, _, .cons h hs => by simp [Dfs.length hs]
/-- o.f = e, o owned at μ[j] -/
def dSetF (cs : List Nat) (j i : Nat) (o v : DE) : DS := fun E δ μ => v δ μ (fun y μ1 => o δ μ1 (fun x μ2 => match x, μ2[j]? with
  | .adr p, some (q, .ins c es) => c ∈ cs ∧ p = q ∧ es.length < 1000 ∧ E.nx δ (μ2.set j (p, .ins c (putD i y es)))
  | _, _ => False) (E.ra δ)) (E.ra δ)
theorem s_fld (j i : Nat) {cs : List Nat} {m : PySem.Str} {pos' : Pos} (hi : C.fld i = m) (h : FldOk X.K C cs i) (ho : DPE X C W o do_) (hv : DPE X C W e de) (hs : swapsWith e (some (.Attribute o m pos')) pos.line X.env = pure false := by rfl) : DPS X C W (.Assign [.Attribute o m pos'] e pos) (dSetF cs j i do_ de) := by
  obtain ⟨to, o1, o2⟩ := ho
  obtain ⟨tv, v1, v2⟩ := hv
  subst hi
  refine ⟨_, ps_fld o1 v1 hs, fun B σ δ μ G H T E c s q k1 k2 k3 k4 k5 => v2 B σ δ μ G H _ _ _ c s q (wish_of s k5) fun y dy μ1 G1 H1 c1 e1 p1 q1 =>
    o2 B σ δ μ1 G1 H1 _ _ _ c1 (s.mono e1) q1 ((wish_of s k5).mono e1) fun x dx μ2 G2 H2 c2 e2 p2 q2 => ?_⟩
  split at q2
  · rename_i p q cc es hj
    obtain ⟨hcs, rfl, hl, q2⟩ := q2
    cases p2
    have ok := c2.cell _ _ (List.mem_of_getElem? hj)
    cases ok with
    | @ins dx _ fs _ h1 h2 =>
      refine ⟨p, _, dx, fs, rfl, h1, (h cc hcs).1, (h cc hcs).2, by rw [h2.length]; exact hl, ?_⟩
      exact k1 σ δ _ G2 _ (c2.write hj (.ins upd_same (h2.put (p1.mono e2)))) ((s.mono e1).mono e2) q2
  · exact q2.elim
end

/-! ### methods of built-in types -/
abbrev FM := D → List D → Mem → (D → Mem → Prop) → Prop
def tyD (T : String) (x : D) (μ : Mem) : Prop := match x with
  | .str _ => T = "str"
  | .int _ => T = "int"
  | .lst _ => T = "list"
  | .adr p => T = "list" ∧ ∃ (i : Nat) (ds : List D), μ[i]? = some (p, .lst ds)
  | _ => False
def dMt (T : String) (f : FM) (o : DE) (as : DA) : DE := fun δ μ Q R => o δ μ (fun x μ1 => tyD T x μ1 ∧ as δ μ1 (fun xs μ2 => f x xs μ2 Q) R) R
def MtD (X : Cx) (C : DC) (id : String) (f : FM) : Prop := ∃ r, MtM X id r ∧ ∀ B μ G H x xs dx dxs (Q : VK) (F : D → Mem → Prop), Con C X.K B μ G H → Dp C X.K G x dx → Dps C X.K G xs dxs → f dx dxs μ F →
  (∀ z dz μ' G' H', Con C X.K B μ' G' H' → Ex G G' → Dp C X.K G' z dz → F dz μ' → Q z H') → r x xs H Q
section
variable {X : Cx} {C : DC} {W : WX} {o e : Expr} {es : List Expr} {do_ : DE} {das : DA} {apos cpos : Pos} {T id : String} {f : FM} {name : PySem.Str}
theorem tyD.v {B : Bs} {μ : Mem} {G H : Hp} {x : D} {v : V} (c : Con C X.K B μ G H) (p : Dp C X.K G v x) (h : tyD T x μ) : tyV X.K T v H := by
  cases p with
  | int => exact h
  | str => exact h
  | lst h1 h2 => exact .inl ⟨h, _, .of (c.sub _ _ h1)⟩
  | adr a =>
    obtain ⟨hT, i, ds, hi⟩ := h
    have ok := c.cell _ _ (List.mem_of_getElem? hi)
    cases ok with
    | lst h1 h2 => exact .inl ⟨hT, _, .of h1⟩
  | _ => exact h.elim
theorem snd_mt {to : TE} {ta : TA} {r : V → List V → Hp → VK → Prop} (hr : ∀ B μ G H x xs dx dxs (Q : VK) (F : D → Mem → Prop), Con C X.K B μ G H → Dp C X.K G x dx → Dps C X.K G xs dxs → f dx dxs μ F →
  (∀ z dz μ' G' H', Con C X.K B μ' G' H' → Ex G G' → Dp C X.K G' z dz → F dz μ' → Q z H') → r x xs H Q) (o2 : SndE C X.K W to do_) (a2 : SndA C X.K W ta das) : SndE C X.K W (tBM X.K T r to ta) (dMt T f do_ das) :=
  fun B σ δ μ G H Q DQ_ R c s q rr k => o2 B σ δ μ G H _ _ R c s q rr fun x dx μ1 G1 H1 c1 e1 p1 q1 => ⟨q1.1.v c1 p1, a2 B σ δ μ1 G1 H1 _ _ R c1 (s.mono e1) q1.2 (rr.mono e1) fun vs ds μ2 G2 H2 c2 e2 p2 q2 =>
    hr B μ2 G2 H2 x vs dx ds Q _ c2 (p1.mono e2) p2 q2 fun z dz μ' G' H' c' e' p' q' => k z dz μ' G' H' c' ((e1.trans e2).trans e') p' q'⟩
theorem e_mt (pa : PySem.PlainAttrs T) (slot : Slot T name id) (hty : typeOf (.builtin id) = pure (.type "method_descriptor")) (hm : MtD X C id f) (ho : DPE X C W o do_) (ha : DPA X C W (e :: es) das) (hbase : attributeBase o name X.env (eval o X.env) = eval o X.env := by rfl)
    (hfew : ((backTo cpos (starEach (e :: es) X.env)).all (fun x => !x.1) && (backToKw cpos (keywordEach [] X.env)).all (fun x => x.1.isSome)
      && decide ((e :: es).length + ([] : List Keyword).length + (if ([] : List Keyword).isEmpty then 0 else 1) < 30)) = true := by rfl)
    (hline : (apos.endLine == cpos.line) = true := by rfl) (hs : starEach (e :: es) X.env = (false, eval e X.env) :: starEach es X.env := by rfl) (hplain : (backTo cpos (starEach es X.env)).any (·.1) = false := by rfl) :
    DPE X C W (.Call (.Attribute o name apos) (e :: es) [] cpos) (dMt T f do_ das) := by
  obtain ⟨r, m1, m2⟩ := hm
  obtain ⟨to, o1, o2⟩ := ho
  obtain ⟨ta, a1, a2⟩ := ha
  exact ⟨_, pe_bm pa slot hty m1 o1 a1 hbase hfew hline hs hplain, snd_mt m2 o2 a2⟩
/-- xs.append(e), xs owned at μ[j] -/
def fApp (j : Nat) : FM := fun x xs μ Q => match x, xs, μ[j]? with
  | .adr p, [d], some (q, .lst ds) => p = q ∧ ds.length < 16777216 ∧ Q .non (μ.set j (p, .lst (ds ++ [d])))
  | _, _, _ => False
theorem m_app (j : Nat) : MtD X C "list.append" (fApp j) := by
  refine ⟨_, mt_append, fun B μ G H x xs dx dxs Q F c px ps q k => ?_⟩
  unfold fApp at q
  split at q
  · rename_i p d q' ds e
    obtain ⟨rfl, hl, q⟩ := q
    cases px
    cases ps with
    | cons p1 p2 =>
      cases p2
      have ok := c.cell _ _ (List.mem_of_getElem? e)
      cases ok with
      | lst h1 h2 => exact ⟨_, _, _, rfl, rfl, h1, by rw [h2.length, sl16]; exact hl, k _ _ _ G _ (c.write e (.lst upd_same (h2.append (.cons p1 .nil)))) (Ex.refl G) .non q⟩
  · exact q.elim
theorem e_app (j : Nat) (ho : DPE X C W o do_) (ha : DPA X C W [e] das) (hbase : attributeBase o "append" X.env (eval o X.env) = eval o X.env := by rfl)
    (hfew : ((backTo cpos (starEach [e] X.env)).all (fun x => !x.1) && (backToKw cpos (keywordEach [] X.env)).all (fun x => x.1.isSome)
      && decide ([e].length + ([] : List Keyword).length + (if ([] : List Keyword).isEmpty then 0 else 1) < 30)) = true := by rfl)
    (hline : (apos.endLine == cpos.line) = true := by rfl) (hs : starEach [e] X.env = (false, eval e X.env) :: starEach [] X.env := by rfl) (hplain : (backTo cpos (starEach [] X.env)).any (·.1) = false := by rfl) :
    DPE X C W (.Call (.Attribute o "append" apos) [e] [] cpos) (dMt "list" (fApp j) do_ das) :=
  e_mt PySem.F.plainAttrs_list PySem.F.slot_list_append PySem.F.type_list_append (m_app j) ho ha hbase hfew hline hs hplain
mutual
def noLst : D → Bool
  | .lst _ => false
  | .fl _ => false
  | .tup ds => noLsts ds
  | .obj _ es => noLstf es
  | .exn _ _ _ d => noLst d
  | _ => true
def noLsts : List D → Bool
  | [] => true
  | d :: ds => noLst d && noLsts ds
def noLstf : List (Nat × D) → Bool
  | [] => true
  | (_, d) :: es => noLst d && noLstf es
end
mutual
theorem Dp.less {C : DC} {K : PySem.W.Frag} {G G2 : Hp} {p : Addr} {xs : List V} (hp : G p = some (.lst xs)) (h : ∀ a o, a ≠ p → G a = some o → G2 a = some o) : ∀ {v d}, Dp C K G v d → noLst d = true → Dp C K G2 v d
  | _, _, .non, _ => .non
  | _, _, .bl b, _ => .bl b
  | _, _, .int i, _ => .int i
  | _, _, .str s a b, _ => .str s a b
  | _, _, .lst _ _, n => by cases n
  | _, _, .fl _ _, n => by cases n
  | _, _, .tup (a := a) t hs, n => .tup (by
      rcases t with (q | ⟨o, q⟩) | q
      · exact .inl (.inl (h _ _ (fun z => by rw [z, hp] at q; cases q) q))
      · exact .inl (.inr ⟨o, h _ _ (fun z => by rw [z, hp] at q; cases q) q⟩)
      · exact .inr q) (Dps.less hp h hs n)
  | _, _, .obj q hs, n => .obj (h _ _ (fun z => by rw [z, hp] at q; cases q) q) (Dfs.less hp h hs n)
  | _, _, .adr a, _ => .adr a
  | _, _, .ty n, _ => .ty n
  | _, _, .cls c, _ => .cls c
  | _, _, .exn q hs, n => .exn (h _ _ (fun z => by rw [z, hp] at q; cases q) q) (Dp.less hp h hs n)
theorem Dps.less {C : DC} {K : PySem.W.Frag} {G G2 : Hp} {p : Addr} {xs : List V} (hp : G p = some (.lst xs)) (h : ∀ a o, a ≠ p → G a = some o → G2 a = some o) : ∀ {vs ds}, Dps C K G vs ds → noLsts ds = true → Dps C K G2 vs ds
  | _, _, .nil, _ => .nil
  | _, _, .cons q hs, n => by
    obtain ⟨n1, n2⟩ := Bool.and_eq_true_iff.mp (show (noLst _ && noLsts _) = true from n)
    exact .cons (Dp.less hp h q n1) (Dps.less hp h hs n2)
theorem Dfs.less {C : DC} {K : PySem.W.Frag} {G G2 : Hp} {p : Addr} {xs : List V} (hp : G p = some (.lst xs)) (h : ∀ a o, a ≠ p → G a = some o → G2 a = some o) : ∀ {fs es}, Dfs C K G fs es → noLstf es = true → Dfs C K G2 fs es
  | _, _, .nil, _ => .nil
  | _, _, .cons q hs, n => by
    obtain ⟨n1, n2⟩ := Bool.and_eq_true_iff.mp (show (noLst _ && noLstf _) = true from n)
    exact .cons (Dp.less hp h q n1) (Dfs.less hp h hs n2)
end
/-- an owned list lent as data while e is computed (e gives data without lists, changes nothing that is owned) -/
def dLend (i : Nat) (a : DE) : DE := fun δ μ Q R => ∃ (j : Nat) (p : Addr) (ds : List D), δ[i]? = some (some (.adr p)) ∧ μ[j]? = some (p, .lst ds) ∧ a (δ.set i (some (.lst ds))) [] (fun d _ => noLst d = true ∧ Q d μ) dNR
theorem e_lend (i : Nat) {de : DE} (h : DPE X C W e de) : DPE X C W e (dLend i de) := by
  obtain ⟨t, a1, a2⟩ := h
  refine ⟨t, a1, fun B σ δ μ G H Q DQ_ R c s q rr k => ?_⟩
  obtain ⟨j, p, ds, hi, hj, q⟩ := q
  have ok := c.cell _ _ (List.mem_of_getElem? hj)
  have hid := c.hid _ _ (List.mem_of_getElem? hj)
  cases ok with
  | @lst xs _ h1 h2 =>
    have eG : Ex G (upd G p (.lst xs)) := Ex.new hid
    have c0 : Con C X.K ⟨H, upd G p (.lst xs), []⟩ [] (upd G p (.lst xs)) H := ⟨fun _ _ _ e => e, fun _ n => n, fun a u e => by
      by_cases z : a = p
      · rw [z, upd_same] at e; rw [z]; cases e; exact h1
      · rw [upd_ne z] at e; exact c.sub a u e, Ex.refl _, fun _ _ _ z => z, fun _ _ m => (by simp at m), fun _ _ m => (by simp at m), fun _ _ m => (by simp at m), List.nodup_nil⟩
    obtain ⟨v, hv, pv⟩ := s.get hi
    have hv' : v = .ref p := by cases pv; rfl
    subst hv'
    have s2 : Sl C X.K (upd G p (.lst xs)) σ (δ.set i (some (.lst ds))) := by
      have := (s.mono eG).set (v := .ref p) (d := .lst ds) (.lst upd_same (h2.mono eG)) i
      have e : σ.set i (some (.ref p)) = σ := by
        apply List.ext_getElem?
        intro k
        rw [List.getElem?_set]
        split
        · rename_i z; subst z
          rw [hv]
          have hlt := (List.getElem?_eq_some_iff.mp hv).1
          simp [hlt]
        · rfl
      rw [e] at this
      exact this
    refine a2 _ σ _ [] _ H _ _ dNR c0 s2 q Rs.never fun v d μ' G' H' c' e' p' ⟨fl, q'⟩ => ?_
    -- the data without p
    let G2 : Hp := fun a => if a = p then none else G' a
    have g2 : ∀ {a o}, G2 a = some o → a ≠ p ∧ G' a = some o := fun {a o} e => by
      by_cases z : a = p
      · simp [G2, z] at e
      · simp [G2, z] at e; exact ⟨z, e⟩
    have e2 : Ex G G2 := fun a o e => by
      have z : a ≠ p := fun z => by rw [z, hid] at e; cases e
      show (if a = p then none else G' a) = some o
      rw [if_neg z]
      exact e' a o (eG a o e)
    have cc : Con C X.K B μ G2 H' := by
      refine ⟨fun a o n e => c'.keep a o (by simp) (c.keep a o n e), fun a n => c'.ever a (c.ever a n), fun a o e => c'.sub a o (g2 e).2, c.old.trans e2, fun a nm n z => ?_, fun q o m => (c.cell q o m).mono e2 fun u e => c'.keep q u (by simp) e, fun q o m => ?_, c.mine, c.nd⟩
      · show (if a = p then none else G' a) = none
        by_cases y : a = p
        · rw [if_pos y]
        · rw [if_neg y]
          exact c'.fresh a (by simp) (c.ever a n) (by show upd G p _ a = none; rw [upd_ne y]; exact c.fresh a nm n z)
      · show (if q = p then none else G' q) = none
        by_cases y : q = p
        · rw [if_pos y]
        · rw [if_neg y]
          exact c'.fresh q (by simp) (c.cell q o m).there (by show upd G p _ q = none; rw [upd_ne y]; exact c.hid q o m)
    have pd : Dp C X.K G2 v d := Dp.less (p := p) (xs := xs) (e' p _ upd_same) (fun a o z e => by show (if a = p then none else G' a) = some o; rw [if_neg z]; exact e) p' fl
    exact k v d μ G2 H' cc e2 pd q'
end
end DL

namespace DL
open PySem PySem.Spec PyProof.Rows L2

/-! ### an error class over ValueError whose __init__ is: self.value = value; super().__init__(repr(value)) -/
abbrev geBody (p1 p2 p3 p4 q1 q2 q3 q4 q5 q6 q7 q8 : Pos) : List Stmt := [.Assign [.Attribute (.Name "self" p1) "value" p2] (.Name "value" p3) p4,
  .Expr (.Call (.Attribute (.Call (.Name "super" q1) [] [] q2) "__init__" q3) [.Call (.Name "repr" q4) [.Name "value" q5] [] q6] [] q7) q8]
/-- the classes' part -/
structure GeC (K : PySem.W.Frag) (D C : Addr) : Prop where
  oex : OexC K C
  no : PySem.W.findIn K (.ref C) "value" = some none
  mro : PySem.W.mroIn K C (.ref D) = some true
  sub : PySem.W.subIn K (.ref C) (.type "ValueError") = some true
  sup : PySem.W.ks_superIn K C D "__init__" = some (some (.builtin "ValueError.__init__"))
/-- what repr takes -/
def repV (v : V) : Prop := match v with
  | .int i => i.natAbs.log2 < 1920
  | .str x => (reprText x).length ≤ sizeLine
  | .bl _ | .non => True
  | _ => False
def spGE (K : PySem.W.Frag) (D : Addr) : Sp := fun vs H Q _ => ∃ (a C : Addr) (v : V), vs = [.ref a, v] ∧ GeC K D C ∧ H a = some (exo a C none) ∧ repV v ∧ ∀ dx, H dx = none → dx ≠ a → Q .non (upd (upd H dx (exd dx [("value", v)])) a (exo a C (some dx)))
/-- the def's part -/
structure GeF (P : Program) (K : PySem.W.Frag) (mg : PySem.Str → Option Value) (D fI : Addr) (fd : FuncData) : Prop where
  ex : ∃ (qual : PySem.Str) (pa1 pa2 : Pos) (scope : Scope) (dV kV doc pm ct oc ccl cl : Value) (an od cdd cld : Option Addr) (osl ccs csl : Array (Option Value)) (cda cc : Addr) (vs : Array Value) (file : PySem.Str) (tf : Tok) (cdD : ClassData) (p1 p2 p3 p4 q1 q2 q3 q4 q5 q6 q7 q8 : Pos),
    fd = PySem.W.ksFn "__init__" qual ⟨[], [⟨"self", none, pa1⟩, ⟨"value", none, pa2⟩], none, [], [], none, []⟩ (geBody p1 p2 p3 p4 q1 q2 q3 q4 q5 q6 q7 q8) scope dV kV doc pm an (.ref cda) ct cc ∧
    K.lookup fI = some ⟨oc, od, .func fd, osl⟩ ∧ PySem.W.codeIn K (.ref cda) qual = true ∧ K.lookup cda = some ⟨ccl, cdd, .fields vs, ccs⟩ ∧ vs[2]? = some (.str file tf) ∧ ((P.main.file : PySem.Str) == file) = true ∧
    K.lookup cc = some ⟨cl, cld, .cell (some (.ref D)), csl⟩ ∧ PySem.W.clsIn K D = some cdD ∧
    scope = ⟨.function, [("self", .local), ("value", .local), ("__class__", .free), ("super", .globalImplicit), ("repr", .globalImplicit)], false, false, []⟩ ∧
    ∀ env, ∃ pl, eval (.Call (.Attribute (.Call (.Name "super" q1) [] [] q2) "__init__" q3) [.Call (.Name "repr" q4) [.Name "value" q5] [] q6] [] q7) env = (do
      let ov ← attributeBase (.Call (.Name "super" q1) [] [] q2) "__init__" env (eval (.Call (.Name "super" q1) [] [] q2) env)
      standAt q3.atName
      let (f, first) ← holding [ov] (getMethod ov "__init__" pl)
      callWith q7 f first (backTo q7 (starEach [.Call (.Name "repr" q4) [.Name "value" q5] [] q6] env)) [])
  msup : mg "super" = none
  mrep : mg "repr" = none
  top : (P.main.scope.names.lookup ("super" : PySem.Str)).isSome = false
  third : PySem.W.nsIn K cStatics "thirdparty.any" = some none
theorem ge_init {P : Program} {w : World} {K : PySem.W.Frag} {mg : PySem.Str → Option Value} {base : Heap} {D fI : Addr} {fd : FuncData} {CX : CXT} (F : GeF P K mg D fI fd) : FnOk P w K mg base CX 1 fI fd ["self", "value"] (spGE K D) := by
  obtain ⟨⟨qual, pa1, pa2, scope, dV, kV, doc, pm, ct, oc, ccl, cl, an, od, cdd, cld, osl, ccs, csl, cda, cc, vs0, file, tf, cdD, p1, p2, p3, p4, q1, q2, q3, q4, q5, q6, q7, q8, hfd, lk, hcd, hcode, hvs, hfile, hcell, hD, hsc, hev⟩, msup, mrep, top, third⟩ := F
  refine ⟨fun vs H Q E ⟨a, C, v, e, _⟩ => by rw [e]; rfl, fun A outer s H args us vs Q E hr e0 hb r hsp => ?_⟩
  obtain ⟨a, C, v, rfl, T, ea, hrep, hq⟩ := hsp
  cases r with
  | cons ra r =>
  cases r with
  | cons rv r =>
  cases r
  rename_i u0 u
  obtain rfl : u0 = Value.ref a := ra
  have KX : K.In s.heap := e0.mod.kin.keeps fun b o e => (e0.bs b o e).1
  have lim : s.heap.NoLimit := e0.mod.nolimit.keeps fun b o e => (e0.bs b o e).1
  obtain ⟨nm, q, N, bs, bm, sn, sub, ab, col, dd, k0, k1, k2, k3, k5, hC, hbm⟩ := T.oex.cls
  have hcl : PySem.W.clsIn K C = some { name := nm, bases := bs, mro := .ref C :: bm, ns := N, qualname := q, hasDict := true, slotNames := sn, subclasses := sub, abstract := ab, collection := col, hasDel := false } := by unfold PySem.W.clsIn; rw [hC] <;> rfl
  obtain ⟨t1, ho⟩ := exo_at e0.hok ea
  obtain ⟨hp, g, d, t, os⟩ := s
  subst hfd
  subst hsc
  refine PySem.ks_codeAny_call_defAt hr.depth (KX _ _ lk) rfl lim (PySem.W.codeRec_of KX hcd) rfl hb
    (show ∀ x ∈ ([("self", .local), ("value", .local), ("__class__", .free), ("super", .globalImplicit), ("repr", .globalImplicit)] : List (PySem.Str × NameKind)), x.2 ≠ .cell by decide)
    (fun x hx => by
      have hx : x = ((("self" : PySem.Str)), Value.ref a) ∨ x = ((("value" : PySem.Str)), u) := by simpa using hx
      rcases hx with rfl | rfl <;> rfl) (fun h₀ hns hk => ?_) rfl rfl rfl
  have hk : ∀ b o, hp.get? b = some o → h₀.get? b = some o := hk
  have K0 : K.In h₀ := KX.keeps hk
  have ho0 := hk _ _ ho
  -- self.value = value
  refine PySem.ks_wpAt_execs_cons (PySem.ks_wpAt_Assign_Attr (PySem.wpAt_of_wpAny (wpAny_Name (wpAny_loadName_local (v := u) rfl rfl hns rfl (wpAny_Name (wpAny_loadName_local (v := .ref a) rfl rfl hns rfl ?_))))) rfl)
  refine PySem.W.set_plain K0 (ox := { cls := .ref C, dict := none, data := .fields #[.ref t1, .none, .none, .none, .bool false, .none] }) (od := none) ⟨ho0, rfl, rfl, trivial⟩ T.oex.sa ?_
  refine PySem.HandSPX.exc_osa K0 ho0 hcl (show PySem.HandSPX.refsVE (.ref C :: bm) = true from hbm) rfl T.no (fun h1 tk1 dx k1 dn dne hx1 hn1 => ?_)
  have ka : ∀ {b o}, h₀.get? b = some o → b ≠ a → h1.get? b = some o := fun e n => k1 _ _ n e
  have na : ∀ {b : Addr}, H b = none → b ≠ a := fun {b} n z => by
    rw [z, ea] at n
    cases n
  have kb : ∀ b o, base.get? b = some o → h1.get? b = some o := fun b o e => ka (hk _ _ (e0.bs b o e).1) (na (e0.bs b o e).2)
  have K1 : K.In h1 := e0.mod.kin.keeps kb
  have ltL : a < hp.objs.size := Heap.lt_size ho
  have nsk : ∀ {h' : Heap}, (∀ b o, b ≠ a → h₀.get? b = some o → h'.get? b = some o) → h'.Ns hp.objs.size (fun x => List.lookup x ((["self", "value"] : List PySem.Str).zip [Value.ref a, u]).reverse) := fun k => by
    obtain ⟨oL, es, ep, hL, rr⟩ := hns
    exact ⟨oL, es, ep, k _ _ (Nat.ne_of_gt ltL) hL, rr⟩
  have hns1 := nsk k1
  -- super().__init__(repr(value))
  obtain ⟨oD, hD1, hD2⟩ : ∃ oD, h1.get? D = some oD ∧ oD.data = .cls cdD := by
    unfold PySem.W.clsIn at hD
    split at hD
    · rename_i c d cd' sl ho
      cases hD
      exact ⟨_, K1 _ _ ho, rfl⟩
    · cases hD
  obtain ⟨mb, hmb, hmbv⟩ := e0.mod.blt
  refine PySem.ks_wpAt_execs_cons (PySem.ks_wpAt_Expr_any ?_ rfl ?_)
  rotate_left
  · rfl
  obtain ⟨pl, hev⟩ := hev (callEnv (PySem.W.ksFn "__init__" qual ⟨[], [⟨"self", none, pa1⟩, ⟨"value", none, pa2⟩], none, [], [], none, []⟩ (geBody p1 p2 p3 p4 q1 q2 q3 q4 q5 q6 q7 q8)
      ⟨.function, [("self", .local), ("value", .local), ("__class__", .free), ("super", .globalImplicit), ("repr", .globalImplicit)], false, false, []⟩ dV kV doc pm an (.ref cda) ct cc) hp.objs.size fI)
  refine PySem.ks_wpAt_MethodCall ?h hev
  case h =>
    refine PySem.ks_wpAt_super_base (fd := PySem.W.ksFn "__init__" qual ⟨[], [⟨"self", none, pa1⟩, ⟨"value", none, pa2⟩], none, [], [], none, []⟩ (geBody p1 p2 p3 p4 q1 q2 q3 q4 q5 q6 q7 q8)
        ⟨.function, [("self", .local), ("value", .local), ("__class__", .free), ("super", .globalImplicit), ("repr", .globalImplicit)], false, false, []⟩ dV kV doc pm an (.ref cda) ct cc) rfl rfl (by decide) rfl (K1 _ _ lk) rfl rfl rfl (K1 _ _ hcode) rfl hvs hfile top ?_
    refine PySem.W.ks_loadName_global rfl rfl (PySem.Calls.loadGlobal_builtin (e0.mod.glob.keeps kb) msup (hmb.keeps kb) ((hmbv "super" (by decide)).trans (by decide +kernel)) ⟨rfl, ?_⟩)
    refine wpAny_loadName_free rfl rfl rfl ⟨_, K1 _ _ hcell, rfl⟩ ?_
    refine wpAny_loadName_local rfl rfl hns1 rfl ?_
    refine PySem.ks_wpAny_isType_cls hD1 hD2 ⟨rfl, ?_⟩
    refine PySem.ks_wpAny_call_super hD1 hD2 hx1 rfl (fun c e => by cases e) (PySem.W.looks_mroIn K1 T.mro) (fun h2 eso k2 => ?_)
    have k2 : ∀ y o, h1.get? y = some o → h2.get? y = some o := k2
    have kb2 : ∀ b o, base.get? b = some o → h2.get? b = some o := fun b o e => k2 _ _ (kb _ _ e)
    have K2 : K.In h2 := K1.keeps k2
    obtain ⟨oX, esX, epX, hoX, _⟩ := id hn1
    have hI : PySem.W.Looks (model P w) h2 (isInstance (.ref a) (.type "ValueError")) true :=
      PySem.W.Looks.andThen (PySem.W.InstAt.type (od := some oX) (ox := { cls := .ref C, dict := some dx, data := .fields #[.ref t1, .none, .none, .none, .bool false, .none] }) (C := C) ⟨k2 _ _ hx1, rfl, rfl, k2 _ _ hoX⟩) (PySem.W.looks_subIn K2 T.sub)
    have hm := T.sup
    unfold PySem.W.ks_superIn at hm
    rw [hcl] at hm
    refine PySem.W.kxs_getMethod PySem.W.kxs_ValueError eso (PySem.W.looks_opaque K2 third) (l₀ := Value.ref C :: bm) (fun A Q E s k q => wpAny_bind ((PySem.W.looks_clsIn K2 hcl) A _ E s k (wpAny_pure q))) rfl K2 hm hI ?_ (by decide) ?_
    · intro z
      have := K0 _ _ hC
      rw [← z, ho0] at this
      cases this
    have k3 : ∀ y o, h2.get? y = some o → (h2.push (PySem.W.kxs_mw "ValueError.__init__" a)).get? y = some o := fun y o e => Heap.get?_push_of_some _ e
    have hu3 : (h2.push (PySem.W.kxs_mw "ValueError.__init__" a)).get? h2.objs.size = some (PySem.W.kxs_mw "ValueError.__init__" a) := Heap.get?_push_at rfl rfl
    have ns3 : (h2.push (PySem.W.kxs_mw "ValueError.__init__" a)).Ns hp.objs.size _ := nsk fun b o n e => k3 _ _ (k2 _ _ (k1 _ _ n e))
    have kb3 : ∀ b o, base.get? b = some o → (h2.push (PySem.W.kxs_mw "ValueError.__init__" a)).get? b = some o := fun b o e => k3 _ _ (kb2 _ _ e)
    refine PySem.W.kxs_callWith (i := "ValueError.__init__") (x := a) (by rfl) (PySem.Calls.evalArgs_plain ?_)
    refine PySem.Calls.spliced_cons ?_
    refine wpAny_Call_Name_kw ?_
    have glob3 := e0.mod.glob.keeps kb3
    refine PySem.Calls.Name_function_global rfl rfl (PySem.Calls.loadGlobal_builtin glob3 mrep (hmb.keeps kb3) ((hmbv "repr" (by decide)).trans (show bootBuiltins ("repr" : PySem.Str) = some (.builtin "repr") by decide +kernel)) ?_) (by decide)
    refine PyProof.Rows.callWith_builtin1 ?_ rfl rfl
    refine PySem.Calls.spliced_cons (wpAny_Name (wpAny_loadName_local (v := u) rfl rfl ns3 rfl (PySem.Calls.spliced_nil ?_)))
    have rep : ∀ {s0 : Shared} {Q0 : Value → Shared → Prop} {E0 : Value → Shared → Prop} {A0 : Around}, (∀ w0, Q0 w0 { s0 with toks := s0.toks + 1 }) → wpAny (model P w) A0 (call (.builtin "repr") [u]) Q0 E0 s0 := fun {s0 Q0 E0 A0} h0 => by
      cases v with
      | non => cases (show u = Value.none from rv); exact PySem.P.repr_of_none (h0 _)
      | bl b => cases (show u = Value.bool b from rv); exact PySem.P.repr_of_bool (h0 _)
      | int n => obtain ⟨tk, rfl⟩ := (show ∃ t, u = Value.int n t from rv); exact PySem.P.repr_of_int hrep (h0 _)
      | str x => obtain ⟨tk, rfl⟩ := (show ∃ t, u = Value.str x t from rv); exact PySem.P.repr_of_str (h0 _) hrep
      | _ => exact hrep.elim
    refine rep fun w0 => PySem.Calls.spliced_nil ⟨hu3, ?_⟩
    have C3 : (h2.push (PySem.W.kxs_mw "ValueError.__init__" a)).get? C = _ := k3 _ _ (K2 _ _ hC)
    have ha3 : (h2.push (PySem.W.kxs_mw "ValueError.__init__" a)).get? a = some (PySem.W.excRec (.ref C) t1 (some dx) .none .none (.bool false)) := k3 _ _ (k2 _ _ hx1)
    refine wpAny_call (codeAny_of_tree ?_)
    show wpAny _ _ (callAny (.ref h2.objs.size) ⟨[w0], []⟩) _ _ _
    simp only [callAny]
    refine wpAny_bind (wpAny_load hu3 ?_)
    simp only [PySem.W.kxs_mw, show (Value.type "method-wrapper" == Value.type "method" || Value.type "method-wrapper" == Value.type "builtin_function_or_method" || Value.type "method-wrapper" == Value.type "method-wrapper") = true by decide, if_true]
    refine PySem.W.KFB.if_so (by decide) ?_
    refine wpAny_bind (PySem.W.check_bound_init F.excBase_ValueError.toExcCallFacts C3 ha3 rfl ?_)
    refine wpAny_bind (wpAny_pure (wpAny_pure ?_))
    refine ⟨plainId_quiet F.excBase_ValueError.init.plain _, codeAny_builtin F.excBase_ValueError.initEntry ?_⟩
    refine PySem.W.exc_init_tree (cls := .ref C) (t0 := t1) (dv := some dx) (c2 := .none) (c3 := .none) (b4 := .bool false) ha3 (by simp [sizeLine_eq]) fun h4 k4 ha4 _ => ?_
    -- the end
    have k5 : ∀ b o, b ≠ a → hp.get? b = some o → h4.get? b = some o := fun b o n e => k4 _ _ n (k3 _ _ (k2 _ _ (k1 _ _ n (hk _ _ e))))
    have hlt : hp.objs.size ≤ dx := by
      obtain ⟨oL, es, ep, hL, _⟩ := id hns
      exact Nat.le_trans (Nat.le_of_lt (Heap.lt_size hL)) dn
    have hnd : H dx = none := e0.hok.fresh hlt
    have nd : ∀ {b : Addr} {o : Obj}, hp.get? b = some o → b ≠ dx := fun {b o} q => Nat.ne_of_lt (Nat.lt_of_lt_of_le (Heap.lt_size q) hlt)
    have hn4 : h4.Ns1 dx (fun y => if y = ("value" : PySem.Str) then some u else none) := hn1.at fun o e => k4 _ _ dne (k3 _ _ (k2 _ _ e))
    have Un1 : Un (frs outer) [] H (upd (upd H dx (exd dx [("value", v)])) a (exo a C (some dx))) hp h4 := {
      keep := fun b o q n _ _ => k5 b o (na n) q
      slot := fun b o q n _ _ => ⟨o.slots, k5 b o (na n) q⟩
      free := fun b o q n _ => by rw [upd_ne (na n), upd_ne (nd q)]; exact n
      there := fun b o q _ => by
        by_cases hb : b = a
        · exact ⟨_, by rw [hb]; exact ha4⟩
        · exact ⟨o, k5 b o hb q⟩
      tups := fun b xs q => by rw [upd_ne (at_ne ea q exo_tup), upd_ne (ne_of_none q hnd)]; exact q
      frzs := fun b o v q => by rw [upd_ne (at_ne ea q exo_frz), upd_ne (ne_of_none q hnd)]; exact q
      tbls := fun b ps q => ⟨#[], by rw [upd_ne (at_ne ea q exo_tbl), upd_ne (ne_of_none q hnd), q]; simp⟩ }
    refine PySem.wpAt_of_wpAny (wpAny_execs_nil ⟨.non, _, rfl, e0.bare, Un1, fun b o q => ?_, rfl, hq dx hnd dne⟩)
    by_cases hb : b = a
    · subst hb
      rw [upd_same] at q
      cases q
      exact exo_ok ha4
    · rw [upd_ne hb] at q
      by_cases hd : b = dx
      · subst hd
        rw [upd_same] at q
        cases q
        exact exd_ok hn4 (relO_put (fs := []) rv fun g => True.intro)
      · rw [upd_ne hd] at q
        exact (e0.hok b o q).stay (fun c v hc z => k5 c v (by
            rcases hc with hc | hc
            · rw [hc]
              exact hb
            · exact at_ne ea hc exo_own) z)
          (fun c hc => by rw [upd_ne (at_ne ea hc exo_own), upd_ne (ne_of_none hc hnd)]; exact hc) (fun c xs hc => by rw [upd_ne (at_ne ea hc exo_tup), upd_ne (ne_of_none hc hnd)]; exact hc)
end DL

namespace DL
open PySem PySem.Spec PyProof.Rows L2

/-! ### raise -/
def EDa (P : Program) (w : World) (K : PySem.W.Frag) (mg : PySem.Str → Option Value) (base : Heap) (C : DC) (D : Addr) (x : PySem.Str) (c : Nat) : Prop :=
  mg x = some (.ref (C.cls c)) ∧ GeC K D (C.cls c) ∧ C.fld 0 = "value" ∧ ∃ fI fd, PySem.W.findIn K (.ref (C.cls c)) "__init__" = some (some (.ref fI)) ∧ PySem.W.typeIn K (.ref fI) = some (.type "function") ∧
    FnOk P w K mg base (L2.CX P w) 1 fI fd ["self", "value"] (spGE K D) ∧ Binds K fd ["self", "value"] []
def repOk (d : D) : Prop := match d with
  | .int i => i.natAbs.log2 < 1920
  | .str s => s.length ≤ 100000
  | .bl _ | .non => True
  | _ => False
def dRaise (c : Nat) (as : DA) : DS := fun E δ μ => as δ μ (fun xs μ1 => match xs with
  | [d] => repOk d ∧ E.ra δ c d μ1
  | _ => False) (E.ra δ)
theorem passF {X : Cx} : Passes (L2.CX X.prog X.w) X (fun _ _ _ => False) := fun _ _ _ _ _ _ _ h => by
  obtain ⟨_, _, _, _, _, _, _, _, _, _, _, _, z⟩ := h
  exact z.elim
theorem repr_len {s : SS} (h : s.length ≤ 100000) (k : okS s) : (reprText (mk s)).length ≤ sizeLine := by
  have h1 := StrLaws.reprText_len (mk s) (fun c hc => by
    rw [mk_tl] at hc
    unfold okS at k
    rw [List.all_eq_true] at k
    have := k c hc
    have e : (16 : Nat) ^ 8 = 4294967296 := by decide
    have : c < 1114112 := by simpa using this
    omega)
  rw [mk_len] at h1
  rw [sl16]
  omega
theorem repOk.v {C : DC} {K : PySem.W.Frag} {G : Hp} {v : V} {d : D} (p : Dp C K G v d) (h : repOk d) : repV v := by
  cases p with
  | non => trivial
  | bl => trivial
  | int => exact h
  | str s h1 h2 => exact repr_len h h2
  | _ => exact h.elim
section
variable {X : Cx} {C : DC} {W : WX} {x : PySem.Str} {p pos pos' : Pos} {e o : Expr} {es : List Expr} {das : DA} {do_ : DE}
theorem s_raise {c : Nat} {D : Addr} (hc : X.calm = true) (h : EDa X.prog X.w X.K X.mg X.base C D x c) (hr : Room 2 X.A) (tk : Takes X W) (ha : DPA X C W (e :: es) das) (hg : Gl X x := by rfl) (hdb : (x == ("__debug__" : PySem.Str)) = false := by decide)
    (he : starEach (e :: es) X.env = (false, eval e X.env) :: starEach es X.env := by rfl) (hpl : (backTo pos (starEach es X.env)).any (·.1) = false := by rfl) : DPS X C W (.Raise (some (.Call (.Name x p) (e :: es) [] pos)) none pos') (dRaise c das) := by
  obtain ⟨hm, T, hf, fI, fd, iC, tI, F1, hb⟩ := h
  obtain ⟨ta, a1, a2⟩ := ha
  refine ⟨_, L2.ps_raise hc tk (pmk_oex T.oex iC tI F1 hr hb .nil passF hg hm a1 hdb he hpl), fun B σ δ μ G H T' E cc s q k1 k2 k3 k4 k5 => a2 B σ δ μ G H _ _ _ cc s q (wish_of s k5) fun vs ds μ1 G1 H1 c1 e1 p1 q1 => ?_⟩
  split at q1
  · rename_i d
    obtain ⟨rp, q1⟩ := q1
    cases p1 with
    | cons pv pn =>
      cases pn
      rename_i v
      refine ⟨by simp, fun a na => ⟨a, C.cls c, v, rfl, T, upd_same, rp.v pv, fun dx ndx ne => ⟨rfl, dx, _, upd_same, by rw [upd_ne ne, upd_same], by rw [upd_ne ne] at ndx; exact ndx, ?_⟩⟩⟩
      rw [upd_ne ne] at ndx
      have e : upd (del (upd (upd (upd H1 a (exo a (C.cls c) none)) dx (exd dx [("value", v)])) a (exo a (C.cls c) (some dx))) a) dx (.xd [("value", v)]) = upd H1 dx (.xd [("value", v)]) := by
        funext b
        by_cases h1 : b = dx
        · rw [h1, upd_same, upd_same]
        · rw [upd_ne h1, upd_ne h1]
          by_cases h2 : b = a
          · rw [h2, del_same, na]
          · rw [del_ne h2, upd_ne h2, upd_ne h1, upd_ne h2]
      rw [e]
      have e2 := Ex.new (o := .xd [("value", v)]) (c1.sub.free ndx)
      exact k5 σ δ c d μ1 _ _ v dx (c1.data ndx) (s.mono (e1.trans e2)) (by rw [upd_same, hf]) (pv.mono e2) q1
  · exact q1.elim

/-! ### try: body, except X as n: suite -/
def canS (C : DC) (K : PySem.W.Frag) (W : WX) (ds : DS) : TS := fun T σ H => ∃ B δ μ G E, Con C K B μ G H ∧ Sl C K G σ δ ∧ ds E δ μ ∧
  (∀ σ' δ' μ' G' H', Con C K B μ' G' H' → Sl C K G' σ' δ' → E.nx δ' μ' → T.nx σ' H') ∧ (∀ v d μ' G' H', Con C K B μ' G' H' → Dp C K G' v d → E.rt d μ' → T.rt v H') ∧
  (∀ σ' δ' μ' G' H', Con C K B μ' G' H' → Sl C K G' σ' δ' → E.bk δ' μ' → T.bk σ' H') ∧ (∀ σ' δ' μ' G' H', Con C K B μ' G' H' → Sl C K G' σ' δ' → E.ct δ' μ' → T.ct σ' H') ∧
  (∀ σ' δ' c d μ' G' H' v dx, Con C K B μ' G' H' → Sl C K G' σ' δ' → G' dx = some (.xd [(C.fld 0, v)]) → Dp C K G' v d → E.ra δ' c d μ' → W (.ref (C.cls c)) (some dx) σ' H')
theorem can_sndS {K : PySem.W.Frag} {ds : DS} : SndS C K W (canS C K W ds) ds := fun B σ δ μ G H T E c s q k1 k2 k3 k4 k5 => ⟨B, δ, μ, G, E, c, s, q, k1, k2, k3, k4, k5⟩
theorem DPSs.can {st : List Stmt} {ds : DS} (h : DPSs X C W st ds) : PSs X st (canS C X.K W ds) := by
  obtain ⟨t, p, s⟩ := h
  refine ⟨fun pins st σ H T I hw => p.run pins st σ H T I ?_⟩
  obtain ⟨B, δ, μ, G, E, c, sl, q, k1, k2, k3, k4, k5⟩ := hw
  exact s B σ δ μ G H T E c sl q k1 k2 k3 k4 k5
theorem Sl.unset {K : PySem.W.Frag} {G : Hp} {σ : L2.St} {δ : Dl} (h : Sl C K G σ δ) (i : Nat) : Sl C K G (σ.set i none) (δ.set i none) := by
  induction h generalizing i with
  | nil => exact .nil
  | no r ih => cases i with
    | zero => exact .no r
    | succ i => exact .no (ih i)
  | yes r s ih => cases i with
    | zero => exact .no s
    | succ i => exact .yes r (ih i)
def hush (E : DEnds) (i : Nat) : DEnds := { nx := fun δ μ => E.nx (δ.set i none) μ, rt := E.rt, bk := fun δ μ => E.bk (δ.set i none) μ, ct := fun δ μ => E.ct (δ.set i none) μ, ra := fun _ => dNR }
/-- is: does the clause name the class -/
def dTry (i : Nat) (is : Nat → Option Bool) (b : DS) (su : Addr → Nat → Addr → DS) : DS := fun E δ μ => b { E with ra := fun δ' c d μ' => match is c with
  | some true => ∀ a dx : Addr, su a c dx (hush E i) (δ'.set i (some (.exn a dx c d))) μ'
  | some false => E.ra δ' c d μ'
  | none => False } δ μ
theorem s_try (i : Nat) {x n : PySem.Str} {cv : Value} {body suite : List Stmt} {b₀ : Stmt} {np pos pos' : Pos} {is : Nat → Option Bool} {db : DS} {su : Addr → Nat → Addr → DS} (hs : X.stack = X.env :: X.outer) (hf : X.env.frame = some X.env.locals) (hN : X.N.Nodup) (hi : X.N[i]? = some n) (hln : X.env.kindOf n = some .local) (hc : Names X x cv) (tk : Takes X W)
    (hex : ∀ c b, is c = some b → PySem.W.exmOne X.K (.ref (C.cls c)) cv = some b)
    (hb : ∀ (W' : WX) (pn : List (Addr × Obj)) (xe : Value → Shared → Prop), Takes (X.tr pn xe) W' → PassesOwn (model X.prog X.w) X.A X.env xe → DPSs (X.tr pn xe) C W' body db)
    (hsu : ∀ (a : Addr) (oe : Obj) (c : Nat) (dx : Addr) (pn : List (Addr × Obj)), is c = some true → Zc (.ref (C.cls c)) (some dx) oe → (∃ vs, oe.data = .fields vs) → DPSs (X.suite a ((a, oe) :: pn)) C noW (b₀ :: suite) (su a c dx)) :
    DPS X C W (.Try body [.ExceptHandler (some (.Name x np)) (some n) (b₀ :: suite) pos'] [] [] pos) (dTry i is db su) := by
  refine ⟨_, L2.ps_try_as hs hf hN hi hln hc tk (tb := fun W' => canS C X.K W' db) (ts := fun a cls d T σ H => ∃ c dx, is c = some true ∧ cls = .ref (C.cls c) ∧ d = some dx ∧ canS C X.K noW (su a c dx) T σ H) (fun W' pn xe t1 t2 => (hb W' pn xe t1 t2).can) (fun a oe cls d pn hz hfl => ⟨fun pins s σ H T I hw => ?_⟩), ?_⟩
  · obtain ⟨c, dx, his, rfl, rfl, hw⟩ := hw
    exact (hsu a oe c dx pn his hz hfl).can.run pins s σ H T I hw
  · intro B σ δ μ G H T E cc s q k1 k2 k3 k4 k5
    refine can_sndS B σ δ μ G H T _ cc s q k1 k2 k3 k4 fun σ' δ' c d μ' G' H' v dx c' s' e' p' q' => ?_
    have q' : match is c with
      | some true => ∀ a dx : Addr, su a c dx (hush E i) (δ'.set i (some (.exn a dx c d))) μ'
      | some false => E.ra δ' c d μ'
      | none => False := q'
    split at q'
    · rename_i h
      refine ⟨true, hex c _ h, fun _ a na => ⟨c, dx, h, rfl, rfl, B, _, μ', G', _, c', s'.set (.exn e' p') i, q' a dx, ?_, ?_, ?_, ?_, ?_⟩, fun z => Bool.noConfusion z⟩
      · exact fun σ2 δ2 μ2 G2 H2 c2 s2 q2 => k1 _ _ μ2 G2 H2 c2 (s2.unset i) q2
      · exact fun v2 d2 μ2 G2 H2 c2 p2 q2 => k2 v2 d2 μ2 G2 H2 c2 p2 q2
      · exact fun σ2 δ2 μ2 G2 H2 c2 s2 q2 => k3 _ _ μ2 G2 H2 c2 (s2.unset i) q2
      · exact fun σ2 δ2 μ2 G2 H2 c2 s2 q2 => k4 _ _ μ2 G2 H2 c2 (s2.unset i) q2
      · exact fun _ _ _ _ _ _ _ _ _ _ _ _ _ z => z.elim
    · rename_i h
      exact ⟨false, hex c _ h, (fun z => Bool.noConfusion z), fun _ => k5 σ' δ' c d μ' G' H' v dx c' s' e' p' q'⟩
    · exact q'.elim
/-! ### in the suite -/
/-- error.value -/
def dXval (a dx : Addr) (c : Nat) (o : DE) : DE := fun δ μ Q R => o δ μ (fun x μ1 => match x with
  | .exn a' dx' c' d => a' = a ∧ dx' = dx ∧ c' = c ∧ Q d μ1
  | _ => False) R
theorem e_xval {a : Addr} {oe : Obj} {c : Nat} {dx : Addr} {pn : List (Addr × Obj)} (T : XfC X.K (C.cls c)) (hno : PySem.W.findIn X.K (.ref (C.cls c)) "value" = some none) (h0 : C.fld 0 = "value") (hz : Zc (.ref (C.cls c)) (some dx) oe) (hf : ∃ vs, oe.data = .fields vs)
    (ho : DPE (X.suite a ((a, oe) :: pn)) C noW o do_) (hb : attributeBase o "value" X.env (eval o X.env) = eval o X.env := by rfl) : DPE (X.suite a ((a, oe) :: pn)) C noW (.Attribute o "value" pos) (dXval a dx c do_) := by
  obtain ⟨to, o1, o2⟩ := ho
  refine ⟨_, pe_xf T hno hz hf o1 hb, fun B σ δ μ G H Q DQ_ R cc s q rr k => o2 B σ δ μ G H _ _ R cc s q rr fun v d μ1 G1 H1 c1 e1 p1 q1 => ?_⟩
  cases p1 with
  | @exn a1 dx1 c1' v1 d1 g1 p1 =>
    obtain ⟨rfl, rfl, rfl, q1⟩ := q1
    refine ⟨rfl, rfl, _, _, v1, rfl, c1.sub _ _ g1, ?_, k _ _ μ1 G1 H1 c1 e1 p1 q1⟩
    rw [← h0]
    simp [List.lookup]
  | _ => exact q1.elim
/-- isinstance(error, X) -/
def dXisi (a dx : Addr) (c : Nat) (is : D → Option Bool) (as : DA) : DE := fun δ μ Q R => as δ μ (fun xs μ1 => match xs with
  | [.exn a' dx' c' _, k] => a' = a ∧ dx' = dx ∧ c' = c ∧ ∃ b, is k = some b ∧ Q (.bl b) μ1
  | _ => False) R
theorem kitx_excD {K : PySem.W.Frag} {x D : Addr} {ox od : Obj} (c : ExcC K D) : PySem.W.KitX K (.ref x) (.ref D) (fun h => PySem.W.InstAt h x ox D (some od)) where
  ty := fun _ _ _ I => I.type
  it := fun _ _ X _ => by
    obtain ⟨cdD, hcD, _⟩ := PySem.W.any_some c.hd
    unfold PySem.W.clsIn at hcD
    split at hcD
    · rename_i c' d' cd' sl' ho
      intro A' Q' E' s' k q
      unfold isType loadHead
      exact wpAny_bind (wpAny_loadPart (k _ _ (X _ _ ho)) (wpAny_pure q))
    · cases hcD
  ne := fun h tp dd its n sl X htp => by
    obtain ⟨cdD, hcD, _⟩ := PySem.W.any_some c.hd
    refine Bool.eq_false_iff.mpr fun q => ?_
    have e : D = tp := Value.ref.inj (beq_iff_eq.mp q)
    subst e
    unfold PySem.W.clsIn at hcD
    split at hcD
    · rename_i c' d' cd' sl' ho
      have z := (X _ _ ho).symm.trans htp
      cases z
    · cases hcD
  ca := fun {prog w A E Q s} X I h => by
    have hf : PySem.W.findObj K D (some od) "__class__" = some (.bind (.builtin "getset_descriptor.__get__") (.builtin "object.__class__")) := PySem.W.findObj_data (by obtain ⟨cd, hc, _⟩ := PySem.W.any_some c.hd; rw [hc]; rfl) c.ha c.hn c.ht
    obtain ⟨hp, g, d, t, os⟩ := s
    have L0 := I.type (M := model prog w)
    have L1 := PySem.W.looks_findIn (M := model prog w) X c.hg
    have L2 := PySem.W.looks_findIn (M := model prog w) X c.hk
    have L3 := PySem.W.looks_find (M := model prog w) X I hf
    have sub : PySem.W.Looks (model prog w) hp (isInstance (.ref x) (.type "BaseException")) true := L0.andThen (PySem.W.looks_subIn X c.hs)
    have hx0 : (false && onTheHeap (Value.builtin "BaseException.__getattribute__")) = false := rfl
    have hx2 : (Value.builtin "BaseException.__getattribute__" == Value.builtin "object.__getattribute__") = false := by decide +kernel
    have hx1 : (onTheHeap (Value.ref D) && Value.builtin "BaseException.__getattribute__" == Value.builtin "object.__getattribute__") = false := by rw [hx2]; rfl
    unfold getAttr? getAttrBy? getAttrBy
    refine wpAny_bind (wpAny_mkText (wpAny_bind (wpAny_attempt (wpAny_holding (wpAny_bind (L0.at (wpAny_bind (L1.at ?_))))))))
    show wpAny _ _ (if (onTheHeap (Value.ref D) && Value.builtin "BaseException.__getattribute__" == Value.builtin "object.__getattribute__") = true then _ else _) _ _ _
    rw [hx1, if_neg Bool.false_ne_true]
    unfold getAttrByItsOwn hookBefore
    refine wpAny_bind ?_
    rw [if_pos (show onTheHeap (Value.ref D) = true from rfl)]
    refine L2.at ?_
    refine wpAny_bind (wpAny_attempt (wpAny_holding ?_))
    unfold callGetattribute
    rw [hx0, if_neg Bool.false_ne_true]
    unfold boundAndCalled
    rw [PySem.F.excAttr_ValueError.ga.bind (.ref x)]
    refine wpAny_bind (wpAny_pure ?_)
    show wpAny _ _ (call (.builtin "BaseException.__getattribute__") [.ref x, .str "__class__" t]) _ _ _
    refine wpAny_call (codeAny_call_builtin PySem.F.excAttr_ValueError.ga.plain PySem.F.entry_bexc_ga ?_)
    refine @PySem.W.check_slot (model prog w) _ _ ⟨hp, g, d, t + 1, os⟩ "BaseException.__getattribute__" "BaseException" "__getattribute__" (.ref x) [.str "__class__" t] [] _ (by decide +kernel) (by decide +kernel) sub (PySem.F.args_bexc_ga (.ref x) (.str "__class__" t)) ?_
    unfold Builtin.«object.__getattribute__»
    refine wpAny_bind (wpAny_of_eq (a := ((Value.ref x : Value), [Value.str "__class__" t])) (by first | rfl | (simp only [slotArgs]; rfl)) ?_)
    refine wpAny_bind (wpAny_pure (wpAny_bind (L0.at (wpAny_bind (L3.at ?_)))))
    show wpAny _ _ (holding [Value.builtin "object.__class__"] (call (.builtin "getset_descriptor.__get__") [.builtin "object.__class__", .ref x, .ref D]) >>= ret) _ _ _
    refine wpAny_bind (wpAny_holding (wpAny_call (PySem.W.class_get (s := ⟨hp, g, d, t + 1, os⟩) (ox := ox) (od := some od) X I c.hm ?_)))
    refine wpAny_pure ?_
    show wpAny _ _ (handedOut (.ref D)) _ _ _
    rw [PySem.W.handedOut_of (v := .ref D) rfl]
    first
      | exact wpAny_pure (wpAny_pure h)
      | exact wpAny_pure h
      | exact wpAny_pure (wpAny_bind (wpAny_pure (wpAny_pure h)))
def rIsX (K : PySem.W.Frag) (D a dx : Addr) : List V → Hp → VK → Prop := fun xs H Q => ∃ (c : V) (cv : Value) (b : Bool) (fs : List (PySem.Str × V)), xs = [.ref a, c] ∧ H dx = some (.xd fs) ∧ (∀ u, RelV c u → u = cv) ∧ PySem.W.kitOne K (.ref D) cv = some b ∧ Q (.bl b) H
theorem call_isX {a D dx : Addr} {oe : Obj} {pn : List (Addr × Obj)} (c : ExcC X.K D) (hz : Zc (.ref D) (some dx) oe) (hf : ∃ vs, oe.data = .fields vs) : CallR (X.suite a ((a, oe) :: pn)) (.builtin "isinstance") (rIsX X.K D a dx) := by
  intro pins s σ H xs us Q I r h
  obtain ⟨k, cv, b, fs, rfl, hdx, hcv, e, q⟩ := h
  cases r with
  | cons rx rr =>
    cases rr with
    | cons rt rr =>
      cases rr
      cases rx
      have ec := hcv _ rt
      subst ec
      obtain ⟨hget, _⟩ := I.pin (a, oe) (List.mem_append.mpr (.inl List.mem_cons_self))
      obtain ⟨vs, hv⟩ := hf
      have hx : ObjOk X.prog X.w H s.heap dx (.xd fs) := I.hok dx _ hdx
      obtain ⟨mA, hns, hr⟩ := hx
      obtain ⟨od, ho, hl⟩ := lookIn_ns hns
      have J : PySem.W.InstAt s.heap a oe D (some od) := ⟨hget, hz.1, by unfold PySem.W.notCls; rw [hv] <;> rfl, by rw [hz.2]; exact ho⟩
      exact PySem.W.kia_one (kitx_excD c) I.kIn J e (fun z => nomatch z) fun tk => ⟨.bl b, H, I.kept (t' := tk) fun _ _ z => z, rfl, q⟩
/-- the class that is asked for -/
def clsV (C : DC) (k : D) : Option Value := match k with
  | .cls c => some (.ref (C.cls c))
  | .ty n => some (.type n)
  | _ => none
theorem e_xisi {a : Addr} {oe : Obj} {c : Nat} {dx : Addr} {pn : List (Addr × Obj)} {is : D → Option Bool} (T : ExcC X.K (C.cls c)) (hz : Zc (.ref (C.cls c)) (some dx) oe) (hf : ∃ vs, oe.data = .fields vs) (hm : X.mg "isinstance" = none)
    (his : ∀ k b, is k = some b → ∃ cv, clsV C k = some cv ∧ PySem.W.kitOne X.K (.ref (C.cls c)) cv = some b) (ha : DPA (X.suite a ((a, oe) :: pn)) C noW (e :: es) das) (hg : Gl X "isinstance" := by rfl)
    (he : starEach (e :: es) X.env = (false, eval e X.env) :: starEach es X.env := by rfl) (hpl : (backTo pos (starEach es X.env)).any (·.1) = false := by rfl) : DPE (X.suite a ((a, oe) :: pn)) C noW (.Call (.Name "isinstance" p) (e :: es) [] pos) (dXisi a dx c is das) := by
  obtain ⟨t, a1, a2⟩ := ha
  refine ⟨_, pe_callB (X := X.suite a ((a, oe) :: pn)) (call_isX T hz hf) hg hm boot_isinstance a1 (by decide) (by decide) he hpl, fun B σ δ μ G H Q DQ_ R cc s q rr k => a2 B σ δ μ G H _ _ R cc s q rr fun vs ds μ1 G1 H1 c1 e1 p1 q1 => ?_⟩
  split at q1
  · rename_i a' dx' c' d' kd
    obtain ⟨rfl, rfl, rfl, b, hb, q1⟩ := q1
    obtain ⟨cv, hcv, hk⟩ := his _ _ hb
    cases p1 with
    | cons pa pr =>
      cases pr with
      | cons pk pr =>
        cases pr
        cases pa with
        | exn g1 g2 =>
          refine ⟨_, cv, b, _, rfl, c1.sub _ _ g1, fun u ru => ?_, hk, k _ _ μ1 G1 H1 c1 e1 (.bl b) q1⟩
          cases pk with
          | cls n => cases hcv; exact ru
          | ty n => cases hcv; exact ru
          | _ => cases hcv
  · exact q1.elim

/-! ### isinstance of built-in types -/
def tyName (d : D) : Option String := match d with
  | .non => some "NoneType" | .bl _ => some "bool" | .int _ => some "int" | .str _ => some "str" | .lst _ => some "list" | .tup _ => some "tuple" | _ => none
def isiT (a b : String) : Option Bool := if a ∈ ["NoneType", "bool", "int", "str", "list", "tuple"] ∧ b ∈ ["bool", "int", "str", "list", "tuple"] then some (a == b || (a == "bool" && b == "int")) else none
theorem isiT_ok {K : PySem.W.Frag} {a b : String} {v : Bool} (h : isiT a b = some v) : PySem.W.kitOne K (.type a) (.type b) = some v := by
  unfold isiT at h
  split at h
  · rename_i hh
    obtain ⟨h1, h2⟩ := hh
    have e := Option.some.inj h
    subst e
    have h1 : a = "NoneType" ∨ a = "bool" ∨ a = "int" ∨ a = "str" ∨ a = "list" ∨ a = "tuple" := by simpa using h1
    have h2 : b = "bool" ∨ b = "int" ∨ b = "str" ∨ b = "list" ∨ b = "tuple" := by simpa using h2
    rcases h1 with rfl | rfl | rfl | rfl | rfl | rfl <;> rcases h2 with rfl | rfl | rfl | rfl | rfl <;> kernel_rfl
  · cases h
end
end DL

namespace DL
open PySem PySem.Spec PyProof.Rows L2

/-! ### isinstance of built-in types -/
def fIsi : FC := fun xs Q => match xs with
  | [x, .ty n] => ∃ t b, tyName x = some t ∧ isiT t n = some b ∧ Q (.bl b)
  | _ => False
section
variable {X : Cx} {C : DC} {W : WX}
theorem tyX_of {B : Bs} {μ : Mem} {G H : Hp} {x : D} {v : V} {t : String} (c : Con C X.K B μ G H) (p : Dp C X.K G v x) (h : tyName x = some t) : TyX X.K H v (.type t) := by
  cases p with
  | non => cases h; exact .base .non
  | bl b => cases h; exact .base (.bl b)
  | int i => cases h; exact .base (.int i)
  | str s _ _ => cases h; exact .base (.str _)
  | lst h1 h2 => cases h; exact .base (.lst (c.sub _ _ h1))
  | tup h1 h2 =>
    cases h
    rcases c.sub.seqT h1 with (q | ⟨o, q⟩) | ⟨o, its, n, lk, hc, _⟩
    · exact .base (.tup q)
    · exact .fTuple q
    · exact .kTuple lk hc
  | _ => cases h
theorem c_isi : CaD X C (.builtin "isinstance") fIsi := by
  refine ⟨_, call_isi, fun B μ G H xs ds Q F c h q k => ?_⟩
  unfold fIsi at q
  split at q
  · rename_i x n
    obtain ⟨t, b, ht, hb, q⟩ := q
    cases h with
    | cons p1 pr =>
      cases pr with
      | cons p2 pr =>
        cases pr
        cases p2
        exact ⟨_, _, _, _, b, rfl, .ty n, tyX_of c p1 ht, isiT_ok hb, k _ _ G H c (Ex.refl G) (.bl b) q⟩
  · exact q.elim
end

/-! ### own special methods -/
theorem runIn1 {X : Cx} {k : Nat} {fa : Addr} {fd : FuncData} {ps : List PySem.Str} {sp : Sp} {pins : List (Addr × Obj)} {σ : L2.St} {H : Hp} {s : Shared} {Q : VK} {us : List Value} {vs : List V} {E' : Value → Shared → Prop}
    (F : FnOk X.prog X.w X.K X.mg X.base (L2.CX X.prog X.w) k fa fd ps sp) (hr : Room (k + 1) X.A) (hb : Binds X.K fd ps []) (I : Inv X pins σ H s) (r : Vals vs us) (h : sp vs H Q (fun _ _ _ => False)) :
    wpAny (model X.prog X.w) X.A.in1 (call (.ref fa) us) (EP X pins σ Q) E' s := by
  have hl : us.length = ps.length := by rw [← r.length]; exact F.len _ _ _ _ h
  have b := hb s us I.kIn (by rw [List.append_nil]; exact hl)
  rw [List.append_nil] at b
  refine wpAny_call (codeAny_mono (F.run X.A.in1 X.stack s H ⟨us, []⟩ us vs Q (fun _ _ _ => False) hr.in1 I.env0.in1 b r h) fun r s' hq => ?_)
  cases r with
  | error e =>
    obtain ⟨_, _, _, _, _, _, _, _, _, _, _, _, z⟩ := hq
    exact z.elim
  | ok fl =>
    cases fl with
    | ret u => exact I.after hq
    | next => exact False.elim hq
    | brk => exact False.elim hq
    | cont => exact False.elim hq
/-- what an own special method must be -/
structure OwnM (K : PySem.W.Frag) (C : Addr) (m : PySem.Str) (f : Addr) : Prop where
  at_ : PySem.W.findIn K (.ref C) m = some (some (.ref f))
  fn : PySem.W.isFn K (.ref f) = true
def ODa (P : Program) (w : World) (K : PySem.W.Frag) (mg : PySem.Str → Option Value) (base : Heap) (C : DC) (c : Nat) (m : PySem.Str) (k np : Nat) (f : DF) : Prop :=
  Cls K (C.cls c) ∧ ∃ fa fd ps, OwnM K (C.cls c) m fa ∧ FnOk P w K mg base (L2.CX P w) k fa fd ps (spOf C K ps.length f) ∧ Binds K fd ps [] ∧ ps.length = np
section
variable {X : Cx} {C : DC} {W : WX} {k : Nat} {f : DF}
theorem ins_at {pins : List (Addr × Obj)} {σ : L2.St} {H : Hp} {s : Shared} {a Ca dx : Addr} {fs : List (PySem.Str × V)} (I : Inv X pins σ H s) (ea : H a = some (.ins Ca dx fs)) : ∃ (ox od : Obj), PySem.W.InstAt s.heap a ox Ca (some od) := by
  obtain ⟨mA, O, _, _, _, _⟩ := ins_get I.hok ea
  obtain ⟨od, J, _⟩ := O.look
  exact ⟨_, od, J⟩
def rLenO (C : Addr) (sp : Sp) : List V → Hp → VK → Prop := fun xs H Q => ∃ a dx fs, xs = [.ref a] ∧ H a = some (.ins C dx fs) ∧ sp [.ref a] H (fun z H' => ∃ n : Int, z = .int n ∧ 0 ≤ n ∧ n < 2 ^ 63 ∧ Q (.int n) H') (fun _ _ _ => False)
theorem call_lenO {Ca fa : Addr} {fd : FuncData} {ps : List PySem.Str} {sp : Sp} (o : OwnM X.K Ca "__len__" fa) (F : FnOk X.prog X.w X.K X.mg X.base (L2.CX X.prog X.w) k fa fd ps sp) (hr : Room (k + 1) X.A) (hb : Binds X.K fd ps []) : CallR X (.builtin "len") (rLenO Ca sp) := by
  intro pins s σ H xs us Q I r h
  obtain ⟨a, dx, fs, rfl, ea, q⟩ := h
  obtain ⟨u, rfl, ru⟩ := r.one
  cases (show u = Value.ref a from ru)
  obtain ⟨ox, od, J⟩ := ins_at I ea
  refine PySem.Calls.call_function_entry kind_len plain_len entry_len (args_len1 _) ?_
  unfold Builtin.«len»
  refine wpAny_bind (m := oneArg "len" _) (wpAny_pure ?_)
  refine wpAny_bind (m := callSpecial? (.ref a) (Str.ofString "__len__")) (PySem.W.special_fn I.kIn J o.at_ (beq_iff_eq.mp o.fn) (wpAny_mono (runIn1 F hr hb I r q) (fun r s' hz => ?_) fun _ _ y => y))
  obtain ⟨z, H', I', rz, n, rfl, h0, h1, qz⟩ := hz
  obtain ⟨t, rfl⟩ := (show ∃ t, r = Value.int n t from rz)
  refine wpAny_bind (wpAny_holding (wpAny_pure ?_))
  refine wpAny_bind (wpAny_letGo ?_)
  show wpAny _ _ (if n < 0 then _ else _) _ _ _
  rw [if_neg (by omega)]
  show wpAny _ _ (if n ≥ 2 ^ 63 then _ else _) _ _ _
  rw [if_neg (by omega)]
  exact wpAny_bind (wpAny_mkInt (wpAny_pure ⟨_, rfl, .int n, H', I'.tok _, ⟨_, rfl⟩, qz⟩))
def rAbsO (C : Addr) (sp : Sp) : List V → Hp → VK → Prop := fun xs H Q => ∃ a dx fs, xs = [.ref a] ∧ H a = some (.ins C dx fs) ∧ sp [.ref a] H Q (fun _ _ _ => False)
theorem call_absO {Ca fa : Addr} {fd : FuncData} {ps : List PySem.Str} {sp : Sp} (o : OwnM X.K Ca "__abs__" fa) (F : FnOk X.prog X.w X.K X.mg X.base (L2.CX X.prog X.w) k fa fd ps sp) (hr : Room (k + 1) X.A) (hb : Binds X.K fd ps []) : CallR X (.builtin "abs") (rAbsO Ca sp) := by
  intro pins s σ H xs us Q I r h
  obtain ⟨a, dx, fs, rfl, ea, q⟩ := h
  obtain ⟨u, rfl, ru⟩ := r.one
  cases (show u = Value.ref a from ru)
  obtain ⟨ox, od, J⟩ := ins_at I ea
  refine PySem.Calls.call_function_entry kind_abs plain_abs entry_abs (args_abs _) ?_
  unfold Builtin.«abs»
  refine wpAny_bind (m := oneArg "abs" _) (wpAny_pure ?_)
  refine wpAny_bind (m := callSpecial? (.ref a) (Str.ofString "__abs__")) (PySem.W.special_fn I.kIn J o.at_ (beq_iff_eq.mp o.fn) (wpAny_mono (runIn1 F hr hb I r q) (fun r s' hz => ?_) fun _ _ y => y))
  exact wpAny_pure ⟨_, rfl, hz⟩
/-- o[i] by an own __getitem__ -/
def tIxOwn (Ca : Addr) (sp : Sp) (ta tb : TE) : TE := fun σ H Q => ta σ H fun x H1 => tb σ H1 fun y H2 => ∃ a dx fs, x = .ref a ∧ H2 a = some (.ins Ca dx fs) ∧ sp [.ref a, y] H2 Q (fun _ _ _ => False)
theorem pe_ixOwn {Ca fa : Addr} {fd : FuncData} {ps : List PySem.Str} {sp : Sp} {a b : Expr} {ta tb : TE} {pos : Pos} (o : OwnM X.K Ca "__getitem__" fa) (hfn : PySem.W.fnIn X.K fa = true) (F : FnOk X.prog X.w X.K X.mg X.base (L2.CX X.prog X.w) k fa fd ps sp) (hr : Room (k + 1) X.A) (hb : Binds X.K fd ps [])
    (h1 : PE X a ta) (h2 : PE X b tb) (hs : ∀ x i, subscripted b true (.ref x) i = runValue (.builtin "lifetime.subscript" ⟨[.ref x, i], []⟩) := by intro _ _; with_unfolding_all rfl) : PE X (.Subscript a b pos) (tIxOwn Ca sp ta tb) := by
  refine ⟨fun pins s σ H Q I h => ?_⟩
  refine Subscript_ (binT h1 h2 I h fun v u s2 x y H2 I2 rx ry q => ?_)
  obtain ⟨p, dx, fs, rfl, ea, q⟩ := q
  obtain rfl : v = Value.ref p := rx
  obtain ⟨ox, od, J⟩ := ins_at I2 ea
  have run := runIn1 (E' := X.xe) F hr hb I2 (.cons (show L2.RelV (.ref p) (.ref p) from rfl) (.cons ry .nil)) q
  unfold PySem.W.fnIn at hfn
  split at hfn
  · rename_i e
    unfold subscriptTail getitemInPython
    refine wpAny_bind (wpAny_bind (wpAny_bind (J.type.here ((PySem.W.looks_findIn I2.kIn o.at_).here ?_))))
    dsimp only
    refine wpAny_bind (wpAny_load (I2.kIn _ _ e) (wpAny_pure ?_))
    dsimp only
    rw [hs]
    refine wpAny_bind (wpAny_runValue (codeAny_builtin PySem.W.entry_sub ?_))
    unfold Builtin.«lifetime.subscript»
    refine wpAny_bind (PySem.W.special_fn I2.kIn J o.at_ (beq_iff_eq.mp o.fn) (wpAny_mono run (fun v s' z => ?_) fun _ _ z => z))
    refine wpAny_pure ?_
    show wpAny (model X.prog X.w) X.A (letTemporaryGo a (.ref p) v >>= fun _ => pure v) _ X.xe s'
    exact wpAny_bind (wpAny_letTemporaryGo (wpAny_pure z))
  · cases hfn
def dOwn1 (c : Nat) (f : DF) (g : D → (D → Prop) → Prop) (o : DE) : DE := fun δ μ Q R => o δ μ (fun x μ1 => isObj c x μ1 ∧ f [x] (μ1.take 0) (fun d μ' => g d fun z => Q z (μ1 ++ μ')) dNR) R
def gLen : D → (D → Prop) → Prop := fun d Q => match d with
  | .int n => 0 ≤ n ∧ n < 2 ^ 63 ∧ Q (.int n)
  | _ => False
def gAll : D → (D → Prop) → Prop := fun d Q => Q d
section
variable {o : Expr} {do_ : DE} {p pos : Pos}
theorem e_lenO {c : Nat} (h : ODa X.prog X.w X.K X.mg X.base C c "__len__" k 1 f) (hr : Room (k + 1) X.A) (hm : X.mg "len" = none) (ho : DPE X C W o do_) (hg : Gl X "len" := by rfl)
    (he : starEach [o] X.env = (false, eval o X.env) :: starEach [] X.env := by rfl) (hpl : (backTo pos (starEach [] X.env)).any (·.1) = false := by rfl) : DPE X C W (.Call (.Name "len" p) [o] [] pos) (dOwn1 c f gLen do_) := by
  obtain ⟨cl, fa, fd, ps, oo, F, hb, hl⟩ := h
  obtain ⟨to, o1, o2⟩ := ho
  refine ⟨_, pe_callB (call_lenO oo F hr hb) hg hm boot_len (pa_cons o1 pa_nil he) (by decide) (by decide) he hpl, fun B σ δ μ G H Q DQ_ R cc s q rr kk => o2 B σ δ μ G H _ _ R cc s q rr fun x dx μ1 G1 H1 c1 e1 p1 ⟨q1, q2⟩ => ?_⟩
  obtain ⟨a, dxa, fs, es, rfl, ea, hfs⟩ := q1.at c1 p1
  refine ⟨a, dxa, fs, rfl, ea, ?_⟩
  have := sp_at (n := 0) (W := noW) (σ := σ) (f := f) (np := ps.length) (vs := [.ref a]) (ds := [dx]) (DQ_ := fun d μ' => gLen d fun z => DQ_ z μ') (R := dNR) (Q := fun z H' => ∃ n : Int, z = .int n ∧ 0 ≤ n ∧ n < 2 ^ 63 ∧ Q (.int n) H') c1 hl.symm (.cons p1 .nil) q2 Rs.no fun v d μ' G' H' c' e' p' q' => ?_
  · exact this
  · cases p' with
    | int n => exact ⟨n, rfl, q'.1, q'.2.1, kk _ _ μ' G' H' c' (e1.trans e') (.int n) q'.2.2⟩
    | _ => exact q'.elim
theorem e_absO {c : Nat} (h : ODa X.prog X.w X.K X.mg X.base C c "__abs__" k 1 f) (hr : Room (k + 1) X.A) (hm : X.mg "abs" = none) (ho : DPE X C W o do_) (hg : Gl X "abs" := by rfl)
    (he : starEach [o] X.env = (false, eval o X.env) :: starEach [] X.env := by rfl) (hpl : (backTo pos (starEach [] X.env)).any (·.1) = false := by rfl) : DPE X C W (.Call (.Name "abs" p) [o] [] pos) (dOwn1 c f gAll do_) := by
  obtain ⟨cl, fa, fd, ps, oo, F, hb, hl⟩ := h
  obtain ⟨to, o1, o2⟩ := ho
  refine ⟨_, pe_callB (call_absO oo F hr hb) hg hm boot_abs (pa_cons o1 pa_nil he) (by decide) (by decide) he hpl, fun B σ δ μ G H Q DQ_ R cc s q rr kk => o2 B σ δ μ G H _ _ R cc s q rr fun x dx μ1 G1 H1 c1 e1 p1 ⟨q1, q2⟩ => ?_⟩
  obtain ⟨a, dxa, fs, es, rfl, ea, hfs⟩ := q1.at c1 p1
  refine ⟨a, dxa, fs, rfl, ea, ?_⟩
  exact sp_at (n := 0) (W := noW) (σ := σ) (f := f) (np := ps.length) (vs := [.ref a]) (ds := [dx]) (DQ_ := fun d μ' => DQ_ d μ') (R := dNR) (Q := Q) c1 hl.symm (.cons p1 .nil) q2 Rs.no fun v d μ' G' H' c' e' p' q' => kk v d μ' G' H' c' (e1.trans e') p' q'
def dIxOwn (c : Nat) (f : DF) (a b : DE) : DE := fun δ μ Q R => a δ μ (fun x μ1 => b δ μ1 (fun y μ2 => isObj c x μ2 ∧ f [x, y] (μ2.take 0) (fun d μ' => Q d (μ2 ++ μ')) dNR) R) R
theorem e_ixOwn {c : Nat} {a b : Expr} {da db : DE} (h : ODa X.prog X.w X.K X.mg X.base C c "__getitem__" k 2 f) (hfn : ∀ fa, PySem.W.findIn X.K (.ref (C.cls c)) "__getitem__" = some (some (.ref fa)) → PySem.W.fnIn X.K fa = true) (hr : Room (k + 1) X.A) (ha : DPE X C W a da) (hb : DPE X C W b db)
    (hs : ∀ x i, subscripted b true (.ref x) i = runValue (.builtin "lifetime.subscript" ⟨[.ref x, i], []⟩) := by intro _ _; with_unfolding_all rfl) : DPE X C W (.Subscript a b pos) (dIxOwn c f da db) := by
  obtain ⟨cl, fa, fd, ps, oo, F, hb', hl⟩ := h
  obtain ⟨ta, a1, a2⟩ := ha
  obtain ⟨tb, b1, b2⟩ := hb
  refine ⟨_, pe_ixOwn oo (hfn fa oo.at_) F hr hb' a1 b1 hs, fun B σ δ μ G H Q DQ_ R cc s q rr kk => a2 B σ δ μ G H _ _ R cc s q rr fun x dx μ1 G1 H1 c1 e1 p1 q1 => b2 B σ δ μ1 G1 H1 _ _ R c1 (s.mono e1) q1 (rr.mono e1) fun y dy μ2 G2 H2 c2 e2 p2 ⟨q2, q3⟩ => ?_⟩
  obtain ⟨pa, dxa, fs, es, rfl, ea, hfs⟩ := q2.at c2 (p1.mono e2)
  refine ⟨pa, dxa, fs, rfl, ea, ?_⟩
  exact sp_at (n := 0) (W := noW) (σ := σ) (f := f) (np := ps.length) (vs := [.ref pa, y]) (ds := [dx, dy]) (DQ_ := fun d μ' => DQ_ d μ') (R := dNR) (Q := Q) c2 hl.symm (.cons (p1.mono e2) (.cons p2 .nil)) q3 Rs.no fun v d μ' G' H' c' e' p' q' => kk v d μ' G' H' c' ((e1.trans e2).trans e') p' q'
end
end
end DL

namespace DL
open PySem PySem.Spec PyProof.Rows L2
/-! ### o[lo:hi] = a list -/
def gSlc (to : TE) (tl th : TO) : TG := fun v σ H Q => to σ H fun x H1 => tl σ H1 fun l H2 => th σ H2 fun u H3 => ∃ (a b : Addr) (xs ys : List V) (i j : Int), x = .ref a ∧ l = some i ∧ u = some j ∧ v = .ref b ∧ a ≠ b ∧ H3 a = some (.lst xs) ∧ H3 b = some (.lst ys) ∧
  0 ≤ i ∧ i ≤ j ∧ j ≤ xs.length ∧ xs.length + ys.length ≤ sizeLine ∧ Q σ (upd H3 a (.lst (xs.take i.toNat ++ ys ++ xs.drop j.toNat)))
section
variable {X : Cx} {C : DC} {W : WX} {pos p2 : Pos} {o : Expr} {lo hi : Option Expr} {to : TE} {tl th : TO} {d0 : DE} {dl dh : DO}
theorem pg_slc (ho : PE X o to) (hl : PO X lo tl) (hu : PO X hi th)
    (ha : ∀ v, assign (.Subscript o (.Slice lo hi none p2) pos) X.env v = (do
      let ov ← holding [v] (eval o X.env)
      let iv ← holding [v, ov] (eval (.Slice lo hi none p2) X.env)
      standAt pos
      holding [v, ov, iv] (setItem ov iv v)
      release [iv, v, ov] []) := by intro _; rfl) : PG X (.Subscript o (.Slice lo hi none p2) pos) (gSlc to tl th) := by
  refine ⟨fun pins s σ H v u Q I r h => ?_⟩
  rw [ha]
  refine wpAny_bind (wpAny_holding (thn (ho.run pins s σ H _ I h) fun ov s1 ⟨x, H1, I1, r1, q1⟩ => ?_))
  refine wpAny_bind (wpAny_holding (wpAny_Slice (thn (hl.run pins s1 σ H1 _ I1 q1) fun vl s2 ⟨l, H2, I2, pl, q2⟩ => thn (hu.run pins s2 σ H2 _ I2 q2) fun vu s3 ⟨u3, H3, I3, pu, q3⟩ => ?_)))
  rw [evalPart_none]
  refine wpAny_pure ?_
  have I4 : Inv X pins σ H3 { s3 with heap := s3.heap.push { cls := .type "slice", data := .fields #[vl, vu, .none] } } := I3.kept (t' := s3.toks) fun b ob q => Heap.get?_push_of_some _ q
  obtain ⟨a, b, xs, ys, i, j, rfl, rfl, rfl, rfl, ne, ha3, hb3, h0, h1, h2, h3, q⟩ := q3
  cases r1
  cases r
  refine wpAny_bind (wpAny_standAt (wpAny_bind (wpAny_holding ?_)))
  cases pl with
  | int _ t1 =>
    cases pu with
    | int _ t2 =>
      exact set_slice I4 ha3 hb3 ne (Heap.IsSliceOf.new ..) ⟨t1, rfl⟩ ⟨t2, rfl⟩ h0 h1 h2 h3 fun s' I' => wpAny_release ⟨σ, _, I', q⟩
def canO (C : DC) (K : PySem.W.Frag) (W : WX) (d : DO) : TO := fun σ H Q => ∃ B δ μ G DQ_ R, Con C K B μ G H ∧ Sl C K G σ δ ∧ d δ μ DQ_ R ∧ Rs C K W B σ G R ∧ ∀ o μ' G' H', Con C K B μ' G' H' → Ex G G' → DQ_ o μ' → Q o H'
theorem DPO.can (h : DPO X C W lo dl) : PO X lo (canO C X.K W dl) := by
  obtain ⟨t, p, s⟩ := h
  refine ⟨fun pins st σ H Q I hw => p.run pins st σ H Q I ?_⟩
  obtain ⟨B, δ, μ, G, DQ_, R, c, sl, q, rr, k⟩ := hw
  exact s B σ δ μ G H Q DQ_ R c sl q rr k
def dgSlc (j : Nat) (o : DE) (lo hi : DO) : DG := fun d δ μ Q => o δ μ (fun x μ1 => lo δ μ1 (fun l μ2 => hi δ μ2 (fun u μ3 => match d, x, l, u, μ3[j]? with
  | .lst es, .adr p, some i, some k, some (q, .lst ds) => p = q ∧ 0 ≤ i ∧ i ≤ k ∧ k ≤ ds.length ∧ ds.length + es.length ≤ 16777216 ∧ Q δ (μ3.set j (p, .lst (ds.take i.toNat ++ es ++ ds.drop k.toNat)))
  | _, _, _, _, _ => False) dNR) dNR) dNR
theorem g_slc (j : Nat) {W : WX} (ho : DPE X C W o d0) (hl : DPO X C W lo dl) (hu : DPO X C W hi dh)
    (ha : ∀ v, assign (.Subscript o (.Slice lo hi none p2) pos) X.env v = (do
      let ov ← holding [v] (eval o X.env)
      let iv ← holding [v, ov] (eval (.Slice lo hi none p2) X.env)
      standAt pos
      holding [v, ov, iv] (setItem ov iv v)
      release [iv, v, ov] []) := by intro _; rfl) : DPG X C (.Subscript o (.Slice lo hi none p2) pos) (gSlc (canE C X.K W d0) (canO C X.K W dl) (canO C X.K W dh)) (dgSlc j d0 dl dh) :=
  ⟨pg_slc ho.can hl.can hu.can ha, fun B σ δ μ G H v d Q DQ_ c s p q k => by
    refine can_snd B σ δ μ G H _ _ _ c s q Rs.never fun x dx μ1 G1 H1 c1 e1 x1 q1 => ⟨B, δ, μ1, G1, _, _, c1, s.mono e1, q1, Rs.never, fun l μ2 G2 H2 c2 e2 q2 => ⟨B, δ, μ2, G2, _, _, c2, (s.mono e1).mono e2, q2, Rs.never, fun u μ3 G3 H3 c3 e3 q3 => ?_⟩⟩
    split at q3
    · rename_i es pp i kk q' ds e
      obtain ⟨rfl, h0, h1, h2, h3, q3⟩ := q3
      cases x1
      cases p with
      | @lst b ys _ g1 g2 =>
        have ee := (e1.trans e2).trans e3
        have o := c3.cell _ _ (List.mem_of_getElem? e)
        have hh := c3.hid _ _ (List.mem_of_getElem? e)
        cases o with
        | @lst xs _ y1 y2 =>
          have gb := ee _ _ g1
          refine ⟨pp, b, xs, ys, i, kk, rfl, rfl, rfl, rfl, (fun z => by rw [← z, hh] at gb; cases gb), y1, c3.sub _ _ gb, h0, h1, by rw [y2.length]; exact h2, by rw [y2.length, g2.length, sl16]; exact h3, ?_⟩
          exact k σ δ _ G3 _ (c3.write e (.lst upd_same (((y2.take _).append (g2.mono ee)).append (y2.drop _)))) (((s.mono e1).mono e2).mono e3) ee q3
    · exact q3.elim⟩
end
end DL

namespace DL
open PySem PySem.Spec PyProof.Rows L2
open AutoSeq1 (wpAny_loadPart')
/-! ### enumerate of a tuple -/
theorem new_enumT (l : Addr) (items : Array Value) (n : Nat) (dct : Option Addr) (sl : Array (Option Value)) :
    Meets (Builtin.«enumerate.__new__» ⟨[.type "enumerate", .ref l], []⟩) (fun _ R s => s.heap.get? l = some { cls := .type "tuple", dict := dct, data := .seq items n, slots := sl } ∧
      R (.ok (.ret (.ref (s.heap.push { cls := .type "tuple_iterator", data := .fields #[.ref l, .int 0 0] }).objs.size)))
        { s with heap := (s.heap.push { cls := .type "tuple_iterator", data := .fields #[.ref l, .int 0 0] }).push { cls := .type "enumerate", data := .fields #[.none, .bool false, .ref s.heap.objs.size, rawInt 0, .none, .none] } }) :=
  .of_wp fun prog w A R s h => by
    obtain ⟨hp, g, d, tk, os⟩ := s; obtain ⟨hl, h⟩ := h
    have hsub := sub_enumerate
    have hT : Heap.IsTuple (Shared.heap ⟨hp, g, d, tk, os⟩) l items := ⟨_, hl, rfl, n, rfl⟩
    wp_walk using wpAny_loadPart' hl
    refine wpAny_stack_any fun st => wpAny_pure ?_
    split
    · rename_i c _ _ _ _ _
      cases (c == Value.type "enumerate")
      · wp_walk using wpAny_loadPart' hl, wpAny_pyIter_tuple hT
        exact ⟨_, rfl, h⟩
      · wp_walk using wpAny_loadPart' hl, wpAny_pyIter_tuple hT
        exact ⟨_, rfl, h⟩
    · wp_walk using wpAny_loadPart' hl, wpAny_pyIter_tuple hT
      exact ⟨_, rfl, h⟩
section
variable {prog : Program} {w : World} {A : Around} {E : Value → Shared → Prop} {s : Shared}
theorem call_enumT {l : Addr} {items : Array Value} {Q : Value → Shared → Prop} (hL : s.heap.IsTuple l items)
    (h : ∀ h', IsEnum h' (s.heap.objs.size + 1) s.heap.objs.size 0 .none → h'.IsTupleIter s.heap.objs.size l 0 → (∀ b o, s.heap.get? b = some o → h'.get? b = some o) → Q (.ref (s.heap.objs.size + 1)) { s with heap := h' }) :
    wpAny (model prog w) A (call (.type "enumerate") [.ref l]) Q E s := by
  obtain ⟨⟨c, dct, dt, sl⟩, hl, hc, n, hd⟩ := hL
  replace hc : c = .type "tuple" := hc
  replace hd : dt = .seq items n := hd
  subst hc hd
  refine callType_new F.called_enumerate (by decide) (F.typeCall_enumerate_1 _) (F.newCall_enumerate_1 _) (fun obj => F.args_object_init_2 obj _) F.entry_enumerate_new (new_enumT l items n dct sl) ⟨hl, ?_⟩
  have hz : (s.heap.push { cls := .type "tuple_iterator", data := .fields #[.ref l, .int 0 0] }).objs.size = s.heap.objs.size + 1 := Heap.size_push ..
  show _ ∧ _
  rw [hz]
  have he : IsEnum ((s.heap.push { cls := .type "tuple_iterator", data := .fields #[.ref l, .int 0 0] }).push { cls := .type "enumerate", data := .fields #[.none, .bool false, .ref s.heap.objs.size, rawInt 0, .none, .none] }) (s.heap.objs.size + 1) s.heap.objs.size 0 .none := by
    have := Heap.get?_push_size (s.heap.push { cls := .type "tuple_iterator", data := .fields #[.ref l, .int 0 0] }) (o := { cls := .type "enumerate", data := .fields #[.none, .bool false, .ref s.heap.objs.size, rawInt 0, .none, .none] }) rfl
    rw [hz] at this; exact this
  exact ⟨⟨_, he, rfl⟩, h _ he ⟨_, Heap.get?_push_of_some _ (Heap.get?_push_size _ rfl), rfl, rfl⟩ fun b o x => Heap.get?_push_of_some _ (Heap.get?_push_of_some _ x)⟩
end
def IteT (K : PySem.W.Frag) (a : Addr) : It :=
  ⟨fun i H => ∃ (xs : List V) (x : V), SqT K H a xs ∧ xs[i]? = some x, fun i H v H' => ∃ T x, v = .ref T ∧ H T = none ∧ H' = upd H T (.tup [.int (i : Nat), x]) ∧ ∀ xs, SqT K H a xs → xs[i]? = some x, fun i H => ∃ xs : List V, SqT K H a xs ∧ xs.length ≤ i⟩
theorem turn_enumT {P : Program} {w : World} {K : PySem.W.Frag} {elts : List Expr} {kk : Nat} {tpos : Pos} (a e it : Addr) (hai : a ≠ it) (hae : a ≠ e) :
    Turn P w K (.Tuple elts kk tpos) (IteT K a) [e, it] e (fun i h => (∃ old, IsEnum h e it ((i : Nat) : Int) old) ∧ h.IsTupleIter it a i ∧ e ≠ it) where
  mem := by simp
  obj := fun i h st b hb => by
    obtain ⟨⟨old, he⟩, ⟨o, ho, hc, hd⟩, _⟩ := st
    have e' : b = e ∨ b = it := by simpa using hb
    rcases e' with z | z
    · rw [z]; exact ⟨_, he, fun v q => nomatch q⟩
    · rw [z]; exact ⟨o, ho, fun v q => by rw [hd] at q; cases q⟩
  keep := fun i h h' st k => let ⟨⟨old, he⟩, hi, hne⟩ := st; ⟨⟨old, k e (by simp) _ he⟩, hi.at fun o q => k it (by simp) o q, hne⟩
  item := by
    intro X hP hw hK hc i pins s σ H E I hf st hg
    subst hP hw hK
    obtain ⟨⟨old, he⟩, hit, hne⟩ := st
    obtain ⟨xs, x, hq, hx⟩ := hg
    obtain ⟨its, rv, p, hz⟩ := I.tuple hq
    have p : s.heap.IsTuple a its.toArray := p
    obtain ⟨u, hu, ru⟩ := rv.get hx
    have hel : e < s.heap.objs.size := Heap.lt_size he
    have hil : it < s.heap.objs.size := by obtain ⟨_, q, _⟩ := hit; exact Heap.lt_size q
    have D := Draws.tuple (prog := X.prog) (w := X.w) (A := X.A.in1) (I.ok.hd hc) it a hai its.toArray
    have hlt : i < its.toArray.size := by have := (List.getElem?_eq_some_iff.mp hu).1; simpa using this
    refine wpAny_pyNext_enum_itemD D he ⟨hit, p⟩ hlt hne (by simp [hne, Ne.symm hae]) fun x' h' tk hx' ho hst' hT hsz hk => ?_
    have eu : x' = u := by
      have : its.toArray[i]? = some u := by simpa using hu
      rw [this] at hx'; exact (Option.some.inj hx').symm
    subst eu
    refine ⟨_, rfl, wpAny_letOwnedTupleGo_enum (s := { s with heap := h', toks := tk + 1 }) ho fun h'' he' sb => ?_⟩
    have hT2 : h''.get? s.heap.objs.size = some { cls := .type "tuple", data := .seq #[.int i tk, x'] } := (sb.2 _ (Nat.ne_of_gt hel)).trans hT
    have new : ObjOk X.prog X.w (upd H s.heap.objs.size (.tup [.int (i : Nat), x])) h'' s.heap.objs.size (.tup [.int (i : Nat), x]) :=
      ⟨by show 2 ≤ sizeLine; decide, [.int i tk, x'], .cons ⟨_, rfl⟩ (.cons ru .nil), ⟨_, hT2, rfl, _, rfl⟩⟩
    have I1 : Inv X pins σ (upd H s.heap.objs.size (.tup [.int (i : Nat), x])) { s with heap := h'', toks := tk + 1 } :=
      I.turnedNew (ch := [e, it]) (fun b ob hb q => (sb.2 b (fun z => hb (by simp [z]))).trans (hk b ob (fun z => hb (by simp [z])) (fun z => hb (by simp [z])) q)) hf (Nat.le_refl _) new
    refine ⟨.ref s.heap.objs.size, _, I1, rfl, ⟨_, x, rfl, I.hok.fresh (Nat.le_refl _), rfl, fun ys hy => by rw [I.tuple_inj hy hq]; exact hx⟩, ⟨⟨x', ?_⟩, hst'.1.at fun o q => (sb.2 it (Ne.symm hne)).trans q, hne⟩, fun b hb => ?_⟩
    · have e1 : ((i + 1 : Nat) : Int) = (i : Int) + 1 := by omega
      rw [e1]; exact he'
    · have hb' : b < s.heap.objs.size := by
        have e' : b = e ∨ b = it := by simpa using hb
        rcases e' with z | z
        · rw [z]; exact hel
        · rw [z]; exact hil
      rw [upd_ne (Nat.ne_of_lt hb')]
      exact (hf b hb).1
  done := by
    intro X hP hw hK hc i pins s σ H E I hf st hg
    subst hP hw hK
    obtain ⟨⟨old, he⟩, hit, hne⟩ := st
    obtain ⟨xs, hq, hx⟩ := hg
    obtain ⟨its, rv, p, hz⟩ := I.tuple hq
    have p : s.heap.IsTuple a its.toArray := p
    obtain ⟨f0, f1, f2, f3, f4, f5⟩ := hf it (by simp)
    have hl := rv.length
    have hT : s.TypeIs (.ref e) "enumerate" := ⟨_, he, rfl⟩
    unfold pyNext
    refine wpAny_bind (wpAny_attempt (wpAny_callSpecial?_slot (name := Str.ofString "__next__") hT F.slot_enumerate_next (wpAny_call_entry F.slot_enumerate_next hT F.entry_enumerate_next ?_ (F.args_enumerate_next_1 _))))
    show wpAny _ _ (field (.ref e) 2 >>= _) _ _ _
    refine wpAny_bind (wpAny_field he rfl (x := .ref it) rfl ?_)
    refine wpAny_bind (wpAny_nextOf_tuple_end (A := X.A.in1) (I.ok.hd hc) hit p (by simp; omega) fun h' x he' hx' => ?_)
    obtain ⟨o, ho, hco⟩ := hx'
    refine wpAny_bind (wpAny_isInstance (T := "StopIteration") (b := true) ⟨o, ho, hco⟩ isSubtype_stop ?_)
    exact wpAny_pure ⟨rfl, I.turned (t' := s.toks) (fun b o hb q => he' b o hb q) f0 f1 f3 f4 f5⟩
  self := fun A i s Q E st h => let ⟨⟨_, he⟩, _⟩ := st; wpAny_pyIter_enum he h
def iEnumA (K : PySem.W.Frag) (ta : TA) : TI := fun σ H R => ta σ H fun vs H1 => ∃ a xs, vs = [.ref a] ∧ ((SqL K H1 a xs ∧ R (Ite K a) H1) ∨ (SqT K H1 a xs ∧ R (IteT K a) H1))
theorem pi_enumA {X : Cx} {e : Expr} {ta : TA} {p pos tpos : Pos} {elts : List Expr} {kk : Nat} (hg : Gl X "enumerate") (hm : X.mg "enumerate" = none) (ha : PA X [e] ta) (hs : starEach [e] X.env = [(false, eval e X.env)]) : PI X (.Tuple elts kk tpos) (.Call (.Name "enumerate" p) [e] [] pos) (iEnumA X.K ta) := by
  refine ⟨fun pins s σ H R I h => ?_⟩
  refine Call_ (ld_blt I hg hm boot_enumerate (PyProof.Rows.callWith_type1 (thn (ha.run pos pins s σ H _ I h) fun us s1 ⟨vs, H1, I1, r1, q1⟩ => ?_) hs rfl))
  obtain ⟨a, xs, ex, hq⟩ := q1
  subst ex
  cases r1 with
  | cons r rr =>
    cases rr
    cases r
    have ff : ∀ b, b ∈ [s1.heap.objs.size + 1, s1.heap.objs.size] → FpOk X pins H1 b := fun b hb => by
      have e' : b = s1.heap.objs.size + 1 ∨ b = s1.heap.objs.size := by simpa using hb
      have hle : s1.heap.objs.size ≤ b := by
        rcases e' with z | z
        · rw [z]; exact Nat.le_add_right _ _
        · rw [z]; exact Nat.le_refl _
      exact I1.fpOk hle (I1.hok.fresh hle)
    rcases hq with ⟨hq, q⟩ | ⟨hq, q⟩
    · obtain ⟨its, rv, p', hz⟩ := I1.list hq
      refine call_enumerate_list p'.isList fun h' he hit hsz hk => wpAny_pyIter_enum he ?_
      exact ⟨s1.heap.objs.size + 1, [s1.heap.objs.size + 1, s1.heap.objs.size], _, _, H1, rfl, I1.kept (t' := s1.toks) hk, turn_enum a (s1.heap.objs.size + 1) s1.heap.objs.size, ⟨⟨.none, he⟩, hit, Nat.succ_ne_self _⟩, ff, q⟩
    · obtain ⟨its, rv, p', hz⟩ := I1.tuple hq
      have p' : s1.heap.IsTuple a its.toArray := p'
      obtain ⟨oa, hoa, _⟩ := id p'
      have la : a < s1.heap.objs.size := Heap.lt_size hoa
      refine call_enumT p' fun h' he hit hk => wpAny_pyIter_enum he ?_
      exact ⟨s1.heap.objs.size + 1, [s1.heap.objs.size + 1, s1.heap.objs.size], _, _, H1, rfl, I1.kept (t' := s1.toks) hk, turn_enumT a (s1.heap.objs.size + 1) s1.heap.objs.size (Nat.ne_of_lt la) (Nat.ne_of_lt (Nat.lt_succ_of_lt la)), ⟨⟨.none, he⟩, hit, Nat.succ_ne_self _⟩, ff, q⟩
section
variable {X : Cx} {C : DC} {W : WX} {e : Expr} {das : DA} {p pos tpos : Pos} {K : PySem.W.Frag}
theorem ok_enumT {a : Addr} {xs : List V} {ds : List D} {G : Hp} (h : SqT K G a xs) (p : Dps C K G xs ds) : ItOk C K (IteT K a) (enm 0 ds) G := by
  refine ⟨fun H e => ⟨xs, e.seqT h, by rw [p.length, enm_length]; exact Nat.le_refl _⟩, fun i d hd H e => ?_⟩
  obtain ⟨x, hx, rfl⟩ := enm_get hd
  obtain ⟨v, hv, q⟩ := p.get hx
  refine ⟨⟨xs, v, e.seqT h, hv⟩, fun w H' y => ?_⟩
  obtain ⟨T, u, rfl, hT, rfl, hu⟩ := y
  have := hu xs (e.seqT h)
  rw [hv] at this
  cases this
  exact .inr ⟨T, _, hT, rfl, fun G' e' n' => by rw [Nat.zero_add]; exact pair_dp e' n' (.int _) q⟩
def fEnumA : FI := fun xs Q => match xs with
  | [.lst ds] | [.tup ds] => Q (enm 0 ds)
  | _ => False
theorem i_enumA {elts : List Expr} {kk : Nat} (hm : X.mg "enumerate" = none) (h : DPA X C W [e] das) (hg : Gl X "enumerate" := by rfl) (hs : starEach [e] X.env = [(false, eval e X.env)] := by rfl) : DPI X C W (.Tuple elts kk tpos) (.Call (.Name "enumerate" p) [e] [] pos) (dItA fEnumA das) := by
  obtain ⟨t, a1, a2⟩ := h
  refine ⟨_, pi_enumA hg hm a1 hs, fun B σ δ μ G H R DQ_ RR c s q rr k => a2 B σ δ μ G H _ _ RR c s q rr fun vs ds μ' G' H' c' e' p' q' => ?_⟩
  unfold fEnumA at q'
  split at q'
  · cases p' with
    | cons p1 p2 =>
      cases p2
      cases p1 with
      | lst h1 h2 => exact ⟨_, _, rfl, .inl ⟨.of (c'.sub _ _ h1), k _ _ μ' G' H' c' e' (ok_enum h1 h2) q'⟩⟩
  · cases p' with
    | cons p1 p2 =>
      cases p2
      cases p1 with
      | tup h1 h2 => exact ⟨_, _, rfl, .inr ⟨c'.sub.seqT h1, k _ _ μ' G' H' c' e' (ok_enumT h1 h2) q'⟩⟩
  · exact q'.elim
end
end DL

namespace DL
open PySem PySem.Spec PyProof.Rows L2
/-! ### for x in o, o's __iter__ is: return iter(self.f), a tuple -/
theorem iter_tup {prog : Program} {w : World} {A : Around} {E : Value → Shared → Prop} {s : Shared} {t : Addr} {items : Array Value} {Q : Value → Shared → Prop} (ht : s.heap.IsTuple t items)
    (h : Q (.ref s.heap.objs.size) { s with heap := s.heap.push { cls := .type "tuple_iterator", data := .fields #[.ref t, .int 0 0] } }) : wpAny (model prog w) A (call (.builtin "iter") [.ref t]) Q E s := by
  refine PySem.Calls.call_function_entry (by decide +kernel) (by decide +kernel) PySem.W.kdk_entry_iter (PySem.W.kdk_args_iter _) ?_
  unfold Builtin.«iter»
  refine wpAny_bind (m := someArgs "iter" 1 2 _) (wpAny_of_eq (a := [Value.ref t]) (by first | rfl | kernel_rfl!) ?_)
  show wpAny _ _ (pyIter (.ref t) >>= _) _ _ _
  refine wpAny_bind (wpAny_pyIter_tuple ht ?_)
  exact wpAny_pure ⟨_, rfl, h⟩
theorem iter_def {P : Program} {w : World} {K : PySem.W.Frag} {mg : PySem.Str → Option Value} {base : Heap} {qual f : PySem.Str} {params : Arguments} {scope : Scope} {fa : Addr} {fd : FuncData} {p1 p2 p3 p4 p5 : Pos} {k : Nat} {A : Around} {outer : List Env} {s : Shared} {H : Hp} {a Ca dx t : Addr} {fs : List (PySem.Str × V)} {xs : List V}
    (F : FunD K "__iter__" qual params [.Return (some (.Call (.Name "iter" p1) [.Attribute (.Name "self" p2) f p3] [] p4)) p5] scope [] [] fa fd) (S : FnScope ["self"] ["self"] scope) (hsc : scope.names.lookup ("self" : PySem.Str) = some .local) (hgi : scope.names.lookup ("iter" : PySem.Str) = some .globalImplicit)
    (hm : mg "iter" = none) (hb : Binds K fd ["self"] []) (hr : Room (k + 1) A) (e0 : Env0 P w K mg base A outer s H) (ea : H a = some (.ins Ca dx fs)) (c : Cls K Ca) (n : NoAttr K Ca f) (l : fs.lookup f = some (.ref t)) (ht : SqT K H t xs) :
    codeAny (model P w) A (.call (.ref fa) ⟨[.ref a], []⟩) (fun r s' => ∃ it, r = .ok (.ret (.ref it)) ∧ CE outer P w H s (fun _ H' => H' = H) (.ref it) s' ∧ s'.heap.IsTupleIter it t 0 ∧ s.heap.objs.size ≤ it) s := by
  obtain ⟨oc, od, dV, kV, doc, pm, an, cdv, ct, osl, rfl, lk, hcd, _, _⟩ := F.ex
  have KX : K.In s.heap := e0.mod.kin.keeps fun b o e => (e0.bs b o e).1
  have lim : s.heap.NoLimit := e0.mod.nolimit.keeps fun b o e => (e0.bs b o e).1
  have hb' := hb s [.ref a] KX rfl
  refine codeAny_call_function hr.depth (KX _ _ lk) rfl S.co S.gen rfl (PySem.W.codeRec_of KX hcd) (hb' _ _ _ _ ?_)
  refine wpAny_newFunctionEnv_cells S.kind (fun y hy => by
    have : y = (("self" : PySem.Str), Value.ref a) := by simpa using hy
    subst this
    exact .inl hsc) fun env he s1 x => ?_
  subst he
  refine ⟨lim.keeps x.toInCall.keep, codeAny_func ?_⟩
  have I : Inv (cxOf (L2.CX P w) P w K mg base ["self"] qual scope fa cdv A outer s H (fun _ _ _ => False)) [] (start ["self"] [.ref a]) H s1 := inv_start (vs := [.ref a]) (us := [.ref a]) S hr.hd e0 rfl (.cons rfl .nil) x
  have hsz : s.heap.objs.size ≤ s1.heap.objs.size := I.sz
  refine wpAny_execs_cons (wpAny_Return_some ?_)
  refine wpAny_Call_Name_kw (ld_blt I hgi hm (show bootBuiltins ("iter" : PySem.Str) = some (.builtin "iter") by decide +kernel) ?_)
  have pa : PA (Cx.nox (cxOf (L2.CX P w) P w K mg base ["self"] qual scope fa cdv A outer s H (fun _ _ _ => False))) [.Attribute (.Name "self" p2) f p3] (tCons (tFld K (tVar 0) f) tNil) := pa_cons (pe_fld (pe_var (i := 0) rfl (.inl hsc)) rfl) pa_nil rfl
  refine PyProof.Rows.callWith_builtin1 (wpAny_mono (pa.run p4 [] s1 _ H (fun vs H1 => vs = [.ref t] ∧ H1 = H) (I.wish _) ⟨.ref a, rfl, a, Ca, dx, fs, .ref t, rfl, ea, c, n, l, rfl, rfl⟩) (fun us s2 ⟨vs, H1, I1, r1, ev, eH⟩ => ?_) fun _ _ z => False.elim z) rfl rfl
  subst ev
  subst eH
  obtain rfl := Vals.ref1 r1
  obtain ⟨its, rv, pl, hz⟩ := I1.tuple ht
  refine iter_tup (show s2.heap.IsTuple t its.toArray from pl) ?_
  have sz2 : s.heap.objs.size ≤ s2.heap.objs.size := I1.sz
  refine ⟨_, rfl, ?_, ⟨_, Heap.get?_push_size _ rfl, rfl, rfl⟩, sz2⟩
  have J := I1.kept (h' := s2.heap.push { cls := .type "tuple_iterator", data := .fields #[.ref t, .int 0 0] }) (t' := s2.toks) fun b o e => Heap.get?_push_of_some _ e
  exact ⟨.ref s2.heap.objs.size, _, J.os, J.bare, J.base, J.hok, rfl, rfl⟩
/-- what the class gives -/
def ItOwn (P : Program) (w : World) (K : PySem.W.Frag) (mg : PySem.Str → Option Value) (base : Heap) (Ca : Addr) (f : PySem.Str) (k : Nat) : Prop := Cls K Ca ∧ NoAttr K Ca f ∧ ∃ fa, OwnM K Ca "__iter__" fa ∧
  ∀ (A : Around) (outer : List Env) (s : Shared) (H : Hp) (a dx t : Addr) (fs : List (PySem.Str × V)) (xs : List V), Room k A → Env0 P w K mg base A outer s H → H a = some (.ins Ca dx fs) → fs.lookup f = some (.ref t) → SqT K H t xs →
    codeAny (model P w) A (.call (.ref fa) ⟨[.ref a], []⟩) (fun r s' => ∃ it, r = .ok (.ret (.ref it)) ∧ CE outer P w H s (fun _ H' => H' = H) (.ref it) s' ∧ s'.heap.IsTupleIter it t 0 ∧ s.heap.objs.size ≤ it) s
def iOwnT (K : PySem.W.Frag) (Ca : Addr) (f : PySem.Str) (to : TE) : TI := fun σ H R => to σ H fun x H1 => ∃ a dx fs t xs, x = .ref a ∧ H1 a = some (.ins Ca dx fs) ∧ fs.lookup f = some (.ref t) ∧ SqT K H1 t xs ∧ R (Itt K t) H1
theorem pi_ownT {X : Cx} {tg o : Expr} {to : TE} {Ca : Addr} {f : PySem.Str} {k : Nat} (h : ItOwn X.prog X.w X.K X.mg X.base Ca f k) (hr : Room k X.A) (ho : PE X o to) : PI X tg o (iOwnT X.K Ca f to) := by
  obtain ⟨cl, na, fa, om, run⟩ := h
  refine ⟨fun pins s σ H R I hw => ?_⟩
  refine thn (ho.run pins s σ H _ I hw) fun v s1 ⟨x, H1, I1, r1, a, dx, fs, t, xs, ex, ea, hl, ht, q⟩ => ?_
  subst ex
  obtain rfl : v = Value.ref a := r1
  obtain ⟨ox, od, J⟩ := ins_at I1 ea
  have KX := I1.kIn
  have main : wpAny (model X.prog X.w) X.A (call (.ref fa) [.ref a]) (fun v s' => (PIE X pins σ tg R v s') ∧ s'.TypeIs v "tuple_iterator") X.xe s1 := by
    refine wpAny_call (codeAny_mono (run X.A X.stack s1 H1 a dx t fs xs hr I1.env0 ea hl ht) fun r s' hq => ?_)
    obtain ⟨it, rfl, ce, hit, hge⟩ := hq
    obtain ⟨v, H', I2, rv, e⟩ := I1.after ce
    subst e
    refine ⟨⟨it, [it], _, _, _, rfl, I2, turn_tuple t it, hit, fun b hb => ?_, q⟩, hit.typeIs⟩
    have e : b = it := by simpa using hb
    subst e
    exact I1.fpOk hge (I1.hok.fresh hge)
  have fin : wpAny (model X.prog X.w) X.A (call (.ref fa) [.ref a] >>= fun v => pure (some v)) (fun r s' => ∃ v, r = some v ∧ (PIE X pins σ tg R v s') ∧ s'.TypeIs v "tuple_iterator") X.xe s1 :=
    wpAny_bind (wpAny_mono main (fun v s' h' => wpAny_pure ⟨v, rfl, h'⟩) fun _ _ z => z)
  have one : ∀ refuse : Sem Value, wpAny (model X.prog X.w) X.A (callSpecialIfBoundUnlessNone? (.ref a) "__iter__" refuse) (fun r s' => ∃ v, r = some v ∧ (PIE X pins σ tg R v s') ∧ s'.TypeIs v "tuple_iterator") X.xe s1 := by
    intro refuse
    simp only [callSpecialIfBoundUnlessNone?, bindSpecialIfBound?]
    refine wpAny_holding (wpAny_bind (wpAny_bind (wpAny_bind (J.type.here ((PySem.W.looks_findIn KX om.at_).here ?_)))))
    refine wpAny_bind (wpAny_askSetting (wpAny_ite ?_))
    have fin2 : wpAny (model X.prog X.w) X.A (if (Value.ref fa == Value.none) = true then (refuse >>= fun v => pure (some v)) else (call (.ref fa) [.ref a] >>= fun v => pure (some v))) (fun r s' => ∃ v, r = some v ∧ (PIE X pins σ tg R v s') ∧ s'.TypeIs v "tuple_iterator") X.xe s1 := by
      rw [if_neg (show ¬ ((Value.ref fa == Value.none) = true) from Bool.false_ne_true)]
      exact fin
    split
    · exact wpAny_bind ((PySem.W.bind_fn KX _ (beq_iff_eq.mp om.fn)).here (wpAny_pure (by exact fin2)))
    · exact wpAny_tryCatch (wpAny_bind ((PySem.W.bind_fn KX _ (beq_iff_eq.mp om.fn)).here (wpAny_pure (by exact fin2))))
  unfold pyIter
  refine wpAny_bind (wpAny_bind (J.type.here ((PySem.W.looks_findIn KX om.at_).here ?_)))
  show wpAny (model X.prog X.w) X.A (callSpecialIfBoundUnlessNone? (.ref a) "__iter__" _ >>= _) _ X.xe s1
  refine wpAny_bind (wpAny_mono (one _) (fun r s' hr => ?_) fun _ _ z => z)
  obtain ⟨v, rfl, hv, ty⟩ := hr
  refine wpAny_bind (wpAny_specialOf (name := Str.ofString "__next__") ty F.slot_tuple_iterator_next.lookup ?_)
  exact wpAny_pure hv
section
variable {X : Cx} {C : DC} {W : WX} {tg o : Expr} {do_ : DE}
/-- over an instance of class c whose __iter__ gives its tuple field i -/
def dOwnIt (c i : Nat) (o : DE) : DI := fun δ μ Q R => o δ μ (fun x μ1 => match x with
  | .obj c' es => c' = c ∧ ∃ ds, es.lookup i = some (.tup ds) ∧ Q ds μ1
  | _ => False) R
theorem i_own {c i k : Nat} {f : PySem.Str} (hi : C.fld i = f) (h : ItOwn X.prog X.w X.K X.mg X.base (C.cls c) f k) (hr : Room k X.A) (ho : DPE X C W o do_) : DPI X C W tg o (dOwnIt c i do_) := by
  obtain ⟨to, o1, o2⟩ := ho
  subst hi
  refine ⟨_, pi_ownT h hr o1, fun B σ δ μ G H R DQ_ RR cc s q rr k => o2 B σ δ μ G H _ _ RR cc s q rr fun x dx μ1 G1 H1 c1 e1 p1 q1 => ?_⟩
  cases p1 with
  | @obj a dx c' fs es h1 h2 =>
    obtain ⟨rfl, ds, l, q1⟩ := q1
    obtain ⟨v, l2, pv⟩ := h2.lookup l
    cases pv with
    | @tup t xs _ t1 t2 => exact ⟨a, dx, fs, t, xs, rfl, c1.sub _ _ h1, l2, c1.sub.seqT t1, k _ _ μ1 G1 H1 c1 e1 (ok_tup t1 t2) q1⟩
  | _ => exact q1.elim
end
end DL

namespace DL
open PySem PySem.Spec PyProof.Rows L2
section
variable {X : Cx} {C : DC} {W : WX} {tg iter elt : Expr} {pos spos py : Pos}
/-- name = [..] where the name is a plain local -/
theorem s_setLcG {fin : List D → Mem → DQ → Prop} {ifs : List Expr} {scope : Scope} {own : List (PySem.Str × Nat)} {g : TG} {di : DI} {dg : DG} {dt : DT} {de : DE} {tt : TT} (i : Nat) {y : PySem.Str} (hc : X.calm = true) (hN : X.N.Nodup) (hi : DPI X C W tg iter di) (ok : BlkOk X.N X.env.scope scope own)
    (hg : ∀ Y, Blk X scope Y → DPG Y C tg g dg) (gi : TgIn g (own.map (·.2))) (gm : MonoG g) (ht : ∀ Y, Blk X scope Y → PTs Y ifs tt) (ht2 : SndT C X.K noW tt dt) (he : ∀ Y, Blk X scope Y → DPE Y C noW elt de)
    (hf : ∀ B μ G H P xs acc Q_ (Q : VK), Con C X.K B (μ ++ [(P, .lst acc)]) G H → H P = some (.lst xs) → Dps C X.K G xs acc → fin acc μ Q_ → (∀ v d μ' G' H', Con C X.K B μ' G' H' → Ex G G' → Dp C X.K G' v d → Q_ d μ' → Q v H') → Q (.ref P) H)
    (hy : X.N[i]? = some y) (hyl : X.env.scope.names.lookup y = some .local) (hsw : swapsWith (.ListComp elt [⟨tg, iter, ifs, 0⟩] scope pos) (some (.Name y py)) spos.line X.env = pure true)
    (hs : ∀ x, foldedSetIterable iter X.env x = pure x) : DPS X C W (.Assign [.Name y py] (.ListComp elt [⟨tg, iter, ifs, 0⟩] scope pos) spos) (dAsg (dLcG fin di dg dt de (own.map (·.2))) (dgName i)) := by
  obtain ⟨_, i1, i2⟩ := hi
  have g2 : SndG C X.K g dg := (hg _ ⟨⟨X.s_0.heap, X.s_0.gens, X.s_0.drawn, 0, X.s_0.os⟩, X.H_0, 0, [], [], rfl⟩).2
  exact ⟨_, ps_setLc hc hN hy hyl hsw i1 ok (fun s H P cl fp => (hg _ ⟨s, H, P, cl, fp, rfl⟩).1) (fun s H P cl fp => ht _ ⟨s, H, P, cl, fp, rfl⟩) (fun s H P cl fp => (he _ ⟨s, H, P, cl, fp, rfl⟩).can) hs,
    snd_asg (snd_lc i2 g2 gi gm ht2 can_snd hf) (g_name (pos := py) i hN hy (.inl hyl) (.inr hyl)).2⟩
theorem s_setLc {scope : Scope} (own : List (PySem.Str × Nat)) (i : Nat) {y : PySem.Str} {g : TG} {di : DI} {dg : DG} {de : DE} (hc : X.calm = true) (hN : X.N.Nodup) (hi : DPI X C W tg iter di) (ok : BlkOk X.N X.env.scope scope own)
    (hg : ∀ Y, Blk X scope Y → DPG Y C tg g dg) (gi : TgIn g (own.map (·.2))) (gm : MonoG g) (he : ∀ Y, Blk X scope Y → DPE Y C noW elt de) (hy : X.N[i]? = some y := by rfl) (hyl : X.env.scope.names.lookup y = some .local := by rfl)
    (hsw : swapsWith (.ListComp elt [⟨tg, iter, [], 0⟩] scope pos) (some (.Name y py)) spos.line X.env = pure true := by exact sw_true rfl rfl rfl (by decide +kernel))
    (hs : ∀ x, foldedSetIterable iter X.env x = pure x := by intro _; rfl) : DPS X C W (.Assign [.Name y py] (.ListComp elt [⟨tg, iter, [], 0⟩] scope pos) spos) (dAsg (dLc di dg tYesD de (own.map (·.2))) (dgName i)) :=
  s_setLcG i hc hN hi ok hg gi gm (fun _ _ => pts_nil) yes_snd he hf_dat hy hyl hsw hs
theorem s_setLcO {scope : Scope} (own : List (PySem.Str × Nat)) (i : Nat) {y : PySem.Str} {g : TG} {di : DI} {dg : DG} {de : DE} (hc : X.calm = true) (hN : X.N.Nodup) (hi : DPI X C W tg iter di) (ok : BlkOk X.N X.env.scope scope own)
    (hg : ∀ Y, Blk X scope Y → DPG Y C tg g dg) (gi : TgIn g (own.map (·.2))) (gm : MonoG g) (he : ∀ Y, Blk X scope Y → DPE Y C noW elt de) (hy : X.N[i]? = some y := by rfl) (hyl : X.env.scope.names.lookup y = some .local := by rfl)
    (hsw : swapsWith (.ListComp elt [⟨tg, iter, [], 0⟩] scope pos) (some (.Name y py)) spos.line X.env = pure true := by exact sw_true rfl rfl rfl (by decide +kernel))
    (hs : ∀ x, foldedSetIterable iter X.env x = pure x := by intro _; rfl) : DPS X C W (.Assign [.Name y py] (.ListComp elt [⟨tg, iter, [], 0⟩] scope pos) spos) (dAsg (dLcO di dg tYesD de (own.map (·.2))) (dgName i)) :=
  s_setLcG i hc hN hi ok hg gi gm (fun _ _ => pts_nil) yes_snd he hf_own hy hyl hsw hs
/-- a call in a comprehension raises nothing -/
theorem blk_calm {scope : Scope} {Y : Cx} (h : Blk X scope Y) (hc : X.calm = true) : Y.calm = true := by
  obtain ⟨_, _, _, _, _, rfl⟩ := h
  exact hc
/-- list(e), the new list owned -/
def dListO (as : DA) : DE := fun δ μ Q R => as δ μ (fun xs μ1 => match xs with
  | [.lst ds] | [.tup ds] => ∀ p : Addr, Q (.adr p) (μ1 ++ [(p, .lst ds)])
  | _ => False) R
theorem e_listO {e : Expr} {p : Pos} {das : DA} (hm : X.mg "list" = none) (ha : DPA X C W [e] das) (hg : Gl X "list" := by rfl)
    (he : starEach [e] X.env = (false, eval e X.env) :: starEach [] X.env := by rfl) (hpl : (backTo pos (starEach [] X.env)).any (·.1) = false := by rfl) : DPE X C W (.Call (.Name "list" p) [e] [] pos) (dListO das) := by
  obtain ⟨t, a1, a2⟩ := ha
  refine ⟨_, pe_callTy call_list_of hg hm (show bootBuiltins ("list" : PySem.Str) = some (.type "list") by decide +kernel) a1 (by decide) (by decide) he hpl, fun B σ δ μ G H Q DQ_ R c s q rr k => a2 B σ δ μ G H _ _ R c s q rr fun vs ds μ1 G1 H1 c1 e1 p1 q1 => ?_⟩
  split at q1
  · cases p1 with
    | cons pa pn =>
      cases pn
      cases pa with
      | @lst a xs es h1 h2 => exact ⟨_, _, rfl, .inl (.of (c1.sub _ _ h1)), fun l hl => k _ _ _ G1 _ (c1.owned hl (.lst upd_same h2)) e1 (.adr l) (q1 l)⟩
  · cases p1 with
    | cons pa pn =>
      cases pn
      cases pa with
      | @tup a xs es h1 h2 => exact ⟨_, _, rfl, .inr (c1.sub.seqT h1), fun l hl => k _ _ _ G1 _ (c1.owned hl (.lst upd_same h2)) e1 (.adr l) (q1 l)⟩
  · exact q1.elim
/-- behind the statement only the first n owned things are spoken of -/
def dTrim (n : Nat) (t : DS) : DS := fun E δ μ => t { E with nx := fun δ' μ' => E.nx δ' (μ'.take n), ct := fun δ' μ' => E.ct δ' (μ'.take n) } δ μ
theorem Con.trim {K : PySem.W.Frag} {B : Bs} {μ : Mem} {G H : Hp} (c : Con C K B μ G H) (n : Nat) : Con C K B (μ.take n) G H :=
  c.perm (fun x m => List.mem_of_mem_take m) (by rw [List.map_take]; exact c.nd.sublist (List.take_sublist _ _))
theorem ss_trim (n : Nat) {st : List Stmt} {t : DS} (h : DPSs X C W st t) : DPSs X C W st (dTrim n t) := by
  obtain ⟨_, a1, a2⟩ := h
  exact ⟨_, a1, fun B σ δ μ G H T E c s q k1 k2 k3 k4 k5 => a2 B σ δ μ G H T _ c s q (fun σ' δ' μ' G' H' c' s' q' => k1 σ' δ' _ G' H' (c'.trim n) s' q') k2 k3 (fun σ' δ' μ' G' H' c' s' q' => k4 σ' δ' _ G' H' (c'.trim n) s' q') k5⟩
/-- from here on the name's owned list, the last, is data -/
def dFzS (i : Nat) (t : DS) : DS := fun E δ μ => ∃ (p : Addr) (μ2 : Mem) (ds : List D), δ[i]? = some (some (.adr p)) ∧ μ = μ2 ++ [(p, .lst ds)] ∧ t E (δ.set i (some (.lst ds))) μ2
theorem ss_fz (i : Nat) {st : List Stmt} {t : DS} (h : DPSs X C W st t) : DPSs X C W st (dFzS i t) := by
  obtain ⟨_, a1, a2⟩ := h
  refine ⟨_, a1, fun B σ δ μ G H T E c s q k1 k2 k3 k4 k5 => ?_⟩
  obtain ⟨p, μ2, ds, hi, rfl, q⟩ := q
  have ok := c.cell p (.lst ds) (by simp)
  cases ok with
  | lst h1 h2 =>
    obtain ⟨c2, e2⟩ := c.freeze h1
    obtain ⟨v, hv, pv⟩ := s.get hi
    have hv' : v = .ref p := by cases pv; rfl
    subst hv'
    have s2 := (s.mono e2).set (v := .ref p) (d := .lst ds) (.lst upd_same (h2.mono e2)) i
    have e : σ.set i (some (.ref p)) = σ := by
      apply List.ext_getElem?
      intro k
      rw [List.getElem?_set]
      split
      · rename_i z; subst z
        rw [hv]
        have hlt := (List.getElem?_eq_some_iff.mp hv).1
        simp [hlt]
      · rfl
    rw [e] at s2
    exact a2 B σ _ μ2 _ H T E c2 s2 q k1 k2 k3 k4 k5
theorem un65 {k : Nat} {A : Around} (hr : Room k A) : A.units + 65 < cLine := by have := hr.un; omega
theorem un64 {k : Nat} {A : Around} (hr : Room k A) : A.units + 64 < cLine := by have := hr.un; omega
end
end DL

namespace DL
open PySem PySem.Spec PyProof.Rows L2 GenW
/-! ### for within a generator -/
section
variable {M : Model} {prog : Program} {w : World} {A : Around} {R : GenEnd} {Y : Protocol} {n : Nat} {s₀ : Shared} {c : Code} {fs : List Frame} {s : Shared} {env : Env} {K : Flow → Sem PySem.Fin} {H : Value → Sem PySem.Fin} {gd : Bool → Bool} {lv : List Value → List Value}
theorem segFor {target iter : Expr} {body orelse : List Stmt} {pos : Pos}
    (h : wpAny M (A.over c fs) (eval iter env) (fun x s₁ => wpAny M (A.over c fs) (pyIter x) (fun it s₂ => ∀ p, Seg M A R Y n s₀ (.forLoop target it body orelse env) (M.den (.forLoop target it body orelse env))
      (.ret (fun r => ((match r with | .ok f => (.pure f : Sem Flow) | .error e => .raise e).onRaise (cameBack env)).wrap K H gd lv) none (gd false) (lv []) c p [] :: fs) s₂)
      (fun x s' => Seg M A R Y n s₀ c (H x) fs s') s₁) (fun x s' => Seg M A R Y n s₀ c (H x) fs s') s)
    (hs : ∀ x, foldedSetIterable iter env x = pure x) : Seg M A R Y n s₀ c ((exec (.For target iter body orelse pos) env).wrap K H gd lv) fs s := by
  rw [exec_For]
  show Seg M A R Y n s₀ c (.at pos fun _ => ((eval iter env >>= fun v => (foldedSetIterable iter env v >>= fun x => (standAt iter.pos >>= fun _ => (holding [x] (pyIter x) >>= fun it => runOwn (.forLoop target it body orelse env) env)))).wrap K H gd lv)) fs s
  refine seg_at ?_
  rw [Sem.bind_eq_wrap', Sem.wrap_wrap]
  refine seg_wrap (wpAny_mono h (fun v s1 h1 => ?_) fun _ _ x => x)
  rw [hs]
  show Seg M A R Y n s₀ c (.at iter.pos fun _ => ((holding [v] (pyIter v) >>= fun it => runOwn (.forLoop target it body orelse env) env).wrap K H gd lv)) fs s1
  refine seg_at ?_
  rw [Sem.bind_eq_wrap', Sem.wrap_wrap]
  refine seg_wrap (wpAny_holding (wpAny_mono h1 (fun it s2 h2 => ?_) fun _ _ x => x))
  exact seg_call h2
/-- what a loop does with an exception of its turn -/
abbrev turnX (env : Env) (x : Value) : Sem PySem.Fin := (do noteFrame x env; theTreesLotGoes x : Sem Unit).wrap (fun _ => .raise x) .raise id id
theorem segForLoop {target : Expr} {it : Value} {body : List Stmt}
    (h : wpAny (model prog w) (A.over (.forLoop target it body [] env) fs) (pyNext it) (fun r s' => match r with
        | none => Seg (model prog w) A R Y n s₀ (.block [] env) (leafOf (.ok .next)) fs s'
        | some v => wpAny (model prog w) (A.over (.forLoop target it body [] env) fs) (letOwnedTupleGo target it v) (fun _ s1 => wpAny (model prog w) (A.over (.forLoop target it body [] env) fs) (assign target env v) (fun _ s2 =>
            Seg (model prog w) A R Y n s₀ (.forLoop target it body [] env) ((execs body env).wrap (fun f => match f with
              | .next | .cont => .pure (.again (.forLoop target it body [] env))
              | .brk => .pure (.done .next)
              | .ret v => .pure (.done (.ret v))) (turnX env) id id) fs s2)
            (fun x s2 => Seg (model prog w) A R Y n s₀ (.forLoop target it body [] env) (turnX env x) fs s2) s1) (fun x s1 => Seg (model prog w) A R Y n s₀ (.forLoop target it body [] env) (turnX env x) fs s1) s')
      (fun x s' => Seg (model prog w) A R Y n s₀ (.forLoop target it body [] env) (turnX env x) fs s') s) :
    Seg (model prog w) A R Y n s₀ (.forLoop target it body [] env) ((model prog w).den (.forLoop target it body [] env)) fs s := by
  show Seg _ A R Y n s₀ _ ((forTurn target it body [] env).onRaise (fun x => do noteFrame x env; theTreesLotGoes x)) fs s
  unfold forTurn
  rw [Sem.onRaise_eq_wrap, Sem.bind_eq_wrap', Sem.wrap_wrap]
  refine seg_wrap (wpAny_standAt ?_)
  show Seg _ A R Y n s₀ _ (Sem.wrap _ _ _ _ _) fs s
  rw [Sem.bind_eq_wrap', Sem.wrap_wrap]
  refine seg_wrap (wpAny_onRaise (wpAny_mono h (fun r s1 h1 => ?_) fun x s' hx => wpAny_standAt ?_))
  · cases r with
    | none =>
      show Seg _ A R Y n s₀ _ (.pure (.again (.block [] env))) fs s1
      exact seg_again rfl h1
    | some v =>
      show Seg _ A R Y n s₀ _ (Sem.wrap _ _ _ _ (letOwnedTupleGo target it v >>= _)) fs s1
      rw [Sem.bind_eq_wrap', Sem.wrap_wrap]
      refine seg_wrap (wpAny_mono h1 (fun _ s2 h2 => ?_) fun x s' hx => ?_)
      · show Seg _ A R Y n s₀ _ (Sem.wrap _ _ _ _ (assign target env v >>= _)) fs s2
        rw [Sem.bind_eq_wrap', Sem.wrap_wrap]
        refine seg_wrap (wpAny_mono h2 (fun _ s3 h3 => ?_) fun x s' hx => ?_)
        · show Seg _ A R Y n s₀ _ (Sem.wrap _ _ _ _ (execs body env >>= _)) fs s3
          rw [Sem.bind_eq_wrap', Sem.wrap_wrap]
          rw [Sem.wrap_congr (execs body env) _ _ (K' := fun f => match f with
              | .next | .cont => .pure (.again (.forLoop target it body [] env))
              | .brk => .pure (.done .next)
              | .ret v => .pure (.done (.ret v))) (H' := turnX env) (fun f => by cases f <;> rfl) (fun e => by first | exact Sem.bind_eq_wrap _ _ | (show (do noteFrame e env; theTreesLotGoes e : Sem Unit).bind (fun _ => .raise e) = _; rw [Sem.bind_eq_wrap]))]
          exact h3
        · first
            | (show Seg _ A R Y n s₀ _ ((do noteFrame x env; theTreesLotGoes x : Sem Unit).bind fun _ => .raise x) fs s'; rw [Sem.bind_eq_wrap]; exact hx)
            | exact hx
      · first
          | (show Seg _ A R Y n s₀ _ ((do noteFrame x env; theTreesLotGoes x : Sem Unit).bind fun _ => .raise x) fs s'; rw [Sem.bind_eq_wrap]; exact hx)
          | exact hx
  · first
      | (show Seg _ A R Y n s₀ _ ((do noteFrame x env; theTreesLotGoes x : Sem Unit).bind fun _ => .raise x) fs s'; rw [Sem.bind_eq_wrap]; exact hx)
      | exact hx
end
section
variable {X : Cx}
def tGFor (wi : TI) (g : TG) (tb : TGn) : TGn := fun D ys σ H => wi σ H fun J H1 => ∃ W : Nat → Nat → List V → L2.St → Hp → Prop, (∃ m, W 0 m ys σ H1) ∧ ∀ i m ys σ H, W i m ys σ H → (J.stop i H ∧ D.nx ys σ H) ∨
  (J.go i H ∧ ∃ N : List V → L2.St → Hp → Prop, (∀ ys' σ' H', N ys' σ' H' → ∃ m', m' < m ∧ W (i + 1) m' ys' σ' H') ∧ ∀ x H', J.yld i H x H' → g x σ H' fun σ2 H2 => tb { D with nx := N, ct := N, bk := D.nx } ys σ2 H2)
theorem gi_less {S : Addr} {ip q : List (Addr × Obj)} {ys : List V} {σ : L2.St} {H : Hp} {s : Shared} (h : GI X S (ip ++ q) ys σ H s) : GI X S ip ys σ H s := by
  obtain ⟨acc, c, r, I⟩ := h
  exact ⟨acc, c, r, I.pins_of fun p hp => I.pin p (by
    refine List.mem_append_right _ ?_
    rcases List.mem_cons.mp hp with hp | hp
    · exact List.mem_cons.mpr (.inl hp)
    · exact List.mem_cons_of_mem _ (List.mem_append_left _ hp))⟩
theorem gs_for {iter tg : Expr} {body : List Stmt} {wi : TI} {g : TG} {tb : TGn} {pos : Pos} (hp : PassesOwn (model X.prog X.w) X.A X.env X.xe) (hc : X.calm = true) (hi : PI X tg iter wi) (hg : PG X tg g) (hb : GSs X body tb)
    (hs : ∀ x, foldedSetIterable iter X.env x = pure x := by intro _; rfl) : GS X (.For tg iter body [] pos) (tGFor wi g tb) := by
  refine ⟨fun A S ip R n ys s₀ c fs K J gd lv s σ H D g0 hn k hI ht => ?_⟩
  obtain ⟨acc, cc, r, I⟩ := hI
  refine segFor ?_ hs
  rw [g0.over]
  refine wpAny_mono (hi.run _ s σ H _ I ht) (fun v s1 h1 => wpAny_mono h1 (fun itv s2 h2 p => ?_) fun x s' hx => k.exc n s₀ x s' hx) fun x s' hx => k.exc n s₀ x s' hx
  obtain ⟨it, fp, tn, Jt, H2, e, I2, T, st2, f2, W, ⟨m0, w0⟩, turn⟩ := h2
  subst e
  have gl := fun (kk : Result → Sem PySem.Fin) => gc_loop (k := kk) (c' := .forLoop tg (.ref it) body [] X.env) (l := lv []) (kp := []) (p := p) g0 rfl rfl
  have stat : ∀ {acc' : Array Value} {c' : Nat} {H' : Hp}, (∀ b ∈ fp, H' b = none) → ∀ b ∈ fp, FpOk X ((S, lstObj acc' c') :: ip) H' b := fun {acc' c' H'} hn b hb => by
    obtain ⟨_, h2, h3, h4, h5, h6⟩ := f2 b hb
    refine ⟨hn b hb, h2, h3, h4, h5, fun p hp => ?_⟩
    rcases List.mem_append.mp hp with hp | hp
    · exact h6 p (List.mem_append_left _ hp)
    · rcases List.mem_cons.mp hp with hp | hp
      · rw [hp]
        exact h6 (S, lstObj acc cc) (List.mem_append_right _ List.mem_cons_self)
      · exact h6 p (List.mem_append_right _ (List.mem_cons_of_mem _ hp))
  have apS : ∀ b ∈ fp, S ≠ b := fun b hb => (f2 b hb).2.2.2.2.2 (S, lstObj acc cc) (List.mem_append_right _ List.mem_cons_self)
  have loop : ∀ (m n : Nat) (ys : List V) (s₀ s : Shared) (σ : L2.St) (H : Hp) (i : Nat), n + ys.length = sizeLine → W i m ys σ H → tn i s.heap → (∀ b ∈ fp, H b = none) → GI X S ip ys σ H s →
      Seg (model X.prog X.w) A R (GY X S) n s₀ (.forLoop tg (.ref it) body [] X.env) ((model X.prog X.w).den (.forLoop tg (.ref it) body [] X.env))
        (.ret (fun r => ((match r with | .ok f => (.pure f : Sem Flow) | .error e => .raise e).onRaise (cameBack X.env)).wrap K J gd lv) none (gd false) (lv []) c p [] :: fs) s := by
    intro m
    induction m using Nat.strongRecOn with
    | ind m ih =>
      intro n ys s₀ s σ H i hn w st fr hI
      have ee : ∀ (n : Nat) (s₀ : Shared) (x : Value) (s' : Shared), X.xe x s' → Seg (model X.prog X.w) A R (GY X S) n s₀ (.forLoop tg (.ref it) body [] X.env) (turnX X.env x)
          (.ret (fun r => ((match r with | .ok f => (.pure f : Sem Flow) | .error e => .raise e).onRaise (cameBack X.env)).wrap K J gd lv) none (gd false) (lv []) c p [] :: fs) s' := fun n s₀ x s' hx => by
        refine seg_wrap ?_
        rw [(gl _).over]
        refine wpAny_bind (wpAny_mono (hp x s' hx) (fun _ s'' hcb => wpAny_theTreesLotGoes ?_) fun y s'' hcb => ?_)
        · exact seg_leaf (.error x) (seg_cameBack g0 k hcb)
        · exact seg_leaf (.error y) (seg_cameBack g0 k hcb)
      refine segForLoop ?_
      rw [(gl _).over]
      obtain ⟨acc, cc, r, I⟩ := hI
      rcases turn i m ys σ H w with ⟨stop, qn⟩ | ⟨go, N, hN, step⟩
      · refine wpAny_mono (T.done X rfl rfl rfl hc i _ s σ H X.xe I (stat fr) st stop) (fun r' s4 ⟨hr, I4⟩ => ?_) fun x s' hx => ee n s₀ x s' hx
        subst hr
        exact seg_leaf (.ok .next) (k.ok n ys s₀ s4 .next hn ⟨σ, H, ⟨acc, cc, r, I4⟩, qn⟩)
      · refine wpAny_mono (T.item X rfl rfl rfl hc i _ s σ H X.xe I (stat fr) st go) (fun r' s4 ⟨u, hr, h4⟩ => ?_) fun x s' hx => ee n s₀ x s' hx
        subst hr
        refine wpAny_mono h4 (fun _ s5 ⟨x, H5, I5, r5, y5, st5, fr5⟩ => ?_) fun x s' hx => ee n s₀ x s' hx
        have I5' : Inv X ((S, lstObj acc cc) :: (ip ++ pinsAt fp s5.heap)) σ H5 s5 := I5.pinned (stat fr5) (T.obj _ _ st5)
        refine wpAny_mono (hg.run _ s5 σ H5 x u _ I5' r5 (step x H5 y5)) (fun _ s6 ⟨σ6, H6, I6, q6⟩ => ?_) fun x s' hx => ee n s₀ x s' hx
        have g1 : ∀ kk : Result → Sem PySem.Fin, GC X S (ip ++ pinsAt fp s5.heap) A (.forLoop tg (.ref it) body [] X.env) (.ret kk none (gd false) (lv []) c p [] :: fs) id := fun kk => ⟨(gl kk).pn, fun q hq => by
          rcases List.mem_append.mp hq with hq | hq
          · exact g0.ip q hq
          · exact fun z => apS _ (of_pinsAt hq).1 z.symm, (gl kk).apart, (gl kk).over, (gl kk).split, (gl kk).guard, (gl kk).gd⟩
        refine hb.run A S (ip ++ pinsAt fp s5.heap) R n ys s₀ _ _ _ _ id id s6 σ6 H6 { D with nx := N, ct := N, bk := D.nx } (g1 _) hn ⟨fun n' ys' s₀' s3 f hn' hs => ?_, fun n' s₀' x s3 hx => ee n' s₀' x s3 hx⟩ ⟨acc, cc, r, I6⟩ q6
        · have again : ∀ {σ7 : L2.St} {H7 : Hp}, GI X S (ip ++ pinsAt fp s5.heap) ys' σ7 H7 s3 → tn (i + 1) s3.heap ∧ ∀ b ∈ fp, H7 b = none := fun {σ7 H7} G7 => by
            obtain ⟨acc7, c7, _, I7⟩ := G7
            have pin : ∀ b ∈ fp, ∀ o, s5.heap.get? b = some o → s3.heap.get? b = some o ∧ H7 b = none := fun b hb o e => by
              have z := I7.pin (b, o) (List.mem_append_right _ (List.mem_cons_of_mem _ (List.mem_append_right _ (mem_pinsAt hb e))))
              exact ⟨z.1, z.2.1⟩
            refine ⟨T.keep _ _ _ st5 fun b hb o e => (pin b hb o e).1, fun b hb => ?_⟩
            obtain ⟨o, e, _⟩ := T.obj _ _ st5 b hb
            exact (pin b hb o e).2
          cases f with
          | next =>
            obtain ⟨σ3, H3, I3, n3⟩ := hs
            obtain ⟨m', hm, w3⟩ := hN ys' σ3 H3 n3
            obtain ⟨t3, f3⟩ := again I3
            exact seg_again rfl (ih m' hm n' ys' s₀' s3 σ3 H3 (i + 1) hn' w3 t3 f3 (gi_less I3))
          | cont =>
            obtain ⟨σ3, H3, I3, n3⟩ := hs
            obtain ⟨m', hm, w3⟩ := hN ys' σ3 H3 n3
            obtain ⟨t3, f3⟩ := again I3
            exact seg_again rfl (ih m' hm n' ys' s₀' s3 σ3 H3 (i + 1) hn' w3 t3 f3 (gi_less I3))
          | brk =>
            obtain ⟨σ3, H3, I3, q3⟩ := hs
            exact seg_leaf (.ok .next) (k.ok n' ys' s₀' s3 .next hn' ⟨σ3, H3, gi_less I3, q3⟩)
          | ret v =>
            obtain ⟨v3, σ3, H3, I3, r3, q3⟩ := hs
            exact seg_leaf (.ok (.ret v)) (k.ok n' ys' s₀' s3 (.ret v) hn' ⟨v3, σ3, H3, gi_less I3, r3, q3⟩)
  exact loop m0 n ys s₀ s2 σ H2 0 hn w0 st2 (fun b hb => (f2 b hb).1) ⟨acc, cc, r, I2⟩
end
/-! ### generators over data -/
abbrev DGn := (List D → Dl → Mem → Prop) → List D → Dl → Mem → Prop
def SndGn (C : DC) (K : PySem.W.Frag) (t : TGn) (d : DGn) : Prop := ∀ B σ δ μ G H ys os (T : GEnds) F, Con C K B μ G H → Sl C K G σ δ → Dps C K G ys os → d F os δ μ →
  (∀ σ' δ' ys' os' μ' G' H', Con C K B μ' G' H' → Sl C K G' σ' δ' → Dps C K G' ys' os' → F os' δ' μ' → T.nx ys' σ' H') → t T ys σ H
def DGS (X : Cx) (C : DC) (st : Stmt) (d : DGn) : Prop := ∃ t, GS X st t ∧ SndGn C X.K t d
def DGSs (X : Cx) (C : DC) (st : List Stmt) (d : DGn) : Prop := ∃ t, GSs X st t ∧ SndGn C X.K t d
def gPlain (ds : DS) : DGn := fun F os δ μ => ds { nx := fun δ' μ' => F os δ' μ', rt := fun _ _ => False, bk := fun _ _ => False, ct := fun _ _ => False, ra := fun _ => dNR } δ μ
def gYield (de : DE) : DGn := fun F os δ μ => os.length < 16777216 ∧ de δ μ (fun x μ1 => F (os ++ [x]) δ μ1) dNR
def gThen (a b : DGn) : DGn := fun F os δ μ => a (fun os' δ' μ' => b F os' δ' μ') os δ μ
def gNx : DGn := fun F os δ μ => F os δ μ
def gFor (di : DI) (g : DG) (b : DGn) : DGn := fun F os δ μ => di δ μ (fun its μ1 => ∃ Jv : Nat → List D → Dl → Mem → Prop, Jv 0 os δ μ1 ∧ (∀ k d os δ μ, its[k]? = some d → Jv k os δ μ → g d δ μ fun δ2 μ2 => b (fun os' δ' μ' => Jv (k + 1) os' δ' μ') os δ2 μ2) ∧
  ∀ os δ μ, Jv its.length os δ μ → F os δ μ) dNR
section
variable {X : Cx} {C : DC} {st : Stmt} {rest : List Stmt} {a b : DGn}
theorem gss_nl : DGSs X C [] gNx := ⟨_, gss_nil, fun B σ δ μ G H ys os T F c s y q k => k σ δ ys os μ G H c s y q⟩
theorem gss_cn (h1 : DGS X C st a) (h2 : DGSs X C rest b) : DGSs X C (st :: rest) (gThen a b) := by
  obtain ⟨_, a1, a2⟩ := h1
  obtain ⟨_, b1, b2⟩ := h2
  exact ⟨_, gss_cons a1 b1, fun B σ δ μ G H ys os T F c s y q k => a2 B σ δ μ G H ys os _ _ c s y q fun σ' δ' ys' os' μ' G' H' c' s' y' q' => b2 B σ' δ' μ' G' H' ys' os' T F c' s' y' q' k⟩
theorem gs_pl {ds : DS} (h : DPS X C noW st ds) : DGS X C st (gPlain ds) := by
  obtain ⟨_, a1, a2⟩ := h
  refine ⟨_, gs_ps a1, fun B σ δ μ G H ys os T F c s y q k => ?_⟩
  exact a2 (B.at G) σ δ μ G H (T.at ys) _ c.to s q (fun σ' δ' μ' G' H' c' s' q' => k σ' δ' ys os μ' G' H' (c.fro c') s' (y.mono c'.old) q') (fun _ _ _ _ _ _ _ z => z.elim) (fun _ _ _ _ _ _ _ z => z.elim) (fun _ _ _ _ _ _ _ z => z.elim) (fun _ _ _ _ _ _ _ _ _ _ _ _ _ z => z.elim)
theorem gs_yl {e : Expr} {de : DE} {yp pos : Pos} (h : DPE X C noW e de) (hco : X.env.scope.isCoroutine = false := by rfl) (hi : interactive X.env = false := by rfl) : DGS X C (.Expr (.Yield (some e) yp) pos) (gYield de) := by
  obtain ⟨_, a1, a2⟩ := h
  refine ⟨_, gs_yield a1 hco hi, fun B σ δ μ G H ys os T F c s y q k => ⟨by rw [y.length, sl16]; exact q.1, a2 B σ δ μ G H _ _ _ c s q.2 Rs.no fun v d μ' G' H' c' e' p' q' => ?_⟩⟩
  exact k σ δ _ _ μ' G' H' c' (s.mono e') ((y.mono e').append (.cons p' .nil)) q'
theorem gs_fr {iter tg : Expr} {body : List Stmt} {g : TG} {di : DI} {dg : DG} {pos : Pos} (hp : PassesOwn (model X.prog X.w) X.A X.env X.xe) (hc : X.calm = true) (hi : DPI X C noW tg iter di) (hg : DPG X C tg g dg) (hb : DGSs X C body b)
    (hs : ∀ x, foldedSetIterable iter X.env x = pure x := by intro _; rfl) : DGS X C (.For tg iter body [] pos) (gFor di dg b) := by
  obtain ⟨_, i1, i2⟩ := hi
  obtain ⟨_, b1, b2⟩ := hb
  refine ⟨_, gs_for hp hc i1 hg.1 b1 hs, fun B σ δ μ G H ys os T F c s y q k => i2 B σ δ μ G H _ _ _ c s q Rs.no fun J its μ1 G1 H1 c1 e1 ok ⟨Jv, v0, step, fin⟩ => ?_⟩
  refine ⟨fun i m ys σ H => m = its.length - i ∧ i ≤ its.length ∧ ∃ os δ μ G, Con C X.K B μ G H ∧ Sl C X.K G σ δ ∧ Dps C X.K G ys os ∧ Ex G1 G ∧ Jv i os δ μ, ⟨its.length, by simp, Nat.zero_le _, os, δ, μ1, G1, c1, s.mono e1, y.mono e1, Ex.refl _, v0⟩, ?_⟩
  rintro i m ys2 σ2 H2 ⟨rfl, hi, os2, δ2, μ2, G2, c2, s2, y2, e2, v2⟩
  by_cases hlt : i < its.length
  · have hd : its[i]? = some its[i] := by simp [hlt]
    refine .inr ⟨(ok.2 i _ hd H2 (e2.trans c2.sub)).1, fun ys' σ' H' => ∃ os δ μ G, Con C X.K B μ G H' ∧ Sl C X.K G σ' δ ∧ Dps C X.K G ys' os ∧ Ex G1 G ∧ Jv (i + 1) os δ μ, fun ys' σ' H' n => ⟨_, by omega, rfl, hlt, n⟩, fun x H3 yy => ?_⟩
    obtain ⟨G3, c3, e3, p3⟩ := ok.yield c2 e2 hd yy
    refine hg.2 B σ2 δ2 μ2 G3 H3 x _ _ _ c3 (s2.mono e3) p3 (step i _ os2 δ2 μ2 hd v2) fun σ4 δ4 μ4 G4 H4 c4 s4 e4 q4 => ?_
    have ee : Ex G1 G4 := (e2.trans e3).trans e4
    exact b2 (B.at G4) σ4 δ4 μ4 G4 H4 ys2 os2 _ _ c4.to s4 ((y2.mono e3).mono e4) q4 fun σ' δ' ys' os' μ' G' H' c' s' y' q' => ⟨os', δ', μ', G', c4.fro c', s', y', ee.trans c'.old, q'⟩
  · have e : i = its.length := by omega
    subst e
    exact .inl ⟨ok.1 H2 (e2.trans c2.sub), k _ _ _ _ _ _ _ c2 s2 y2 (fin os2 δ2 μ2 v2)⟩
end
def spGn (C : DC) (K : PySem.W.Frag) (f : D → (List D → Prop) → Prop) : SpG := fun vs H Q _ => vs.length = 1 ∧ ∃ G x F, Con C K ⟨H, G, []⟩ [] G H ∧ Dps C K G vs [x] ∧ f x F ∧ ∀ out os G' H', Con C K ⟨H, G, []⟩ [] G' H' → Dps C K G' out os → F os → Q out H'
/-- THE RULE: a generator def of one parameter -/
theorem okG {P : Program} {w : World} {K : PySem.W.Frag} {mg : PySem.Str → Option Value} {base : Heap} {C : DC} {x qual p0 : PySem.Str} {params : Arguments} {body : List Stmt} {scope : Scope} {fa : Addr} {fd : FuncData} {N : List PySem.Str} {k : Nat} {f : D → (List D → Prop) → Prop} {db : DGn}
    (F : FunD K x qual params body scope [] [] fa fd) (S : GScope N [p0] scope)
    (hb : ∀ (cdv : Value) (A : Around) (outer : List Env) (s : Shared) (H : Hp) (E : XK) (pn : List (Addr × Obj)), Room k (A.deeper (envOfC qual scope s.heap.objs.size fa cdv)) → DGSs (gcxOf P w K mg base N qual scope fa cdv A outer s H E pn) C body db)
    (pure_ : ∀ d Q, f d Q → db (fun os _ _ => Q os) [] (slots N [d]) []) : GFn P w K mg base (k + 1) fa fd [p0] (spGn C K f) := by
  obtain ⟨oc, od, dV, kV, doc, pm, an, cdv, ct, osl, rfl, lk, hcd, _, _⟩ := F.ex
  refine gfn_of lk hcd S (fun vs H Q E h => h.1) fun A outer s H vs Q E pn hr ⟨hl, G, d, FF, c, hd, hf, kk⟩ => ?_
  obtain ⟨t, g1, g2⟩ := hb cdv A outer s H E pn hr
  refine ⟨t, g1, g2 ⟨H, G, []⟩ _ _ [] G H [] [] _ _ c (sl_start hd) .nil (pure_ d _ hf) fun σ' δ' ys' os' μ' G' H' c' s' y' q' => kk ys' os' G' H' (c'.perm (fun _ m => by simp at m) List.nodup_nil) y' q'⟩
/-- a generator method: what it hands out -/
def GDa (P : Program) (w : World) (K : PySem.W.Frag) (mg : PySem.Str → Option Value) (base : Heap) (C : DC) (c : Nat) (m : PySem.Str) (k : Nat) (f : D → (List D → Prop) → Prop) : Prop :=
  Cls K (C.cls c) ∧ (∀ i, C.fld i ≠ m) ∧ ∃ fa fd ps, Meth K (C.cls c) m fa ∧ GFn P w K mg base k fa fd ps (spGn C K f) ∧ Binds K fd ps [] ∧ ps.length = 1
def dListG (c : Nat) (f : D → (List D → Prop) → Prop) (o : DE) : DE := fun δ μ Q R => o δ μ (fun x μ1 => isObj c x μ1 ∧ f x fun out => Q (.lst out) μ1) R
theorem e_listG {X : Cx} {C : DC} {W : WX} {o : Expr} {do_ : DE} {c k : Nat} {m : PySem.Str} {f : D → (List D → Prop) → Prop} {p pos apos pos' : Pos} {pl : Sem Bool} (h : GDa X.prog X.w X.K X.mg X.base C c m k f) (hr : Room (k + 3) X.A) (hm : X.mg "list" = none) (ho : DPE X C W o do_) (hg : Gl X "list" := by rfl)
    (ht : eval (.Call (.Attribute o m apos) [] [] pos') X.env = (do
      let ov ← eval o X.env
      standAt apos.atName
      let (f, first) ← holding [ov] (getMethod ov m pl)
      callWith pos' f first (backTo pos' (starEach [] X.env)) (backToKw pos' (keywordEach [] X.env))) := by rfl)
    (he : starEach [.Call (.Attribute o m apos) [] [] pos'] X.env = (false, eval (.Call (.Attribute o m apos) [] [] pos') X.env) :: starEach [] X.env := by rfl) :
    DPE X C W (.Call (.Name "list" p) [.Call (.Attribute o m apos) [] [] pos'] [] pos) (dListG c f do_) := by
  obtain ⟨cl, hf, fa, fd, ps, hme, F, hb, hl⟩ := h
  obtain ⟨to, o1, o2⟩ := ho
  refine ⟨_, pe_listG (pgen_meth0 (E := fun _ _ _ => False) o1 cl hme F (hr.mono (by omega)) hb .nil ht) passF (fun _ _ _ z => z.elim) hr hg hm (show bootBuiltins ("list" : PySem.Str) = some (.type "list") by decide +kernel) (by decide) (by decide) he, fun B σ δ μ G H Q DQ_ R cc s q rr kk => o2 B σ δ μ G H _ _ R cc s q rr fun x dx μ1 G1 H1 c1 e1 p1 ⟨q1, q2⟩ => ?_⟩
  obtain ⟨a, dxa, fs, es, rfl, ea, hfs⟩ := q1.at c1 p1
  refine ⟨a, dxa, fs, rfl, ea, hfs.none hf, rfl, G1, dx, _, c1.go 0, .cons p1 .nil, q2, fun out os G' H' c' y' q' pp hpp => ?_⟩
  have c2 : Con C X.K B μ1 G' H' := Con.back (μ := []) c1 c'
  have e2 := Ex.new (o := .lst out) (c2.sub.free hpp)
  exact kk _ _ μ1 _ _ (c2.data hpp) ((e1.trans c'.old).trans e2) (.lst upd_same (y'.mono e2)) q'
end DL

namespace DL
open PySem PySem.Spec PyProof.Rows L2

/-! ### the head's Hook: facts, defs at any address, one def with a class cell, a Bool of one's own -/
abbrev GeV : Type := Option (PySem.Str × PySem.Str × Arguments × FuncBody × Scope × Addr × List PySem.Str × Addr)
def geObs (K : PySem.W.Frag) (a : Addr) : GeV := match K.lookup a with
  | some ⟨_, _, .func fd, _⟩ => some (fd.name, fd.qualname, fd.params, fd.body, fd.scope, fd.globals, fd.closure.map (·.1), fd.builtins)
  | _ => none
abbrev GeD : Type := (PySem.W.Frag → Addr) × GeV
abbrev AlB : Type := He.AlD × (Bool × List GeV)
def obsB (fa : List He.Fa) (fn : List He5.DefA) (ge : List GeD) (ex : PySem.W.Frag → Bool) (K : PySem.W.Frag) : AlB := (He5.obsA fa fn K, ex K, ge.map fun g => geObs K (g.1 K))
def valB (fn : List He5.DefA) (ge : List GeD) : AlB := (He5.valA fn, true, ge.map (·.2))
def SaysB (fa : List He.Fa) (fn : List He5.DefA) (ge : List GeD) (ex : PySem.W.Frag → Bool) (K : PySem.W.Frag) : Prop := obsB fa fn ge ex K = valB fn ge
def obsBG (n : Nat) (fa : List He.Fa) (fn : List He5.DefA) (ge : List GeD) (ex : PySem.W.Frag → Bool) (g : Addr → Option Obj) : AlB := obsB fa fn ge ex (He.frG g (He5.asA g n))
def hookB (n : Nat) (fa : List He.Fa) (fn : List He5.DefA) (ge : List GeD) (ex : PySem.W.Frag → Bool) : PySem.W.Hook where
  α := AlB
  obs := fun s => obsBG n fa fn ge ex s.heap.get?
  val := fun _ => valB fn ge
  says := fun _ h => ∃ K : PySem.W.Frag, K.In h ∧ SaysB fa fn ge ex K
  of := fun _ _ e => ⟨_, He.frG_in, e⟩
  keeps := fun _ _ _ ⟨K, hK, c⟩ k => ⟨K, PySem.W.Frag.In.keeps hK k, c⟩
theorem obsBG_eq {n : Nat} {fa : List He.Fa} {fn : List He5.DefA} {ge : List GeD} {ex : PySem.W.Frag → Bool} {g : Addr → Option Obj} {s : Shared} (h : ∀ a, g a = s.heap.get? a) : obsBG n fa fn ge ex g = (hookB n fa fn ge ex).obs s := by
  have e : g = s.heap.get? := funext h
  rw [e] <;> rfl
section
variable {fa : List He.Fa} {fn : List He5.DefA} {gd : List GeD} {ex : PySem.W.Frag → Bool} {K : PySem.W.Frag}
theorem SaysB.a (c : SaysB fa fn gd ex K) : He5.SaysA fa fn K := congrArg (fun z : AlB => z.1) c
theorem SaysB.more (c : SaysB fa fn gd ex K) : ex K = true := congrArg (fun z : AlB => z.2.1) c
theorem SaysB.ge (c : SaysB fa fn gd ex K) (i : Nat) {g : GeD} (h : gd[i]? = some g := by rfl) : geObs K (g.1 K) = g.2 := by
  have e : (gd.map fun g => geObs K (g.1 K)) = gd.map (·.2) := congrArg (fun z : AlB => z.2.2) c
  have e2 : (gd.map fun g => geObs K (g.1 K))[i]? = (gd.map (·.2))[i]? := by rw [e]
  rw [List.getElem?_map, List.getElem?_map, h] at e2
  exact Option.some.inj e2
theorem SaysB.fact (c : SaysB fa fn gd ex K) {f : He.Fa} (h : f ∈ fa) : f.ok K = true := by
  obtain ⟨i, hi, e⟩ := List.mem_iff_getElem.mp h
  exact c.a.fact i (f := f) (by rw [List.getElem?_eq_getElem hi, e])
theorem SaysB.def_ (c : SaysB fa fn gd ex K) {d : He5.DefA} (h : d ∈ fn) : ∃ fd, FunD K d.name d.qual d.params d.body d.scope (d.dvs K) (d.kws K) (d.at_ K) fd := by
  obtain ⟨i, hi, e⟩ := List.mem_iff_getElem.mp h
  exact c.a.def_ i (d := d) (by rw [List.getElem?_eq_getElem hi, e])
end

/-! ### facts as Bools -/
theorem dec2 {a b : Bool} (h : (a && b) = true) : a = true ∧ b = true := Bool.and_eq_true_iff.mp h
section
variable {K : PySem.W.Frag} {P : Program}
def oexK (K : PySem.W.Frag) (C : Addr) : Bool := match K.lookup C with
  | some ⟨.type "type", _, .cls cd, sl⟩ => (match cd.mro, sl.toList with
    | .ref C' :: bm, [_, _, _, _, some (.builtin n), _] => C' == C && (n == "ValueError.__new__" && (!cd.hasDel && (cd.hasDict && PySem.HandSPX.refsVE bm)))
    | _, _ => false)
  | _ => false
theorem oexK_ok {C : Addr} (h : oexK K C = true) : ∃ nm q N bs bm sn sub ab col dd k0 k1 k2 k3 k5, K.lookup C = some (excClassObj nm q C N bs bm true sn sub ab col dd k0 k1 k2 k3 k5 "ValueError.__new__") ∧ PySem.HandSPX.refsVE bm = true := by
  unfold oexK at h
  split at h
  · rename_i dd cd sl ho
    split at h
    · rename_i C' bm k0 k1 k2 k3 n k5 hm hs
      simp only [Bool.and_eq_true, beq_iff_eq, Bool.not_eq_true'] at h
      obtain ⟨rfl, rfl, hdel, hdc, hb⟩ := h
      obtain ⟨nm, bs, mro, ns, qn, hd, sn, sub, ab, col, del⟩ := cd
      dsimp only at hm hdel hdc
      subst hm hdel hdc
      have hsl : sl = #[k0, k1, k2, k3, some (.builtin "ValueError.__new__"), k5] := by
        obtain ⟨l⟩ := sl
        simp only at hs
        rw [hs]
      subst hsl
      exact ⟨nm, qn, ns, bs, bm, sn, sub, ab, col, dd, k0, k1, k2, k3, k5, ho, hb⟩
    · cases h
  · cases h
def eqB (a b : Option Bool) : Bool := decide (a = b)
def oexB (K : PySem.W.Frag) (C : Addr) : Bool := oexK K C && (He.eqO (PySem.W.findIn K (.ref C) "__setattr__") (some (some (.builtin "object.__setattr__"))) && (eqB (PySem.W.subIn K (.ref C) (.type "BaseException")) (some true) && (decide (PySem.W.typeIn K (.ref C) = some (.type "type")) && PySem.W.keepIn K (.ref C))))
theorem oexB_ok {C : Addr} (h : oexB K C = true) : OexC K C := by
  obtain ⟨h1, h⟩ := dec2 h
  obtain ⟨h2, h⟩ := dec2 h
  obtain ⟨h3, h⟩ := dec2 h
  obtain ⟨h4, h5⟩ := dec2 h
  exact ⟨oexK_ok h1, He.eqO_ok h2, of_decide_eq_true h3, of_decide_eq_true h4, h5⟩
def geCB (K : PySem.W.Frag) (D C : Addr) : Bool := oexB K C && (He.eqO (PySem.W.findIn K (.ref C) "value") (some none) && (eqB (PySem.W.mroIn K C (.ref D)) (some true) && (eqB (PySem.W.subIn K (.ref C) (.type "ValueError")) (some true) && He.eqO (PySem.W.ks_superIn K C D "__init__") (some (some (.builtin "ValueError.__init__"))))))
theorem geCB_ok {D C : Addr} (h : geCB K D C = true) : GeC K D C := by
  obtain ⟨h1, h⟩ := dec2 h
  obtain ⟨h2, h⟩ := dec2 h
  obtain ⟨h3, h⟩ := dec2 h
  obtain ⟨h4, h5⟩ := dec2 h
  exact ⟨oexB_ok h1, He.eqO_ok h2, of_decide_eq_true h3, of_decide_eq_true h4, He.eqO_ok h5⟩
def excB (K : PySem.W.Frag) (C : Addr) : Bool := xfB K C && (He.eqO (PySem.W.findIn K (.ref C) "__class__") (some (some (.builtin "object.__class__"))) && (He.eqO (PySem.W.specialIn K (.builtin "object.__class__") "__get__") (some (some (.builtin "getset_descriptor.__get__"))) &&
  (eqB (PySem.W.takesIn K (.builtin "object.__class__")) (some true) && eqB (PySem.W.mroIn K C (.type "object")) (some true))))
theorem excB_ok {C : Addr} (h : excB K C = true) : XfC K C ∧ ExcC K C := by
  obtain ⟨h1, h⟩ := dec2 h
  obtain ⟨h2, h⟩ := dec2 h
  obtain ⟨h3, h⟩ := dec2 h
  obtain ⟨h4, h5⟩ := dec2 h
  have x := xfB_ok h1
  exact ⟨x, ⟨x.ga, x.gg, x.exC, x.hdC, He.eqO_ok h2, He.eqO_ok h3, of_decide_eq_true h4, of_decide_eq_true h5⟩⟩
/-- a class's __init__ as it is found -/
def initAt (K : PySem.W.Frag) (C : Addr) (f : Addr) : Bool := He.eqO (PySem.W.findIn K (.ref C) "__init__") (some (some (.ref f)))
/-- the parts of GrowsError.__init__ that name no text -/
def geFB (file : PySem.Str) (K : PySem.W.Frag) (D fI : Addr) (qual : PySem.Str) : Bool := (match K.lookup fI with
  | some ⟨_, _, .func fd, _⟩ => (match fd.code, fd.closure with
    | .ref cda, [(_, cc)] => decide (fd.defaults = .none) && (decide (fd.kwdefaults = .none) && PySem.W.codeIn K (.ref cda) qual) && ((match K.lookup cda with
        | some ⟨_, _, .fields vs, _⟩ => (match (vs[2]? : Option Value) with
          | some (Value.str x _) => file == x
          | _ => false)
        | _ => false) && (match K.lookup cc with
        | some ⟨_, _, .cell (some (.ref d)), _⟩ => decide (d = D)
        | _ => false))
    | _, _ => false)
  | _ => false) && ((PySem.W.clsIn K D).isSome && (decide (PySem.W.typeIn K (.ref fI) = some (.type "function")) && He.eqO (PySem.W.nsIn K cStatics "thirdparty.any") (some none)))
theorem geF_ok {mg : PySem.Str → Option Value} {D fI : Addr} {qual : PySem.Str} {pa1 pa2 p1 p2 p3 p4 q1 q2 q3 q4 q5 q6 q7 q8 : Pos} {sc : Scope} (h : geFB P.main.file K D fI qual = true)
    (hv : geObs K fI = some (PySem.Str.ofString "__init__", qual, (⟨[], [⟨"self", none, pa1⟩, ⟨"value", none, pa2⟩], none, [], [], none, []⟩ : Arguments), FuncBody.stmts (geBody p1 p2 p3 p4 q1 q2 q3 q4 q5 q6 q7 q8), sc, mainGlobals, [PySem.Str.ofString "__class__"], builtinsNs))
    (hsc : sc = ⟨.function, [("self", .local), ("value", .local), ("__class__", .free), ("super", .globalImplicit), ("repr", .globalImplicit)], false, false, []⟩)
    (hev : ∀ env, ∃ pl, eval (.Call (.Attribute (.Call (.Name "super" q1) [] [] q2) "__init__" q3) [.Call (.Name "repr" q4) [.Name "value" q5] [] q6] [] q7) env = (do
      let ov ← attributeBase (.Call (.Name "super" q1) [] [] q2) "__init__" env (eval (.Call (.Name "super" q1) [] [] q2) env)
      standAt q3.atName
      let (f, first) ← holding [ov] (getMethod ov "__init__" pl)
      callWith q7 f first (backTo q7 (starEach [.Call (.Name "repr" q4) [.Name "value" q5] [] q6] env)) []))
    (msup : mg "super" = none) (mrep : mg "repr" = none) (top : (P.main.scope.names.lookup ("super" : PySem.Str)).isSome = false) : PySem.W.typeIn K (.ref fI) = some (.type "function") ∧ ∃ fd, GeF P K mg D fI fd ∧ Binds K fd ["self", "value"] [] := by
  subst hsc
  obtain ⟨h0, h⟩ := dec2 h
  obtain ⟨h1, h⟩ := dec2 h
  obtain ⟨h2, h3⟩ := dec2 h
  refine ⟨of_decide_eq_true h2, ?_⟩
  obtain ⟨cdD, hD⟩ := Option.isSome_iff_exists.mp h1
  unfold geObs at hv
  cases q : K.lookup fI with
  | none => rw [q] at hv; cases hv
  | some o =>
    obtain ⟨oc, od, dt, osl⟩ := o
    rw [q] at hv h0
    cases dt with
    | func fd =>
      obtain ⟨n1, n2, n3, n4, n5, n6, n7, n8, n9, n10, n11, n12, n13, n14, n15⟩ := fd
      simp only [Option.some.injEq, Prod.mk.injEq] at hv
      obtain ⟨rfl, rfl, rfl, rfl, rfl, rfl, e7, rfl⟩ := hv
      dsimp only at h0
      split at h0
      · rename_i cda z cc
        simp only [List.map_cons, List.map_nil, List.cons.injEq, and_true] at e7
        subst e7
        obtain ⟨c1', h0'⟩ := dec2 h0
        obtain ⟨d8, c1''⟩ := dec2 c1'
        obtain ⟨d9, c1⟩ := dec2 c1''
        have e8 : n8 = .none := of_decide_eq_true d8
        have e9 : n9 = .none := of_decide_eq_true d9
        subst e8
        subst e9
        obtain ⟨c2, c3⟩ := dec2 h0'
        split at c2
        · rename_i ccl cdd vs ccs hcode
          split at c2
          · rename_i x tf hvs
            split at c3
            · rename_i cl cld d csl hcell
              have := of_decide_eq_true c3
              subst this
              exact ⟨_, ⟨⟨n2, pa1, pa2, _, .none, .none, n10, n11, n14, oc, ccl, cl, n12, od, cdd, cld, osl, ccs, csl, cda, cc, vs, x, tf, cdD, p1, p2, p3, p4, q1, q2, q3, q4, q5, q6, q7, q8, rfl, q, c1, hcode, hvs, c2, hcell, hD, rfl, hev⟩, msup, mrep, top, He.eqO_ok h3⟩,
                .all fun us hl => match us, hl with | [_, _], _ => rfl⟩
            · cases c3
          · cases c2
        · cases c2
      · cases h0
    | _ => cases hv
end
end DL

namespace DL
open PySem PySem.Spec PyProof.Rows L2
section
variable {δ : Dl} {μ : Mem} {Q : DQ} {R : DR} {E : DEnds} {o : Option D} {d x y z u v : D} {i j k n : Nat} {a b : DE} {as : DA} {s t : DS} {p q : Addr} {F : D → Prop} {ds : List D} {Z : Dl → Mem → Prop}
theorem z_var0 : dVar 0 (some d :: δ) μ Q R = Q d μ := rfl
theorem z_varS : dVar (i + 1) (o :: δ) μ Q R = dVar i δ μ Q R := rfl
theorem z_name0 : dgName 0 d (o :: δ) μ Z = Z (some d :: δ) μ := rfl
theorem z_nameS : dgName (i + 1) d (o :: δ) μ Z = dgName i d δ μ fun δ' μ' => Z (o :: δ') μ' := rfl
theorem z_c : dC d δ μ Q R = Q d μ := rfl
theorem z_seq : dSeq s t E δ μ = s { nx := fun δ μ => t E δ μ, rt := E.rt, bk := E.bk, ct := E.ct, ra := E.ra } δ μ := rfl
theorem z_next : dNext E δ μ = E.nx δ μ := rfl
theorem z_if {c : DT} : dIfS c s t E δ μ = c δ μ (fun c μ1 => if c = true then s E δ μ1 else t E δ μ1) (E.ra δ) := rfl
theorem z_asg {g : DG} : dAsg a g E δ μ = a δ μ (fun x μ1 => g x δ μ1 E.nx) (E.ra δ) := rfl
theorem z_ret : dRet a E δ μ = a δ μ E.rt (E.ra δ) := rfl
theorem z_drop : dDrop a E δ μ = a δ μ (fun x μ1 => E.nx δ μ1) (E.ra δ) := rfl
theorem atI_nat {α : Type} {xs : List α} {k : Nat} {x : α} (h : xs[k]? = some x) : atI xs (k : Int) = some x := by
  have : k < xs.length := by
    rcases Nat.lt_or_ge k xs.length with h' | h'
    · exact h'
    · rw [List.getElem?_eq_none h'] at h; cases h
  have h2 : (k : Int) < (xs.length : Int) := by omega
  simp only [atI, ixN, Int.natCast_nonneg, h2, if_true, Int.toNat_natCast, Option.bind_some, h]
theorem ixN_nat {n k : Nat} (h : k < n) : ixN n (k : Int) = some k := by
  have h2 : (k : Int) < (n : Int) := by omega
  simp only [ixN, Int.natCast_nonneg, h2, if_true, Int.toNat_natCast]
def bl_ (x : D) (F : Bool → Prop) : Prop := match x with | .bl b => F b | _ => False
theorem z_val : dVal a δ μ Q' R = a δ μ (fun x μ1 => bl_ x fun b => Q' b μ1) R := rfl
theorem z_bl {b : Bool} {F : Bool → Prop} : bl_ (.bl b) F = F b := rfl
theorem z_and {t u : DT} : dAnd t u δ μ Q' R = t δ μ (fun b μ1 => if b = true then u δ μ1 Q' R else Q' false μ1) R := rfl
theorem z_or {t u : DT} : dOr t u δ μ Q' R = t δ μ (fun b μ1 => if b = true then Q' true μ1 else u δ μ1 Q' R) R := rfl
theorem z_not {t : DT} : dNot t δ μ Q' R = t δ μ (fun b μ1 => Q' (!b) μ1) R := rfl
theorem z_bin {f : FOp} : dBin f a b δ μ Q R = a δ μ (fun x μ1 => b δ μ1 (fun y μ2 => f x y fun z => Q z μ2) R) R := rfl
theorem z_cb {f : FC} : dCB f as δ μ Q R = as δ μ (fun xs μ1 => f xs fun z => Q z μ1) R := rfl
theorem z_nil {Q : List D → Mem → Prop} : dNil δ μ Q R = Q [] μ := rfl
theorem z_cons {Q : List D → Mem → Prop} : dCons a as δ μ Q R = a δ μ (fun x μ1 => as δ μ1 (fun xs μ2 => Q (x :: xs) μ2) R) R := rfl
theorem z_i0 {g : Int → Int → D} {m n : Int} : fI0 g (.int m) (.int n) F = F (g m n) := rfl
theorem z_i {P : Int → Int → Prop} {g : Int → Int → D} {m n : Int} : fI P g (.int m) (.int n) F = (P m n ∧ F (g m n)) := rfl
theorem z_mul {m n : Int} : fMul (.int m) (.int n) F = ((CMulW m n ∨ CMul m n) ∧ F (.int (m * n))) := rfl
theorem z_add {m n : Int} : fAdd (.int m) (.int n) F = F (.int (m + n)) := rfl
theorem z_lt {m n : Int} : fLt (.int m) (.int n) F = F (.bl (decide (m < n))) := rfl
theorem z_le {m n : Int} : fLe (.int m) (.int n) F = F (.bl (decide (m ≤ n))) := rfl
theorem z_gt {m n : Int} : fGt (.int m) (.int n) F = F (.bl (decide (n < m))) := rfl
theorem z_ge {m n : Int} : fGe (.int m) (.int n) F = F (.bl (decide (n ≤ m))) := rfl
theorem z_eq {m n : Int} : fEq (.int m) (.int n) F = F (.bl (decide (m = n))) := rfl
theorem z_ne {m n : Int} : fNe (.int m) (.int n) F = F (.bl (!decide (m = n))) := rfl
theorem z_len : fLen [.lst ds] F = F (.int (ds.length : Nat)) := rfl
theorem z_lens {s : SS} : fLen [.str s] F = F (.int (s.length : Nat)) := rfl
theorem z_int {m : Int} : fInt [.int m] F = F (.int m) := rfl
theorem z_intb {b : Bool} : fInt [.bl b] F = F (.int (if b then 1 else 0)) := rfl
def ix_ (j : Nat) (x y : D) (μ : Mem) (F : D → Prop) : Prop := match x, y, μ[j]? with
  | .adr p, .int i, some (q, .lst ds) => p = q ∧ ∃ d, atI ds i = some d ∧ F d
  | _, _, _ => False
theorem z_ixO : dIxO j a b δ μ Q R = a δ μ (fun x μ1 => b δ μ1 (fun y μ2 => ix_ j x y μ2 fun d => Q d μ2) R) R := by
  unfold dIxO ix_
  rfl
theorem z_ixE {m : Int} (h : atI ds m = some d) : ix_ 0 (.adr p) (.int m) ((p, .lst ds) :: μ) F = F d := by
  unfold ix_
  simp [h]
theorem z_ix0 : ix_ 0 (.adr p) (.int 0) ((p, .lst (x :: ds)) :: μ) F = F x := z_ixE (atI_nat (k := 0) rfl)
theorem z_ix1 : ix_ 0 (.adr p) (.int 1) ((p, .lst (x :: y :: ds)) :: μ) F = F y := z_ixE (atI_nat (k := 1) rfl)
theorem z_ix2 : ix_ 0 (.adr p) (.int 2) ((p, .lst (x :: y :: z :: ds)) :: μ) F = F z := z_ixE (atI_nat (k := 2) rfl)
theorem z_ix3 : ix_ 0 (.adr p) (.int 3) ((p, .lst (x :: y :: z :: u :: ds)) :: μ) F = F u := z_ixE (atI_nat (k := 3) rfl)
theorem z_ix4 : ix_ 0 (.adr p) (.int 4) ((p, .lst (x :: y :: z :: u :: v :: ds)) :: μ) F = F v := z_ixE (atI_nat (k := 4) rfl)
def sub_ (j : Nat) (d x y : D) (μ : Mem) (F : Mem → Prop) : Prop := match x, y, μ[j]? with
  | .adr p, .int k, some (q, .lst ds) => p = q ∧ ∃ m, ixN ds.length k = some m ∧ F (μ.set j (p, .lst (ds.set m d)))
  | _, _, _ => False
theorem z_gsub : dgSub j a b d δ μ Z = a δ μ (fun x μ1 => b δ μ1 (fun y μ2 => sub_ j d x y μ2 fun μ3 => Z δ μ3) dNR) dNR := by
  unfold dgSub sub_
  rfl
theorem z_subE {F : Mem → Prop} {m : Int} {k : Nat} (h : ixN ds.length m = some k) : sub_ 0 d (.adr p) (.int m) ((p, .lst ds) :: μ) F = F ((p, .lst (ds.set k d)) :: μ) := by
  unfold sub_
  simp [h]
theorem z_sub1 {F : Mem → Prop} : sub_ 0 d (.adr p) (.int 1) ((p, .lst (x :: y :: ds)) :: μ) F = F ((p, .lst (x :: d :: ds)) :: μ) := z_subE (ixN_nat (k := 1) (by simp only [List.length_cons]; omega))
theorem z_sub2 {F : Mem → Prop} : sub_ 0 d (.adr p) (.int 2) ((p, .lst (x :: y :: z :: ds)) :: μ) F = F ((p, .lst (x :: y :: d :: ds)) :: μ) := z_subE (ixN_nat (k := 2) (by simp only [List.length_cons]; omega))
theorem z_sub3 {F : Mem → Prop} : sub_ 0 d (.adr p) (.int 3) ((p, .lst (x :: y :: z :: u :: ds)) :: μ) F = F ((p, .lst (x :: y :: z :: d :: ds)) :: μ) := z_subE (ixN_nat (k := 3) (by simp only [List.length_cons]; omega))
theorem z_sub4 {F : Mem → Prop} : sub_ 0 d (.adr p) (.int 4) ((p, .lst (x :: y :: z :: u :: v :: ds)) :: μ) F = F ((p, .lst (x :: y :: z :: u :: d :: ds)) :: μ) := z_subE (ixN_nat (k := 4) (by simp only [List.length_cons]; omega))
theorem z_for {di : DI} {g : DG} : dFor di g s E δ μ = di δ μ (fun its μ1 => ∃ Jv : Nat → Dl → Mem → Prop, Jv 0 δ μ1 ∧ (∀ (k : Nat) (d : D) (δ : Dl) (μ : Mem), its[k]? = some d → Jv k δ μ →
    g d δ μ fun δ2 μ2 => s { nx := Jv (k + 1), rt := E.rt, bk := E.nx, ct := Jv (k + 1), ra := E.ra } δ2 μ2) ∧ ∀ (δ : Dl) (μ : Mem), Jv its.length δ μ → E.nx δ μ) (E.ra δ) := rfl
theorem z_itA {f : FI} {Q : List D → Mem → Prop} : dItA f as δ μ Q R = as δ μ (fun xs μ1 => f xs fun its => Q its μ1) R := rfl
theorem z_any {Q : List D → Mem → Prop} : dAny a δ μ Q R = a δ μ (fun d μ1 => fItems d fun its => Q its μ1) R := rfl
theorem z_itl {F : List D → Prop} : fItems (.lst ds) F = F ds := rfl
theorem z_itt {F : List D → Prop} : fItems (.tup ds) F = F ds := rfl
theorem z_its {s : SS} {F : List D → Prop} : fItems (.str s) F = F (s.map fun c => .str [c]) := rfl
theorem z_lcg {fin : List D → Mem → DQ → Prop} {di : DI} {g : DG} {tt : DT} {vs : List Nat} : dLcG fin di g tt a vs δ μ Q R = di δ μ (fun its μ1 => its.length < 16777216 ∧ ∃ Jv : Nat → List D → Mem → Prop, Jv 0 [] μ1 ∧
    (∀ (k : Nat) (d : D) (acc : List D) (μ : Mem), its[k]? = some d → acc.length ≤ k → Jv k acc μ → g d (wipeD δ vs) μ fun δ2 μ2 => tt δ2 μ2 (fun b μ3 => if b = true then a δ2 μ3 (fun y μ4 => Jv (k + 1) (acc ++ [y]) μ4) dNR
      else Jv (k + 1) acc μ3) dNR) ∧ ∀ (acc : List D) (μ : Mem), acc.length ≤ its.length → Jv its.length acc μ → fin acc μ Q) R := rfl
theorem z_yes {Q' : Bool → Mem → Prop} : tYesD δ μ Q' R = Q' true μ := rfl
theorem z_ifx {t : DT} : dIf t a b δ μ Q R = t δ μ (fun z μ1 => if z = true then a δ μ1 Q R else b δ μ1 Q R) R := rfl
theorem z_tup : dTup as δ μ Q R = as δ μ (fun xs μ1 => xs.length ≤ 16777216 ∧ Q (.tup xs) μ1) R := rfl
theorem z_lst : dLst as δ μ Q R = as δ μ (fun xs μ1 => xs.length ≤ 16777216 ∧ Q (.lst xs) μ1) R := rfl
theorem z_lstO : dLstO as δ μ Q R = as δ μ (fun xs μ1 => xs.length ≤ 16777216 ∧ ∀ p : Addr, Q (.adr p) (μ1 ++ [(p, .lst xs)])) R := rfl
theorem z_nop {Q : Option Int → Mem → Prop} : dNoP δ μ Q R = Q none μ := rfl
def pa_ (x : D) (F : Option Int → Prop) : Prop := match x with | .int i => F (some i) | _ => False
theorem z_part {Q : Option Int → Mem → Prop} : dPart a δ μ Q R = a δ μ (fun x μ1 => pa_ x fun i => Q i μ1) R := rfl
theorem z_pa {m : Int} {F : Option Int → Prop} : pa_ (.int m) F = F (some m) := rfl
def sl_ (x : D) (l u : Option Int) (F : D → Prop) : Prop := match x with
  | .lst ds => F (.lst (cut ds l u))
  | .tup ds => F (.tup (cut ds l u))
  | .str s => F (.str (cut s l u))
  | _ => False
theorem z_slx {lo hi : DO} : dSl a lo hi δ μ Q R = a δ μ (fun x μ1 => lo δ μ1 (fun l μ2 => hi δ μ2 (fun u μ3 => sl_ x l u fun y => Q y μ3) R) R) R := by
  unfold dSl sl_
  congr 1
theorem z_sll {l u : Option Int} : sl_ (.lst ds) l u F = F (.lst (cut ds l u)) := rfl
theorem z_slt {l u : Option Int} : sl_ (.tup ds) l u F = F (.tup (cut ds l u)) := rfl
theorem z_sls {s : SS} {l u : Option Int} : sl_ (.str s) l u F = F (.str (cut s l u)) := rfl
def ch_ (z : D) (F : Prop) (G : Prop) : Prop := match z with | .bl true => F | .bl false => G | _ => False
theorem z_chain {f g : FOp} {c : DE} : dChain f g a b c δ μ Q R = a δ μ (fun x μ1 => b δ μ1 (fun y μ2 => f x y fun z => ch_ z (c δ μ2 (fun w μ3 => g y w fun v => Q v μ3) R) (Q (.bl false) μ2)) R) R := rfl
theorem z_ch {b : Bool} {A B : Prop} : ch_ (.bl b) A B = if b = true then A else B := by cases b <;> simp [ch_]
theorem z_andv : dAndV a b δ μ Q R = a δ μ (fun x μ1 => ch_ x (b δ μ1 Q R) (Q (.bl false) μ1)) R := rfl
theorem z_orv : dOrV a b δ μ Q R = a δ μ (fun x μ1 => ch_ x (Q (.bl true) μ1) (b δ μ1 Q R)) R := by
  unfold dOrV ch_
  congr 1
  funext x μ1
  cases x <;> try rfl
  rename_i w; cases w <;> rfl
theorem z_fnot {w : Bool} : fNot (.bl w) F = F (.bl (!w)) := rfl
theorem z_un {f : D → (D → Prop) → Prop} : dUn f a δ μ Q R = a δ μ (fun x μ1 => f x fun z => Q z μ1) R := rfl
theorem z_neg {m : Int} : fNeg (.int m) F = F (.int (-m)) := rfl
theorem z_call {na : Nat} {f : DF} : dCall n na ds f as δ μ Q R = as δ μ (fun xs μ1 => xs.length = na ∧ f (xs ++ ds) (μ1.take n) (fun d μ' => Q d (μ'.take n ++ μ1.drop n ++ μ'.drop n)) (fun c d μ' => R c d (μ'.take n ++ μ1.drop n ++ μ'.drop n))) R := rfl
theorem z_prop {c : Nat} {f : DF} : dProp n c f a δ μ Q R = a δ μ (fun x μ1 => DL.isObj c x μ1 ∧ f [x] (μ1.take n) (fun d μ' => Q d (μ'.take n ++ μ1.drop n ++ μ'.drop n)) dNR) R := rfl
theorem z_meth {na c : Nat} {f : DF} : dMeth n na c ds f a as δ μ Q R = a δ μ (fun x μ0 => DL.isObj c x μ0 ∧ as δ μ0 (fun xs μ1 => xs.length = na ∧ f (x :: (xs ++ ds)) (μ1.take n) (fun d μ' => Q d (μ'.take n ++ μ1.drop n ++ μ'.drop n)) (fun c' d μ' => R c' d (μ'.take n ++ μ1.drop n ++ μ'.drop n))) R) R := rfl
theorem z_make {na c : Nat} {f : DF} : dMake na c ds f as δ μ Q R = as δ μ (fun xs μ1 => xs.length = na ∧ ∀ p : Addr, f (.adr p :: (xs ++ ds)) [(p, .ins c [])] (fun d μ' => d = .non ∧ ∃ fs, μ' = [(p, .ins c fs)] ∧ Q (.obj c fs) μ1) (fun c' d _ => R c' d μ1)) R := rfl
theorem z_obj {c c' : Nat} {es : List (Nat × D)} : DL.isObj c (.obj c' es) μ = (c' = c) := rfl
theorem z_fl {F : D → Prop} : fList [.lst ds] F = F (.lst ds) := rfl
theorem z_flt {F : D → Prop} : fList [.tup ds] F = F (.lst ds) := rfl
theorem z_flf {F : D → Prop} : fList [.fl ds] F = F (.lst ds) := rfl
theorem z_ft {F : D → Prop} : fTuple [.lst ds] F = F (.tup ds) := rfl
theorem z_ftt {F : D → Prop} : fTuple [.tup ds] F = F (.tup ds) := rfl
theorem z_lent : fLen [.tup ds] F = F (.int (ds.length : Nat)) := rfl
theorem z_adds {w v : SS} : fAdd (.str w) (.str v) F = (w.length + v.length ≤ 16777216 ∧ F (.str (w ++ v))) := rfl
theorem z_addl {w v : List D} : fAdd (.lst w) (.lst v) F = (w.length + v.length ≤ 16777216 ∧ F (.lst (w ++ v))) := rfl
theorem z_addt {w v : List D} : fAdd (.tup w) (.tup v) F = (w.length + v.length ≤ 16777216 ∧ F (.tup (w ++ v))) := rfl
theorem z_eqs {w v : SS} : fEq (.str w) (.str v) F = F (.bl (decide (w = v))) := rfl
theorem z_nes {w v : SS} : fNe (.str w) (.str v) F = F (.bl (!decide (w = v))) := rfl
theorem z_eqb {w v : Bool} : fEq (.bl w) (.bl v) F = F (.bl (decide (w = v))) := rfl
theorem z_eqn : fEq .non .non F = F (.bl true) := rfl
theorem z_eql {w v : List D} : fEq (.lst w) (.lst v) F = (plain (.lst w) = true ∧ plain (.lst v) = true ∧ (pyD (.lst w)).depth ≤ 64 ∧ (pyD (.lst v)).depth ≤ 64 ∧ F (.bl ((pyD (.lst w)).eqv (pyD (.lst v))))) := rfl
theorem z_nel {w v : List D} : fNe (.lst w) (.lst v) F = (plain (.lst w) = true ∧ plain (.lst v) = true ∧ (pyD (.lst w)).depth ≤ 64 ∧ (pyD (.lst v)).depth ≤ 64 ∧ F (.bl (!(pyD (.lst w)).eqv (pyD (.lst v))))) := rfl
theorem z_isn : fIs x .non F = F (.bl (isN x)) := rfl
theorem z_isnn : fIsNot x .non F = F (.bl (!isN x)) := rfl
theorem z_ins {c : Nat} {w : SS} : fIn (.str [c]) (.str w) F = F (.bl (decide (c ∈ w))) := rfl
theorem z_nins {c : Nat} {w : SS} : fNotIn (.str [c]) (.str w) F = F (.bl (!decide (c ∈ w))) := rfl
theorem z_ixt {m : Int} {w : List D} : fIx (.tup w) (.int m) F = fIx (.lst w) (.int m) F := rfl
theorem z_ixn (h : ds[k]? = some d) : fIx (.lst ds) (.int (k : Nat)) F = F d := by
  simp only [fIx, atI_nat h, Option.some.injEq, exists_eq_left']
theorem z_ixs {w : SS} {c : Nat} (h : w[k]? = some c) : fIx (.str w) (.int (k : Nat)) F = F (.str [c]) := by
  simp only [fIx, atI_nat h, Option.some.injEq, exists_eq_left']
theorem z_l0 : fIx (.lst (x :: ds)) (.int 0) F = F x := z_ixn (k := 0) rfl
theorem z_l1 : fIx (.lst (x :: y :: ds)) (.int 1) F = F y := z_ixn (k := 1) rfl
theorem z_l2 : fIx (.lst (x :: y :: z :: ds)) (.int 2) F = F z := z_ixn (k := 2) rfl
theorem z_rng {m : Nat} {F : List D → Prop} : fRng1 [.int (m : Nat)] F = ((m : Int) < 2 ^ 62 ∧ F (rng 0 m)) := by
  have : (-2 ^ 62 : Int) ≤ (m : Int) := by omega
  simp only [fRng1, this, true_and, Int.toNat_natCast]
theorem z_enl {F : List D → Prop} : fEnumA [.lst ds] F = F (enm 0 ds) := rfl
theorem z_ent {F : List D → Prop} : fEnumA [.tup ds] F = F (enm 0 ds) := rfl
theorem z_gtup {gs : DGs} : dgTup n gs (.tup ds) δ μ Z = (ds.length = n ∧ gs ds δ μ Z) := rfl
theorem z_gcons {g : DG} {gs : DGs} : dgCons g gs (d :: ds) δ μ Z = g d δ μ fun δ1 μ1 => gs ds δ1 μ1 Z := rfl
theorem z_gnil : dgNil ds δ μ Z = Z δ μ := rfl
theorem z_wipe0 : wipeD δ [] = δ := rfl
theorem z_wipe {vs : List Nat} : wipeD δ (n :: vs) = (wipeD δ vs).set n none := rfl
theorem z_mt {T : String} {f : FM} : dMt T f a as δ μ Q R = a δ μ (fun x μ1 => tyD T x μ1 ∧ as δ μ1 (fun xs μ2 => f x xs μ2 Q) R) R := rfl
theorem z_ty0 {w : List D} : tyD "list" (.adr p) ((p, .lst w) :: μ) = True := eq_true ⟨rfl, 0, w, rfl⟩
theorem z_ty1 {w : List D} {c : Addr × O} : tyD "list" (.adr p) (c :: (p, .lst w) :: μ) = True := eq_true ⟨rfl, 1, w, rfl⟩
theorem z_app0 {w : List D} : fApp 0 (.adr p) [d] ((p, .lst w) :: μ) Q = (w.length < 16777216 ∧ Q .non ((p, .lst (w ++ [d])) :: μ)) := by
  simp [fApp]
theorem z_app1 {w : List D} {c : Addr × O} : fApp 1 (.adr p) [d] (c :: (p, .lst w) :: μ) Q = (w.length < 16777216 ∧ Q .non (c :: (p, .lst (w ++ [d])) :: μ)) := by
  simp [fApp]
def ra_ (xs : List D) (F : D → Prop) : Prop := match xs with | [d] => repOk d ∧ F d | _ => False
theorem z_raise {c : Nat} : dRaise c as E δ μ = as δ μ (fun xs μ1 => ra_ xs fun d => E.ra δ c d μ1) (E.ra δ) := by
  unfold dRaise ra_
  rfl
theorem z_ra {F : D → Prop} : ra_ [d] F = (repOk d ∧ F d) := rfl
theorem z_isi {t n : String} {b : Bool} (h1 : tyName x = some t) (h2 : isiT t n = some b) : fIsi [x, .ty n] F = F (.bl b) := by
  refine propext ⟨fun ⟨_, _, a1, a2, q⟩ => ?_, fun q => ⟨_, _, h1, h2, q⟩⟩
  cases h1.symm.trans a1
  cases h2.symm.trans a2
  exact q
theorem z_is_i_bool {m : Int} : fIsi [(.int m), .ty "bool"] F = F (.bl false) := z_isi rfl (by decide)
theorem z_is_i_int {m : Int} : fIsi [(.int m), .ty "int"] F = F (.bl true) := z_isi rfl (by decide)
theorem z_is_i_str {m : Int} : fIsi [(.int m), .ty "str"] F = F (.bl false) := z_isi rfl (by decide)
theorem z_is_i_tuple {m : Int} : fIsi [(.int m), .ty "tuple"] F = F (.bl false) := z_isi rfl (by decide)
theorem z_is_i_list {m : Int} : fIsi [(.int m), .ty "list"] F = F (.bl false) := z_isi rfl (by decide)
theorem z_is_b_bool {w : Bool} : fIsi [(.bl w), .ty "bool"] F = F (.bl true) := z_isi rfl (by decide)
theorem z_is_b_int {w : Bool} : fIsi [(.bl w), .ty "int"] F = F (.bl true) := z_isi rfl (by decide)
theorem z_is_b_str {w : Bool} : fIsi [(.bl w), .ty "str"] F = F (.bl false) := z_isi rfl (by decide)
theorem z_is_b_tuple {w : Bool} : fIsi [(.bl w), .ty "tuple"] F = F (.bl false) := z_isi rfl (by decide)
theorem z_is_b_list {w : Bool} : fIsi [(.bl w), .ty "list"] F = F (.bl false) := z_isi rfl (by decide)
theorem z_is_s_bool {w : SS} : fIsi [(.str w), .ty "bool"] F = F (.bl false) := z_isi rfl (by decide)
theorem z_is_s_int {w : SS} : fIsi [(.str w), .ty "int"] F = F (.bl false) := z_isi rfl (by decide)
theorem z_is_s_str {w : SS} : fIsi [(.str w), .ty "str"] F = F (.bl true) := z_isi rfl (by decide)
theorem z_is_s_tuple {w : SS} : fIsi [(.str w), .ty "tuple"] F = F (.bl false) := z_isi rfl (by decide)
theorem z_is_s_list {w : SS} : fIsi [(.str w), .ty "list"] F = F (.bl false) := z_isi rfl (by decide)
theorem z_is_l_bool {w : List D} : fIsi [(.lst w), .ty "bool"] F = F (.bl false) := z_isi rfl (by decide)
theorem z_is_l_int {w : List D} : fIsi [(.lst w), .ty "int"] F = F (.bl false) := z_isi rfl (by decide)
theorem z_is_l_str {w : List D} : fIsi [(.lst w), .ty "str"] F = F (.bl false) := z_isi rfl (by decide)
theorem z_is_l_tuple {w : List D} : fIsi [(.lst w), .ty "tuple"] F = F (.bl false) := z_isi rfl (by decide)
theorem z_is_l_list {w : List D} : fIsi [(.lst w), .ty "list"] F = F (.bl true) := z_isi rfl (by decide)
theorem z_is_t_bool {w : List D} : fIsi [(.tup w), .ty "bool"] F = F (.bl false) := z_isi rfl (by decide)
theorem z_is_t_int {w : List D} : fIsi [(.tup w), .ty "int"] F = F (.bl false) := z_isi rfl (by decide)
theorem z_is_t_str {w : List D} : fIsi [(.tup w), .ty "str"] F = F (.bl false) := z_isi rfl (by decide)
theorem z_is_t_tuple {w : List D} : fIsi [(.tup w), .ty "tuple"] F = F (.bl true) := z_isi rfl (by decide)
theorem z_is_t_list {w : List D} : fIsi [(.tup w), .ty "list"] F = F (.bl false) := z_isi rfl (by decide)
theorem z_is_n_bool  : fIsi [.non, .ty "bool"] F = F (.bl false) := z_isi rfl (by decide)
theorem z_is_n_int  : fIsi [.non, .ty "int"] F = F (.bl false) := z_isi rfl (by decide)
theorem z_is_n_str  : fIsi [.non, .ty "str"] F = F (.bl false) := z_isi rfl (by decide)
theorem z_is_n_tuple  : fIsi [.non, .ty "tuple"] F = F (.bl false) := z_isi rfl (by decide)
theorem z_is_n_list  : fIsi [.non, .ty "list"] F = F (.bl false) := z_isi rfl (by decide)
def sc_ (j : Nat) (d x : D) (l u : Option Int) (μ : Mem) (F : Mem → Prop) : Prop := match d, x, l, u, μ[j]? with
  | .lst es, .adr p, some i, some k, some (q, .lst ds) => p = q ∧ 0 ≤ i ∧ i ≤ k ∧ k ≤ ds.length ∧ ds.length + es.length ≤ 16777216 ∧ F (μ.set j (p, .lst (ds.take i.toNat ++ es ++ ds.drop k.toNat)))
  | _, _, _, _, _ => False
theorem z_gslc {lo hi : DO} : dgSlc j a lo hi d δ μ Z = a δ μ (fun x μ1 => lo δ μ1 (fun l μ2 => hi δ μ2 (fun u μ3 => sc_ j d x l u μ3 fun μ4 => Z δ μ4) dNR) dNR) dNR := by
  unfold dgSlc sc_
  rfl
theorem z_sc0 {F : Mem → Prop} {m : Nat} {es w : List D} : sc_ 0 (.lst es) (.adr p) (some (m : Nat)) (some (m : Nat)) ((p, .lst w) :: μ) F = (m ≤ w.length ∧ w.length + es.length ≤ 16777216 ∧ F ((p, .lst (w.take m ++ es ++ w.drop m)) :: μ)) := by
  simp [sc_]
theorem z_lend : dLend n a δ μ Q R = ∃ (j : Nat) (p : Addr) (ds : List D), δ[n]? = some (some (.adr p)) ∧ μ[j]? = some (p, .lst ds) ∧ a (δ.set n (some (.lst ds))) [] (fun d _ => noLst d = true ∧ Q d μ) dNR := rfl
def lo_ (xs : List D) (F : List D → Prop) : Prop := match xs with | [.lst ds] | [.tup ds] => F ds | _ => False
theorem z_listO : dListO as δ μ Q R = as δ μ (fun xs μ1 => lo_ xs fun ds => ∀ p : Addr, Q (.adr p) (μ1 ++ [(p, .lst ds)])) R := by
  unfold dListO lo_
  congr 1
theorem z_lol {F : List D → Prop} : lo_ [.lst ds] F = F ds := rfl
theorem z_lot {F : List D → Prop} : lo_ [.tup ds] F = F ds := rfl
theorem z_fsum : fSum [.lst ds] F = ∃ ns, ints? ds = some ns ∧ F (.int ns.sum) := rfl
theorem z_own1 {c : Nat} {f : DF} {g : D → (D → Prop) → Prop} : dOwn1 c f g a δ μ Q R = a δ μ (fun x μ1 => DL.isObj c x μ1 ∧ f [x] (μ1.take 0) (fun d μ' => g d fun z => Q z (μ1 ++ μ')) dNR) R := rfl
theorem z_glen {m : Int} {F : D → Prop} : gLen (.int m) F = (0 ≤ m ∧ m < 2 ^ 63 ∧ F (.int m)) := rfl
theorem z_gall : gAll d F = F d := rfl
theorem z_ixown {c : Nat} {f : DF} : dIxOwn c f a b δ μ Q R = a δ μ (fun x μ1 => b δ μ1 (fun y μ2 => DL.isObj c x μ2 ∧ f [x, y] (μ2.take 0) (fun d μ' => Q d (μ2 ++ μ')) dNR) R) R := rfl
theorem z_listG {c : Nat} {f : D → (List D → Prop) → Prop} : dListG c f a δ μ Q R = a δ μ (fun x μ1 => DL.isObj c x μ1 ∧ f x fun out => Q (.lst out) μ1) R := rfl
def oi_ (c i : Nat) (x : D) (F : List D → Prop) : Prop := match x with
  | .obj c' es => c' = c ∧ ∃ ds, es.lookup i = some (.tup ds) ∧ F ds
  | _ => False
theorem z_ownit {c : Nat} {Q : List D → Mem → Prop} : dOwnIt c i a δ μ Q R = a δ μ (fun x μ1 => oi_ c i x fun ds => Q ds μ1) R := by
  unfold dOwnIt oi_
  rfl
def fd_ (cs : List Nat) (i : Nat) (x : D) (μ : Mem) (F : D → Prop) : Prop := match x with
  | .obj c es => c ∈ cs ∧ ∃ d, es.lookup i = some d ∧ F d
  | .adr p => ∃ (j c : Nat) (es : List (Nat × D)) (d : D), c ∈ cs ∧ μ[j]? = some (p, .ins c es) ∧ es.lookup i = some d ∧ F d
  | _ => False
theorem z_fld {cs : List Nat} : dFld cs i a δ μ Q R = a δ μ (fun x μ1 => fd_ cs i x μ1 fun d => Q d μ1) R := by
  unfold dFld fd_
  rfl
def fz_ (x : D) (μ : Mem) (F : D → Mem → Prop) : Prop := match x with
  | .adr p => ∃ μ2 ds, μ = μ2 ++ [(p, .lst ds)] ∧ F (.lst ds) μ2
  | _ => False
theorem z_fz : dFz a δ μ Q R = a δ μ (fun x μ1 => fz_ x μ1 Q) R := rfl
theorem z_fzs : dFzS n t E δ μ = ∃ (p : Addr) (μ2 : Mem) (ds : List D), δ[n]? = some (some (.adr p)) ∧ μ = μ2 ++ [(p, .lst ds)] ∧ t E (δ.set n (some (.lst ds))) μ2 := rfl
def xi_ (a dx : Addr) (c : Nat) (is : D → Option Bool) (xs : List D) (F : D → Prop) : Prop := match xs with
  | [.exn a' dx' c' _, k] => a' = a ∧ dx' = dx ∧ c' = c ∧ ∃ b, is k = some b ∧ F (.bl b)
  | _ => False
theorem z_xisi {m q : Addr} {c : Nat} {is : D → Option Bool} : dXisi m q c is as δ μ Q R = as δ μ (fun xs μ1 => xi_ m q c is xs fun z => Q z μ1) R := by
  unfold dXisi xi_
  rfl
theorem z_xi {m q : Addr} {c : Nat} {is : D → Option Bool} : xi_ m q c is [.exn m q c d, x] F = ∃ b, is x = some b ∧ F (.bl b) := by
  simp [xi_]
def xv_ (a dx : Addr) (c : Nat) (x : D) (F : D → Prop) : Prop := match x with
  | .exn a' dx' c' d => a' = a ∧ dx' = dx ∧ c' = c ∧ F d
  | _ => False
theorem z_xval {m q : Addr} {c : Nat} : dXval m q c a δ μ Q R = a δ μ (fun x μ1 => xv_ m q c x fun z => Q z μ1) R := by
  unfold dXval xv_
  rfl
theorem z_xv {m q : Addr} {c : Nat} : xv_ m q c (.exn m q c d) F = F d := by
  simp [xv_]
theorem z_jx {w : List D} {c : Addr × O} (h : w[k]? = some d) : ix_ 1 (.adr p) (.int (k : Nat)) (c :: (p, .lst w) :: μ) F = F d := by
  unfold ix_
  simp [atI_nat h]
theorem z_ixm {w : List D} : ix_ 0 (.adr p) (.int (-1)) ((p, .lst (w ++ [d])) :: μ) F = F d := by
  refine z_ixE ?_
  have h : (-((w ++ [d]).length : Int)) ≤ -1 := by simp; omega
  have e : (-1 + ((w ++ [d]).length : Int)).toNat = w.length := by simp; omega
  simp only [atI, ixN, show ¬ ((0 : Int) ≤ -1) from by decide, h, e, if_true, if_false, Option.bind_some]
  simp
theorem z_lm {w : List D} : fIx (.lst (w ++ [d])) (.int (-1)) F = F d := by
  have h : (-((w ++ [d]).length : Int)) ≤ -1 := by simp; omega
  have e : (-1 + ((w ++ [d]).length : Int)).toNat = w.length := by simp; omega
  have : atI (w ++ [d]) (-1) = some d := by
    simp only [atI, ixN, show ¬ ((0 : Int) ≤ -1) from by decide, h, e, if_true, if_false, Option.bind_some]
    simp
  simp only [fIx, this, Option.some.injEq, exists_eq_left']
theorem z_jsub {F : Mem → Prop} {w : List D} {c : Addr × O} (h : k < w.length) : sub_ 1 d (.adr p) (.int (k : Nat)) (c :: (p, .lst w) :: μ) F = F (c :: (p, .lst (w.set k d)) :: μ) := by
  unfold sub_
  simp [ixN_nat h]
end
end DL

namespace DL
open PySem PySem.Spec PyProof.Rows L2
/-! ### joining -/
def fldOf (ns : List PySem.Str) (n : Nat) : PySem.Str := match ns[n]? with
  | some s => s
  | none => mk (List.replicate (n + 100) 35)
theorem fld_inj (ns : List PySem.Str) (h1 : ns.Nodup) (h2 : ∀ s ∈ ns, s.cps.toList.length < 100) : ∀ m n, fldOf ns m = fldOf ns n → m = n := by
  intro m n h
  unfold fldOf at h
  cases hm : ns[m]? with
  | some s =>
    cases hn : ns[n]? with
    | some t =>
      rw [hm, hn] at h
      have hlt : m < ns.length := (List.getElem?_eq_some_iff.mp hm).1
      refine (List.getElem?_inj hlt h1).mp ?_
      rw [hm, hn]
      exact congrArg some h
    | none =>
      rw [hm, hn] at h
      have := h2 s (List.mem_of_getElem? hm)
      have h : s = mk (List.replicate (n + 100) 35) := h
      rw [h, mk_tl, List.length_replicate] at this
      omega
  | none =>
    cases hn : ns[n]? with
    | some t =>
      rw [hm, hn] at h
      have := h2 t (List.mem_of_getElem? hn)
      have h : mk (List.replicate (m + 100) 35) = t := h
      rw [← h, mk_tl, List.length_replicate] at this
      omega
    | none =>
      rw [hm, hn] at h
      have h : mk (List.replicate (m + 100) 35) = mk (List.replicate (n + 100) 35) := h
      have := congrArg (fun s : PySem.Str => s.cps.toList.length) h
      simp only [mk_tl, List.length_replicate] at this
      omega
theorem fld_ne (ns : List PySem.Str) {m : PySem.Str} (h1 : m ∉ ns) (h2 : m.cps.toList.length < 100) : ∀ i, fldOf ns i ≠ m := by
  intro i h
  unfold fldOf at h
  cases hm : ns[i]? with
  | some s => rw [hm] at h; exact h1 (h ▸ List.mem_of_getElem? hm)
  | none =>
    rw [hm] at h
    have h : mk (List.replicate (i + 100) 35) = m := h
    rw [← h, mk_tl, List.length_replicate] at h2
    omega
section
variable {P : Program} {w : World} {K : PySem.W.Frag} {mg : PySem.Str → Option Value} {base : Heap} {C : DC} {x y qual : PySem.Str} {params : Arguments} {body : List Stmt} {scope : Scope} {fa : Addr} {fd : FuncData} {ps : List PySem.Str} {k na : Nat} {f : DF} {c : Nat} {D : Addr}
theorem FDa.of (F : FunD K x qual params body scope [] [] fa fd) (hg : mg y = some (.ref fa)) (b : Binds K fd ps []) (ok : FnOk P w K mg base (L2.CX P w) k fa fd ps (spOf C K ps.length f)) (hn : na + 0 = ps.length) : FDa P w K mg base C y k na [] f :=
  ⟨fa, fd, ps, [], [], hg, F.kp, ok, b, .nil, fun _ => .nil, hn⟩
theorem MDa.of {m : PySem.Str} (cl : Cls K (C.cls c)) (hm : ∀ i, C.fld i ≠ m) (me : Meth K (C.cls c) m fa) (b : Binds K fd ps []) (ok : FnOk P w K mg base (L2.CX P w) k fa fd ps (spOf C K ps.length f)) (hn : na + 1 + 0 = ps.length) : MDa P w K mg base C c m k na [] f :=
  ⟨cl, hm, fa, fd, ps, [], [], me, ok, b, .nil, fun _ => .nil, hn⟩
theorem KDa.of {dvs : List V} {dsv : List Value} {dds : List DL.D} (hg : mg y = some (.ref (C.cls c))) (me : Mk K (C.cls c) fa) (ok : FnOk P w K mg base (L2.CX P w) k fa fd ps (spOf C K ps.length f)) (v : Vals dvs dsv) (b : Binds K fd ps dsv) (hd : ∀ G, Dps C K G dvs dds) (hn : na + 1 + dds.length = ps.length) : KDa P w K mg base C y c k na dds f :=
  ⟨hg, fa, fd, ps, dvs, dsv, me, ok, b, v, hd, hn⟩
theorem ODa.of {m : PySem.Str} {np : Nat} (cl : Cls K (C.cls c)) (me : Meth K (C.cls c) m fa) (b : Binds K fd ps []) (ok : FnOk P w K mg base (L2.CX P w) k fa fd ps (spOf C K ps.length f)) (hn : ps.length = np) : ODa P w K mg base C c m k np f :=
  ⟨cl, fa, fd, ps, ⟨me.at_, me.fn⟩, ok, b, hn⟩
theorem GDa.of {m : PySem.Str} {f : DL.D → (List DL.D → Prop) → Prop} (cl : Cls K (C.cls c)) (hm : ∀ i, C.fld i ≠ m) (me : Meth K (C.cls c) m fa) (b : Binds K fd ps []) (ok : GFn P w K mg base k fa fd ps (spGn C K f)) (hn : ps.length = 1) : GDa P w K mg base C c m k f :=
  ⟨cl, hm, fa, fd, ps, me, ok, b, hn⟩
theorem EDa.of {fI : Addr} (hg : mg y = some (.ref (C.cls c))) (ge : GeC K D (C.cls c)) (h0 : C.fld 0 = "value") (hi : initAt K (C.cls c) fI = true) (ht : PySem.W.typeIn K (.ref fI) = some (.type "function")) (gf : GeF P K mg D fI fd) (b : Binds K fd ["self", "value"] []) : EDa P w K mg base C D y c :=
  ⟨hg, ge, h0, fI, fd, He.eqO_ok hi, ht, ge_init gf, b⟩
/-- a def whose contract never holds -/
theorem FnOk.no (ps : List PySem.Str) (h : ∀ ds μ Q R, ¬ f ds μ Q R) : FnOk P w K mg base (L2.CX P w) k fa fd ps (spOf C K ps.length f) :=
  ⟨fun vs H Q E z => z.1, fun A outer s H args us vs Q E _ _ _ _ z => by
    obtain ⟨_, G, ds, μ, DQ_, R, _, _, z, _⟩ := z
    exact (h _ _ _ _ z).elim⟩
end
/-- a property's parts -/
def propB (K : PySem.W.Frag) (C : Addr) (m : PySem.Str) (g : Addr) : Bool := He.eqO (PySem.W.findIn K (.ref C) m) (some (some (.ref (He.ma K C m)))) && (He.eqO (PySem.W.specialIn K (.ref (He.ma K C m)) "__get__") (some (some (.builtin "property.__get__"))) &&
  (eqB (PySem.W.takesIn K (.ref (He.ma K C m))) (some true) && (match PySem.W.recIn K (He.ma K C m) "property" with
    | some (.ref g' :: _) => decide (g' = g)
    | _ => false)))
theorem propB_ok {K : PySem.W.Frag} {C g : Addr} {m : PySem.Str} (h : propB K C m g = true) : PropOf K C m (He.ma K C m) g := by
  obtain ⟨h1, h⟩ := dec2 h
  obtain ⟨h2, h⟩ := dec2 h
  obtain ⟨h3, h4⟩ := dec2 h
  refine ⟨He.eqO_ok h1, He.eqO_ok h2, of_decide_eq_true h3, ?_⟩
  split at h4
  · rename_i g' r e
    have := of_decide_eq_true h4
    subst this
    exact ⟨r, e⟩
  · cases h4
/-- an empty tuple that the program keeps -/
def mtB (K : PySem.W.Frag) (a : Addr) : Bool := match K.lookup a with
  | some ⟨.type t, _, .seq its _, _⟩ => t == "tuple" && its.isEmpty
  | _ => false
theorem mtB_ok {K : PySem.W.Frag} {a : Addr} (h : mtB K a = true) (G : Hp) : SqT K G a [] := by
  unfold mtB at h
  split at h
  · rename_i t d its n sl e
    obtain ⟨h1, h2⟩ := dec2 h
    have h3 : its = #[] := by simpa using h2
    subst h3
    refine .inr ⟨_, #[], n, e, ?_, rfl, by decide, .nil⟩
    rw [eq_of_beq h1]
  · cases h
/-- isinstance among classes -/
def kitB (K : PySem.W.Frag) (a b : Value) (r : Bool) : Bool := eqB (PySem.W.kitOne K a b) (some r)
theorem kitB_ok {K : PySem.W.Frag} {a b : Value} {r : Bool} (h : kitB K a b r = true) : PySem.W.kitOne K a b = some r := of_decide_eq_true h
theorem ints_dps {C : DC} {K : PySem.W.Frag} {G : Hp} (ns : List Int) : Dps C K G (ns.map V.int) (ns.map D.int) := by
  induction ns with
  | nil => exact .nil
  | cons i ns ih => exact .cons (.int i) ih
/-- the law's end: its contract at the script's numbers -/
theorem ends {l : PySem.W.OpenLaw} {n k : Nat} {q : Program} {loose : List PySem.Str} {XP : (PySem.Str → Option Value) → Heap → Prop} {YP : World → Heap → Prop} {d : DefRec} {x : PySem.Str}
    (hn : l.most = some n) (hn2 : n ≤ sizeLine) (hdf : d.params.defaults = []) (hr : Room k callerA)
    (F : ∀ (w : World) (mg : PySem.Str → Option Value) (fa : Addr) (h : Heap), YP w h → h.Ns mainGlobals mg → mg d.name = some (.ref fa) →
      ∃ (K : PySem.W.Frag) (fd : FuncData) (C : DC) (f : DF), K.In h ∧ (∀ (s : Shared) (u : Value), BindsTo s fd ⟨[u], []⟩ [(x, u)]) ∧ (∀ ns : List Int, ns.length ≤ n → f [.fl (ns.map D.int)] [] (fun d _ => d = .bl true) dNR) ∧
        ∀ base : Heap, FnOk l.prog w K mg base (L2.CX l.prog w) k fa fd [x] (spOf C K 1 f)) :
    PySem.W.WalkO q loose XP YP l.row.toRowW d [] (fun f vs => PySem.call f vs) := by
  refine Att.attach_call hn hdf fun w s₀ s₁ mg mb fa o pm cd doc a vs ns G Y ho hd hcd hmg hobj hints hlen hg => ?_
  obtain ⟨K, fd, C, f, KX, hb, hsp, hF⟩ := F w mg fa _ Y G.T.g hmg
  refine law_call KX G.T.g G.T.b G.T.builtins G.T.nolimit hg hobj hints (Nat.le_trans hlen hn2) hr (fun base _ _ => hF base) hb (fun H hO hS => ?_) fun H e s' h => by
    obtain ⟨_, _, _, _, _, _, _, _, _, _, _, _, z⟩ := h
    exact z
  refine ⟨rfl, H, _, [], _, _, ⟨fun _ _ _ e => e, fun _ n => n, Ex.refl _, Ex.refl _, fun _ _ _ e => e, fun _ _ m => (by simp at m), fun _ _ m => (by simp at m), fun _ _ m => (by simp at m), List.nodup_nil⟩, .cons (.fl hS (ints_dps ns)) .nil, hsp ns hlen, ?_, ?_⟩
  · intro v d μ' G' H' c p e
    subst e
    cases p
    rfl
  · intro _ _ _ _ _ _ _ _ _ _ e
    exact e
end DL

namespace K04
open PySem PySem.Spec PyProof.Rows L2 DL
abbrev PG : Program := PySem.Challenge.pw_countedgrowth_k04_growths_played
def top (i : Nat) : Stmt := PG.main.body.getD i (.Pass ⟨0, 0, 0, 0⟩)
def cb (i j : Nat) : Stmt := match top i with
  | .ClassDef _ _ _ b _ _ _ _ _ _ _ => b.getD j (.Pass ⟨0, 0, 0, 0⟩)
  | _ => .Pass ⟨0, 0, 0, 0⟩
def gAt (x : PySem.Str) (K : PySem.W.Frag) : Addr := He.ga K x
def mAt (x m : PySem.Str) (K : PySem.W.Frag) : Addr := He.ma K (He.ga K x) m
def pAt (x m : PySem.Str) (K : PySem.W.Frag) : Addr := match PySem.W.recIn K (He.ma K (He.ga K x) m) "property" with
  | some (.ref g :: _) => g
  | _ => 0
def gd (x : PySem.Str) (i : Nat) : He5.DefA := ⟨gAt x, x, x, defArgs (top i), defBody (top i), defScope (top i), [], []⟩
def md (x m q : PySem.Str) (i j : Nat) (dfl : List He.Dv := []) : He5.DefA := ⟨mAt x m, m, q, defArgs (cb i j), defBody (cb i j), defScope (cb i j), dfl, []⟩
def fn : List He5.DefA := [gd "is_group" 10, gd "check_group" 11, gd "row_after" 14, gd "_law_new" 17, gd "_law_draw" 18, gd "_law_same" 19, gd "_law_word" 20, gd "_law_groups" 21, gd "_law_joins" 22, gd "_law_line" 23, gd "_law_tells" 24, gd "_law_told" 25, gd "_law_due" 26,
  gd "_law_refuses" 27, gd "law" 28, md "Growth" "__init__" "Growth.__init__" 15 0 [.adr (He.dflAt ("Growth", some "__init__") 0)], ⟨pAt "Growth" "row", "row", "Growth.row", defArgs (cb 15 1), defBody (cb 15 1), defScope (cb 15 1), [], []⟩,
  md "Growth" "stages" "Growth.stages" 15 2, md "Growth" "owners" "Growth.owners" 15 3, md "Growth" "__len__" "Growth.__len__" 15 8, md "Growth" "__iter__" "Growth.__iter__" 15 9, md "Growth" "__getitem__" "Growth.__getitem__" 15 10, md "Growth" "__abs__" "Growth.__abs__" 15 15]
def fa : List He.Fa := [.glo "GrowsError", .glo "InvalidGroup", .glo "GapOutOfRange", .glo "Growth", .glo "is_group", .glo "check_group", .glo "row_after", .glo "_law_new", .glo "_law_draw", .glo "_law_same", .glo "_law_word", .glo "_law_groups", .glo "_law_joins", .glo "_law_line", .glo "_law_tells", .glo "_law_told",
  .glo "_law_due", .glo "_law_refuses", .glo "law", .free "len", .free "list", .free "int", .free "isinstance", .free "range", .free "enumerate", .free "tuple", .free "abs", .free "sum", .free "iter", .free "repr", .free "super", .free "ValueError", .free "bool", .free "str",
  .str "LETTERS" "abcdefghijklmnopqrstuvwxyz", .cls "Growth", .noat "Growth" "start", .noat "Growth" "joins", .noat "Growth" "_end", .mkr "Growth", .meth "Growth" "stages", .meth "Growth" "owners", .meth "Growth" "__len__", .meth "Growth" "__iter__", .meth "Growth" "__getitem__", .meth "Growth" "__abs__",
  .exm "InvalidGroup" "GrowsError" true, .exm "GapOutOfRange" "GrowsError" true]
def geI (K : PySem.W.Frag) : Addr := mAt "GrowsError" "__init__" K
def ge : List GeD := [(geI, some (PySem.Str.ofString "__init__", PySem.Str.ofString "GrowsError.__init__", defArgs (cb 2 0), FuncBody.stmts (defBody (cb 2 0)), defScope (cb 2 0), mainGlobals, [PySem.Str.ofString "__class__"], builtinsNs))]
def ex0 (K : PySem.W.Frag) : Bool := geFB PG.main.file K (He.ga K "GrowsError") (geI K) "GrowsError.__init__" && ((["InvalidGroup", "GapOutOfRange"] : List PySem.Str).all fun x => geCB K (He.ga K "GrowsError") (He.ga K x) && (excB K (He.ga K x) && initAt K (He.ga K x) (geI K)))
def dfl (K : PySem.W.Frag) : Addr := He.dflAt ("Growth", some "__init__") 0 K
def ex (K : PySem.W.Frag) : Bool := ex0 K && (mtB K (dfl K) && (propB K (He.ga K "Growth") "row" (pAt "Growth" "row" K) && (PySem.W.fnIn K (mAt "Growth" "__getitem__" K) && (kitB K (.ref (He.ga K "InvalidGroup")) (.ref (He.ga K "InvalidGroup")) true && (kitB K (.ref (He.ga K "InvalidGroup")) (.ref (He.ga K "GapOutOfRange")) false &&
  (kitB K (.ref (He.ga K "GapOutOfRange")) (.ref (He.ga K "InvalidGroup")) false && (kitB K (.ref (He.ga K "GapOutOfRange")) (.ref (He.ga K "GapOutOfRange")) true && (kitB K (.ref (He.ga K "InvalidGroup")) (.type "ValueError") true && kitB K (.ref (He.ga K "GapOutOfRange")) (.type "ValueError") true))))))))
abbrev R : PySem.W.OpenRow := PySem.W.OpenLaw.row PySem.Challenge.rw_countedgrowth_k04_growths_played
abbrev hk : PySem.W.Hook := hookB 6 fa fn ge ex
def ob (s : PySem.W.SharedT) : AlB := obsBG 6 fa fn ge ex (HandSHeadRun.getT s)
theorem ob_eq (s : PySem.W.SharedT) : ob s = hk.obs s.abs := obsBG_eq (HandSHeadRun.getT_eq s)
def loose : List PySem.Str := ["_wall", "__name__", "GrowsError", "InvalidGroup", "InvalidText", "GapOutOfRange", "DoNotMeet", "LETTERS", "DIGITS", "is_group", "check_group", "read_number", "row_after", "Growth", "_law_new", "_law_draw", "_law_same", "_law_word", "_law_groups", "_law_joins", "_law_line", "_law_tells", "_law_told", "_law_due", "_law_refuses"]
theorem run (w : World) : HandSHeadRun.RunEq R (PySem.W.view R.prog [28]) hk ob 9000 loose w := by
  intro os
  kernel_rfl
end K04

namespace K04
open PySem PySem.Spec PyProof.Rows L2 DL
/-! ### the data -/
def LET : SS := [97, 98, 99, 100, 101, 102, 103, 104, 105, 106, 107, 108, 109, 110, 111, 112, 113, 114, 115, 116, 117, 118, 119, 120, 121, 122]
abbrev J := Int × SS
def jD (j : J) : D := .tup [.int j.1, .str j.2]
def jsD (js : List J) : List D := js.map jD
def ins (r : SS) (g : Nat) (w : SS) : SS := r.take g ++ w ++ r.drop g
def isG (w : SS) : Bool := w.all (fun c => decide (c ∈ LET)) && !decide (w = [])
/-- the joins played: the row, or the error's class and value -/
def play : SS → List J → Sum (Nat × D) SS
  | r, [] => .inr r
  | r, (g, w) :: js => if 0 ≤ g ∧ g ≤ r.length then (if isG w = true then play (ins r g.toNat w) js else .inl (1, .str w)) else .inl (2, .int g)
def gD (s : SS) (js : List J) (e : SS) : D := .obj 0 [(1, .str s), (2, .tup (jsD js)), (3, .str e)]
def tot (s : SS) (js : List J) : Nat := s.length + (js.map fun j => j.2.length).sum
def small (js : List J) : Prop := ∀ j ∈ js, j.1.natAbs.log2 < 1920
def stg : SS → List J → List SS
  | r, [] => [r]
  | r, (g, w) :: js => r :: stg (ins r g.toNat w) js
/-- of the signs who brought them -/
def bro (a n : Nat) : List D := (List.range n).map fun k => .tup [.int (a : Nat), .int ((k : Nat) + 1)]
def own : Nat → List D → List J → List D
  | _, f, [] => f
  | a, f, (g, w) :: js => own (a + 1) (f.take g.toNat ++ bro (a + 1) w.length ++ f.drop g.toNat) js
def stD (cells : List Int) (i : Nat) (a b c : Int) : List D := [.lst (cells.map D.int), .int (i : Nat), .int a, .int b, .int c]
def sm : Nat → D → Bool
  | 0, _ => false
  | _ + 1, .non | _ + 1, .bl _ | _ + 1, .int _ | _ + 1, .str _ => true
  | n + 1, .lst ds | n + 1, .tup ds => decide (ds.length ≤ 1000000) && ds.all (sm n)
  | _ + 1, _ => false
def outD (s : SS) (js : List J) : D := match play s js with
  | .inr e => .str e
  | .inl (c, d) => .lst [.bl (c == 2), .bl (c == 1), .bl true, d]
/-! ### what each def promises -/
abbrev Cells := List Int
def df_is_group : DF := fun ds μ Q R => ∃ s : SS, ds = [.str s] ∧ Q (.bl (isG s)) μ
def df_check_group : DF := fun ds μ Q R => ∃ s : SS, ds = [.str s] ∧ s.length ≤ 100000 ∧ (isG s = true → Q (.str s) μ) ∧ (isG s = false → R 1 (.str s) μ)
def df_row_after : DF := fun ds μ Q R => ∃ (r w : SS) (g : Int), ds = [.str r, .int g, .str w] ∧ 0 ≤ g ∧ g ≤ r.length ∧ r.length + w.length ≤ 100000 ∧ Q (.str (ins r g.toNat w)) μ
def isJs (x : D) (js : List J) : Prop := x = .lst (jsD js) ∨ x = .tup (jsD js)
def df_Growth_init : DF := fun ds μ Q R => ∃ (p : Addr) (s : SS) (x : D) (js : List J), ds = [.adr p, .str s, x] ∧ μ = [(p, .ins 0 [])] ∧ isJs x js ∧ tot s js ≤ 100000 ∧ js.length ≤ 100000 ∧ small js ∧
  (∀ e, play s js = .inr e → Q .non [(p, .ins 0 [(1, .str s), (2, .tup (jsD js)), (3, .str e)])]) ∧ ∀ c d, play s js = .inl (c, d) → ∀ μ', R c d μ'
def df_Growth_row : DF := fun ds μ Q R => ∃ s js e, ds = [gD s js e] ∧ Q (.str e) μ
def df_Growth_stages : D → (List D → Prop) → Prop := fun x Q => ∃ s js e, x = gD s js e ∧ play s js = .inr e ∧ tot s js ≤ 100000 ∧ js.length ≤ 100000 ∧ Q ((stg s js).map D.str)
def df_Growth_owners : DF := fun ds μ Q R => ∃ s js e, ds = [gD s js e] ∧ play s js = .inr e ∧ tot s js ≤ 100000 ∧ js.length ≤ 100000 ∧ μ = [] ∧ ∀ p : Addr, Q (.adr p) [(p, .lst (own 0 (bro 0 s.length) js))]
def df_Growth_len : DF := fun ds μ Q R => ∃ s js e, ds = [gD s js e] ∧ Q (.int (js.length : Nat)) μ
def df_Growth_getitem : DF := fun ds μ Q R => ∃ s js e, ∃ k : Nat, ∃ j : J, ds = [gD s js e, .int (k : Nat)] ∧ js[k]? = some j ∧ Q (jD j) μ
def df_Growth_abs : DF := fun ds μ Q R => ∃ s js e, ds = [gD s js e] ∧ Q (.int ((e.length : Int) - s.length)) μ
def df_law_new : DF := fun ds μ Q R => ∃ cells : Cells, ds = [.fl (cells.map D.int)] ∧ ∀ p : Addr, Q (.adr p) (μ ++ [(p, .lst (stD cells 0 0 0 0))])
def df_law_draw : DF := fun ds μ Q R => ∃ (p : Addr) (cells : Cells) (i : Nat) (a b c m : Int), ds = [.adr p, .int m] ∧ μ = [(p, .lst (stD cells i a b c))] ∧ 0 < m ∧ m.natAbs.log2 < 9000 ∧ ∀ r i' a' b' c', 0 ≤ r → r < m → Q (.int r) [(p, .lst (stD cells i' a' b' c'))]
def df_law_same (n : Nat) : DF := fun ds μ Q R => ∃ x : D, ds = [x, x] ∧ sm n x = true ∧ Q (.bl true) μ
def df_law_word : DF := fun ds μ Q R => ∃ (p : Addr) (cells : Cells) (i : Nat) (a b c : Int) (signs : SS) (lo hi : Nat), ds = [.adr p, .str signs, .int (lo : Nat), .int (hi : Nat)] ∧ μ = [(p, .lst (stD cells i a b c))] ∧ 1 ≤ signs.length ∧ signs.length ≤ 1000 ∧ lo ≤ hi ∧ hi ≤ 1000 ∧
  ∀ w i' a' b' c', (∀ x ∈ w, x ∈ signs) → lo ≤ w.length → w.length ≤ hi → Q (.str w) [(p, .lst (stD cells i' a' b' c'))]
def wordsOf (signs : SS) (lo hi : Nat) (ws : List SS) : Prop := ∀ w ∈ ws, (∀ x ∈ w, x ∈ signs) ∧ lo ≤ w.length ∧ w.length ≤ hi
def df_law_groups : DF := fun ds μ Q R => ∃ (p : Addr) (cells : Cells) (i : Nat) (a b c : Int) (signs : SS) (t z : Nat), ds = [.adr p, .str signs, .int (t : Nat), .int (z : Nat)] ∧ μ = [(p, .lst (stD cells i a b c))] ∧ 1 ≤ signs.length ∧ signs.length ≤ 1000 ∧ 1 ≤ z ∧ z ≤ 1000 ∧ t ≤ 1000 ∧
  ∀ ws i' a' b' c', wordsOf signs 1 z ws → ws.length ≤ t → Q (.lst (ws.map D.str)) [(p, .lst (stD cells i' a' b' c'))]
def df_law_joins : DF := fun ds μ Q R => ∃ (p : Addr) (cells : Cells) (i : Nat) (a b c : Int) (row : SS) (gs : List SS) (t z : Nat), ds = [.adr p, .str row, .lst (gs.map D.str), .int (t : Nat)] ∧ μ = [(p, .lst (stD cells i a b c))] ∧ wordsOf LET 1 z gs ∧ gs ≠ [] ∧ gs.length ≤ 1000 ∧ row.length ≤ 1000 ∧ t ≤ 1000 ∧ z ≤ 10 ∧
  ∀ js e i' a' b' c', play row js = .inr e → js.length ≤ t → (∀ j ∈ js, 1 ≤ j.2.length ∧ j.2.length ≤ z) → Q (.lst [.lst (jsD js), .str e]) [(p, .lst (stD cells i' a' b' c'))]
def lin : Nat → List D → List J → List D
  | _, f, [] => f
  | a, f, (g, w) :: js => lin (a + 1) (f.take g.toNat ++ (List.range w.length).map (fun k => .lst [.int ((a : Nat) + 1), .int ((k : Nat) + 1), .str [w.getD k 0]]) ++ f.drop g.toNat) js
def lin0 (s : SS) : List D := (List.range s.length).map fun k => .lst [.int 0, .int ((k : Nat) + 1), .str [s.getD k 0]]
def df_law_line : DF := fun ds μ Q R => ∃ (s : SS) (js : List J) (e : SS), ds = [.str s, .lst (jsD js)] ∧ play s js = .inr e ∧ tot s js ≤ 100000 ∧ js.length ≤ 100000 ∧ Q (.lst (lin 0 (lin0 s) js)) μ
def df_law_tells : DF := fun ds μ Q R => ∃ (s : SS) (js : List J) (e : SS), ds = [gD s js e, .str s, .lst (jsD js)] ∧ μ = [] ∧ play s js = .inr e ∧ tot s js ≤ 100000 ∧ js.length ≤ 100000 ∧ Q (.bl true) []
def df_law_told : DF := fun ds μ Q R => ∃ (s : SS) (js : List J), ds = [.str s, .lst (jsD js)] ∧ tot s js ≤ 100000 ∧ js.length ≤ 100000 ∧ small js ∧ Q (outD s js) μ
def df_law_due : DF := fun ds μ Q R => ∃ (s : SS) (js : List J), ds = [.str s, .lst (jsD js)] ∧ tot s js ≤ 100000 ∧ js.length ≤ 100000 ∧ Q (outD s js) μ
def df_law_refuses : DF := fun ds μ Q R => ∃ (p : Addr) (cells : Cells) (i : Nat) (a b c : Int) (s : SS) (js : List J) (e : SS), ds = [.adr p, .str s, .lst (jsD js)] ∧ μ = [(p, .lst (stD cells i a b c))] ∧ play s js = .inr e ∧ tot s js ≤ 10000 ∧ js.length ≤ 10000 ∧
  ∀ i' a' b' c', Q (.bl true) [(p, .lst (stD cells i' a' b' c'))]
def df_law : DF := fun ds μ Q R => ∃ cells : Cells, ds = [.fl (cells.map D.int)] ∧ μ = [] ∧ ∀ μ', Q (.bl true) μ'
/-! ### what is known of names and classes -/
def isGE (c : Nat) : Option Bool := if c = 1 ∨ c = 2 then some true else none
def isX (c : Nat) (k : D) : Option Bool := match k with
  | .cls c' => if c' = 1 ∨ c' = 2 then some (c == c') else none
  | .ty n => if n = "ValueError" then some true else none
  | _ => none
structure Fx (K : PySem.W.Frag) (mg : PySem.Str → Option Value) (C : DC) (Dd : Addr) : Prop where
  ValueError : mg "ValueError" = none
  abs : mg "abs" = none
  bool : mg "bool" = none
  enumerate : mg "enumerate" = none
  int : mg "int" = none
  isinstance : mg "isinstance" = none
  len : mg "len" = none
  list : mg "list" = none
  range : mg "range" = none
  str : mg "str" = none
  sum : mg "sum" = none
  tuple : mg "tuple" = none
  c_LETTERS : ∃ u, mg "LETTERS" = some u ∧ L2.RelV (.str (mk LET)) u
  f_getitem : ∀ fa, PySem.W.findIn K (.ref (C.cls 0)) "__getitem__" = some (some (.ref fa)) → PySem.W.fnIn K fa = true
  fn_0 : C.fld 0 = "value"
  fn_1 : C.fld 1 = "start"
  fn_2 : C.fld 2 = "joins"
  fn_3 : C.fld 3 = "_end"
  fo_1 : FldOk K C [0] 1
  fo_2 : FldOk K C [0] 2
  fo_3 : FldOk K C [0] 3
  k_InvalidGroup : mg "InvalidGroup" = some (.ref (C.cls 1))
  k_GapOutOfRange : mg "GapOutOfRange" = some (.ref (C.cls 2))
  n_GrowsError : mg "GrowsError" = some (.ref Dd)
  x_GrowsError : ∀ c b, isGE c = some b → PySem.W.exmOne K (.ref (C.cls c)) (.ref Dd) = some b
  xc : ∀ c, isGE c = some true → ExcC K (C.cls c)
  xf : ∀ c, isGE c = some true → XfC K (C.cls c)
  xn : ∀ c, isGE c = some true → PySem.W.findIn K (.ref (C.cls c)) "value" = some none
  xi : ∀ c, isGE c = some true → ∀ k b, isX c k = some b → ∃ cv, clsV C k = some cv ∧ PySem.W.kitOne K (.ref (C.cls c)) cv = some b
end K04

namespace K04
open PySem PySem.Spec PyProof.Rows L2 DL
theorem cut_to {α : Type} (xs : List α) (g : Nat) (h : g ≤ xs.length) : cut xs none (some (g : Int)) = xs.take g := by
  unfold cut
  rw [HT.sIx_nat, HT.sIx_none, Nat.min_eq_left h]
  simp
theorem cut_from {α : Type} (xs : List α) (g : Nat) (h : g ≤ xs.length) : cut xs (some (g : Int)) none = xs.drop g := by
  unfold cut
  rw [HT.sIx_nat, HT.sIx_none, Nat.min_eq_left h, List.take_of_length_le (by simp)]
theorem mg_ {α β : Type} {f : α → β} {l : List α} {k : Nat} {d : β} (h : (l.map f)[k]? = some d) : ∃ x, l[k]? = some x ∧ d = f x := by
  rw [List.getElem?_map] at h
  cases hx : l[k]? with
  | none => rw [hx] at h; cases h
  | some x => rw [hx] at h; exact ⟨x, rfl, (Option.some.inj h).symm⟩
theorem lt_ {α : Type} {l : List α} {k : Nat} {d : α} (h : l[k]? = some d) : k < l.length := by
  rcases Nat.lt_or_ge k l.length with h' | h'
  · exact h'
  · rw [List.getElem?_eq_none h'] at h; cases h
theorem mem_ {α : Type} {l : List α} {k : Nat} {d : α} (h : l[k]? = some d) : d ∈ l := List.mem_of_getElem? h
theorem take1 {α : Type} {l : List α} {k : Nat} {d : α} (h : l[k]? = some d) : l.take (k + 1) = l.take k ++ [d] := by
  rw [List.take_add_one, h]; rfl
theorem drop1 {α : Type} {l : List α} {k : Nat} {d : α} (h : l[k]? = some d) : l.drop k = d :: l.drop (k + 1) := by
  have := lt_ h
  rw [List.drop_eq_getElem_cons this]
  congr 1
  rw [List.getElem?_eq_getElem this] at h; exact Option.some.inj h
theorem ge_ {α : Type} {l : List α} {k : Nat} (h : k < l.length) : ∃ d, l[k]? = some d := ⟨_, List.getElem?_eq_getElem h⟩
theorem ins_len (r w : SS) (g : Nat) (h : g ≤ r.length) : (ins r g w).length = r.length + w.length := by
  simp only [ins, List.length_append, List.length_take, List.length_drop]; omega
/-- what the first joins made -/
theorem play_app {r : SS} {a b : List J} : play r (a ++ b) = match play r a with
    | .inr e => play e b
    | .inl x => .inl x := by
  induction a generalizing r with
  | nil => rfl
  | cons j a ih =>
    obtain ⟨g, w⟩ := j
    simp only [List.cons_append, play]
    split
    · split
      · exact ih
      · rfl
    · rfl
theorem tot_app (r : SS) (a b : List J) : tot r (a ++ b) = tot r a + (b.map fun j => j.2.length).sum := by
  simp only [tot, List.map_append, List.sum_append]; omega
theorem tot_cons (r : SS) (j : J) (b : List J) : tot r (j :: b) = tot r b + j.2.length := by
  simp only [tot, List.map_cons, List.sum_cons]; omega
theorem play_len {r : SS} {js : List J} {e : SS} (h : play r js = .inr e) : e.length = tot r js := by
  induction js generalizing r with
  | nil => cases h; simp [tot]
  | cons j a ih =>
    obtain ⟨g, w⟩ := j
    simp only [play] at h
    split at h
    · rename_i hg
      split at h
      · have := ih h
        rw [this, tot_cons]
        simp only [tot]
        rw [ins_len _ _ _ (by omega)]; omega
      · cases h
    · cases h
theorem tot_take (r : SS) (js : List J) (k : Nat) : tot r (js.take k) ≤ tot r js := by
  have := tot_app r (js.take k) (js.drop k)
  rw [List.take_append_drop] at this
  omega
theorem play_take {r : SS} {js : List J} {e : SS} (h : play r js = .inr e) (k : Nat) : ∃ e', play r (js.take k) = .inr e' ∧ play e' (js.drop k) = .inr e := by
  have := play_app (r := r) (a := js.take k) (b := js.drop k)
  rw [List.take_append_drop, h] at this
  cases hp : play r (js.take k) with
  | inr e' => rw [hp] at this; exact ⟨e', rfl, this.symm⟩
  | inl x => rw [hp] at this; cases this
/-- one more join -/
theorem play_one {e : SS} {g : Int} {w : SS} {js : List J} {z : SS} (h : play e ((g, w) :: js) = .inr z) : 0 ≤ g ∧ g ≤ e.length ∧ isG w = true ∧ play (ins e g.toNat w) js = .inr z := by
  simp only [play] at h
  split at h
  · rename_i hg
    split at h
    · rename_i hw; exact ⟨hg.1, hg.2, hw, h⟩
    · cases h
  · cases h
theorem jsD_get {js : List J} {k : Nat} {d : D} (h : (jsD js)[k]? = some d) : ∃ j, js[k]? = some j ∧ d = jD j := mg_ h
theorem jsD_len (js : List J) : (jsD js).length = js.length := by simp [jsD]
theorem jsD_take (js : List J) (k : Nat) : (jsD js).take k = jsD (js.take k) := by simp [jsD, List.map_take]
theorem jsD_drop (js : List J) (k : Nat) : (jsD js).drop k = jsD (js.drop k) := by simp [jsD, List.map_drop]
theorem jsD_app (a b : List J) : jsD (a ++ b) = jsD a ++ jsD b := by simp [jsD]
theorem play_at {s r : SS} {js : List J} {k : Nat} {j : J} (h : js[k]? = some j) (hp : play s (js.take k) = .inr r) : play s js = play r (j :: js.drop (k + 1)) := by
  have := play_app (r := s) (a := js.take k) (b := js.drop k)
  rw [List.take_append_drop, hp] at this
  rw [this, drop1 h]
theorem play_next {s r : SS} {js : List J} {k : Nat} {g : Int} {w : SS} (h : js[k]? = some (g, w)) (hp : play s (js.take k) = .inr r) (h0 : 0 ≤ g) (h1 : g ≤ r.length) (h2 : isG w = true) :
    play s (js.take (k + 1)) = .inr (ins r g.toNat w) := by
  rw [take1 h, play_app, hp]
  simp only [play, h0, h1, h2, and_self, if_true]
theorem len_next {s r : SS} {js : List J} {k : Nat} {g : Int} {w : SS} (h : js[k]? = some (g, w)) (hp : play s (js.take k) = .inr r) : r.length + w.length ≤ tot s js := by
  have h1 := play_len hp
  have h2 := tot_take s js (k + 1)
  rw [take1 h, tot_app] at h2
  simp only [List.map_cons, List.map_nil, List.sum_cons, List.sum_nil] at h2
  omega
/-- a growth's step -/
theorem step_ {s e : SS} {js : List J} {k : Nat} {g : Int} {w : SS} (he : play s js = .inr e) (h : js[k]? = some (g, w)) :
    ∃ r, play s (js.take k) = .inr r ∧ 0 ≤ g ∧ g ≤ r.length ∧ isG w = true ∧ play s (js.take (k + 1)) = .inr (ins r g.toNat w) ∧ r.length + w.length ≤ tot s js := by
  obtain ⟨r, h1, h2⟩ := play_take he k
  rw [drop1 h] at h2
  obtain ⟨a, b, c, d⟩ := play_one h2
  exact ⟨r, h1, a, b, c, play_next h h1 a b c, len_next h h1⟩
theorem atI_jsD {js : List J} {k : Nat} {j : J} (h : js[k]? = some j) : atI (jsD js) (k : Int) = some (jD j) := DL.atI_nat (by simp [jsD, h])
theorem play_c {s : SS} {js : List J} {c : Nat} {d : D} (h : play s js = .inl (c, d)) : c = 1 ∨ c = 2 := by
  induction js generalizing s with
  | nil => cases h
  | cons j js ih =>
    obtain ⟨g, w⟩ := j
    simp only [play] at h
    split at h
    · split at h
      · exact ih h
      · cases h; exact .inl rfl
    · cases h; exact .inr rfl
section
variable {s e : SS} {js : List J} {μ : Mem} {F : D → Prop}
theorem z_gd1 : fd_ [0] 1 (gD s js e) μ F = F (.str s) := by simp [fd_, gD, List.lookup]
theorem z_gd2 : fd_ [0] 2 (gD s js e) μ F = F (.tup (jsD js)) := by simp [fd_, gD, List.lookup]
theorem z_gd3 : fd_ [0] 3 (gD s js e) μ F = F (.str e) := by simp [fd_, gD, List.lookup]
theorem z_gdi {F : List D → Prop} : oi_ 0 2 (gD s js e) F = F (jsD js) := by simp [oi_, gD, List.lookup]
theorem z_gdo : DL.isObj 0 (gD s js e) μ = True := by simp [DL.isObj, gD]
end
theorem strs_plain {α : Type} (f : α → SS) (l : List α) : DL.plain (.lst (l.map fun x => .str (f x))) = true := by
  simp only [DL.plain]
  induction l with
  | nil => rfl
  | cons x l ih => simp only [List.map_cons, plains, DL.plain, ih, Bool.and_self]
theorem strs_depth {α : Type} (f : α → SS) (l : List α) : (pyD (.lst (l.map fun x => .str (f x)))).depth ≤ 2 := by
  simp only [pyD, PyData.depth]
  induction l with
  | nil => simp [pyDs, PyData.depthAll]
  | cons x l ih => simp only [List.map_cons, pyDs, pyD, PyData.depthAll, PyData.depth] at ih ⊢; omega
theorem lst_nil (l : List D) : (pyD (.lst l)).eqv (pyD (.lst [])) = decide (l = []) := by
  cases l with
  | nil => rfl
  | cons x l => simp [pyD, pyDs, PyData.eqv, PyData.eqvAll]
theorem log9 {m : Int} (h : m.natAbs < 2 ^ 200) : m.natAbs.log2 < 9000 := by
  rcases Nat.eq_zero_or_pos m.natAbs with h0 | h0
  · rw [h0]; decide
  · have := (Nat.log2_lt (by omega)).mpr h
    omega
theorem stg_snoc {s r : SS} {a : List J} {g : Int} {w : SS} (h : play s a = .inr r) : stg s (a ++ [(g, w)]) = stg s a ++ [ins r g.toNat w] := by
  induction a generalizing s with
  | nil => cases h; rfl
  | cons j a ih =>
    obtain ⟨g2, w2⟩ := j
    obtain ⟨_, _, _, h4⟩ := play_one h
    simp only [List.cons_append, stg, ih h4]
theorem stg_last {s r : SS} {a : List J} (h : play s a = .inr r) : ∃ l, stg s a = l ++ [r] := by
  induction a generalizing s with
  | nil => cases h; exact ⟨[], rfl⟩
  | cons j a ih =>
    obtain ⟨g2, w2⟩ := j
    obtain ⟨_, _, _, h4⟩ := play_one h
    obtain ⟨l, e⟩ := ih h4
    exact ⟨s :: l, by simp only [stg, e, List.cons_append]⟩
theorem stg_len (s : SS) (a : List J) : (stg s a).length = a.length + 1 := by
  induction a generalizing s with
  | nil => rfl
  | cons j a ih => obtain ⟨g, w⟩ := j; simp only [stg, List.length_cons, ih]
def pr : D → D := fun d => match d with | .lst (x :: y :: _) => .tup [x, y] | d => d
def sh (d : D) : Prop := ∃ a b c, d = .lst [a, b, c]
theorem lin_pr (a : Nat) (f : List D) (js : List J) : (lin a f js).map pr = own a (f.map pr) js := by
  induction js generalizing a f with
  | nil => rfl
  | cons j js ih =>
    obtain ⟨g, w⟩ := j
    simp only [lin, own, ih, List.map_append, List.map_take, List.map_drop, List.map_map]
    congr 3
theorem lin_sh (a : Nat) (f : List D) (js : List J) (h : ∀ d ∈ f, sh d) : ∀ d ∈ lin a f js, sh d := by
  induction js generalizing a f with
  | nil => exact h
  | cons j js ih =>
    obtain ⟨g, w⟩ := j
    refine ih _ _ fun d hd => ?_
    rcases List.mem_append.mp hd with hd | hd
    · rcases List.mem_append.mp hd with hd | hd
      · exact h d (List.mem_of_mem_take hd)
      · obtain ⟨k, _, rfl⟩ := List.mem_map.mp hd
        exact ⟨_, _, _, rfl⟩
    · exact h d (List.mem_of_mem_drop hd)
theorem lin_len (a : Nat) (f : List D) (js : List J) : (lin a f js).length = f.length + (js.map fun j => j.2.length).sum := by
  induction js generalizing a f with
  | nil => simp [lin]
  | cons j js ih =>
    obtain ⟨g, w⟩ := j
    simp only [lin, ih, List.length_append, List.length_take, List.length_drop, List.length_map, List.length_range, List.map_cons, List.sum_cons]
    omega
theorem lin0_sh (s : SS) : ∀ d ∈ lin0 s, sh d := by
  intro d hd
  obtain ⟨k, _, rfl⟩ := List.mem_map.mp hd
  exact ⟨_, _, _, rfl⟩
theorem lin0_pr (s : SS) : (lin0 s).map pr = bro 0 s.length := by
  simp only [lin0, bro, List.map_map]
  rfl
theorem sm_jD (j : J) (n : Nat) : sm (n + 2) (jD j) = true := rfl
theorem sm_js {js : List J} (h : js.length ≤ 1000000) (n : Nat) : sm (n + 3) (.lst (jsD js)) = true ∧ sm (n + 3) (.tup (jsD js)) = true := by
  have : (jsD js).all (sm (n + 2)) = true := by
    rw [List.all_eq_true]
    intro d hd
    obtain ⟨j, _, rfl⟩ := List.mem_map.mp hd
    exact sm_jD j n
  simp only [sm, this, jsD_len, Bool.and_true, decide_eq_true_eq]
  exact ⟨h, h⟩
theorem sm_strs {l : List SS} (h : l.length ≤ 1000000) (n : Nat) : sm (n + 2) (.lst (l.map D.str)) = true := by
  have : (l.map D.str).all (sm (n + 1)) = true := by
    rw [List.all_eq_true]
    intro d hd
    obtain ⟨j, _, rfl⟩ := List.mem_map.mp hd
    rfl
  simp only [sm, this, List.length_map, Bool.and_true, decide_eq_true_eq]
  exact h
theorem own_len (a : Nat) (f : List D) (js : List J) : (own a f js).length = f.length + (js.map fun j => j.2.length).sum := by
  induction js generalizing a f with
  | nil => simp [own]
  | cons j js ih =>
    obtain ⟨g, w⟩ := j
    simp only [own, ih, bro, List.length_append, List.length_take, List.length_drop, List.length_map, List.length_range, List.map_cons, List.sum_cons]
    omega
def is2 (d : D) : Prop := ∃ a b : Int, d = .tup [.int a, .int b]
theorem bro2 (a n : Nat) : ∀ d ∈ bro a n, is2 d := by
  intro d hd
  obtain ⟨k, _, rfl⟩ := List.mem_map.mp hd
  exact ⟨_, _, rfl⟩
theorem own2 (a : Nat) (f : List D) (js : List J) (h : ∀ d ∈ f, is2 d) : ∀ d ∈ own a f js, is2 d := by
  induction js generalizing a f with
  | nil => exact h
  | cons j js ih =>
    obtain ⟨g, w⟩ := j
    refine ih _ _ fun d hd => ?_
    rcases List.mem_append.mp hd with hd | hd
    · rcases List.mem_append.mp hd with hd | hd
      · exact h d (List.mem_of_mem_take hd)
      · exact bro2 _ _ d hd
    · exact h d (List.mem_of_mem_drop hd)
theorem sm_own {a : Nat} {f : List D} {js : List J} (hf : ∀ d ∈ f, is2 d) (h : (own a f js).length ≤ 1000000) (n : Nat) : sm (n + 3) (.lst (own a f js)) = true := by
  have : (own a f js).all (sm (n + 2)) = true := by
    rw [List.all_eq_true]
    intro d hd
    obtain ⟨x, y, rfl⟩ := own2 a f js hf d hd
    rfl
  simp only [sm, this, Bool.and_true, decide_eq_true_eq]
  exact h
theorem ints_map {α : Type} (f : α → Int) (l : List α) : ints? (l.map fun x => .int (f x)) = some (l.map f) := by
  induction l with
  | nil => rfl
  | cons x l ih => simp only [List.map_cons, ints?, ih, Option.map_some]
theorem sum_cast {α : Type} (f : α → Nat) (l : List α) : (l.map fun x => ((f x : Nat) : Int)).sum = ((l.map f).sum : Nat) := by
  induction l with
  | nil => rfl
  | cons x l ih => simp only [List.map_cons, List.sum_cons, ih]; omega
theorem play_small {s e : SS} {js : List J} (h : play s js = .inr e) (ht : tot s js ≤ 100000) : small js := by
  intro j hj
  obtain ⟨k, hk, rfl⟩ := List.mem_iff_getElem.mp hj
  obtain ⟨r, h1, h2, h3, h4, h5, h6⟩ := step_ (g := js[k].1) (w := js[k].2) h (List.getElem?_eq_getElem hk)
  rcases Nat.eq_zero_or_pos (js[k]).1.natAbs with h0 | h0
  · rw [h0]; decide
  · have : (js[k]).1.natAbs < 2 ^ 200 := by omega
    have := (Nat.log2_lt (by omega)).mpr this
    omega
theorem log19 {m : Int} (h : m.natAbs < 2 ^ 200) : m.natAbs.log2 < 1920 := by
  rcases Nat.eq_zero_or_pos m.natAbs with h0 | h0
  · rw [h0]; decide
  · have := (Nat.log2_lt (by omega)).mpr h
    omega
theorem play_d {s : SS} {js : List J} {c : Nat} {d : D} (h : play s js = .inl (c, d)) : (∃ w, d = .str w) ∨ ∃ g, d = .int g := by
  induction js generalizing s with
  | nil => cases h
  | cons j js ih =>
    obtain ⟨g, w⟩ := j
    simp only [play] at h
    split at h
    · split at h
      · exact ih h
      · cases h; exact .inl ⟨_, rfl⟩
    · cases h; exact .inr ⟨_, rfl⟩
theorem sm_outD (s : SS) (js : List J) : sm 4 (outD s js) = true := by
  unfold outD
  split
  · rfl
  · rename_i c d h
    rcases play_d h with ⟨w, rfl⟩ | ⟨g, rfl⟩ <;> rfl
theorem play_ext {s e : SS} {js : List J} (t : SS) (h : play s js = .inr e) : play (s ++ t) js = .inr (e ++ t) := by
  induction js generalizing s with
  | nil => cases h; rfl
  | cons j js ih =>
    obtain ⟨g, w⟩ := j
    obtain ⟨h1, h2, h3, h4⟩ := play_one h
    have e1 : ins (s ++ t) g.toNat w = ins s g.toNat w ++ t := by
      have : g.toNat ≤ s.length := by omega
      simp only [ins, List.take_append_of_le_length this, List.drop_append_of_le_length this, List.append_assoc]
    simp only [play, show (0 ≤ g ∧ g ≤ ((s ++ t).length : Int)) from ⟨h1, by rw [List.length_append]; omega⟩, h3, and_self, if_true, e1]
    exact ih h4
theorem sum_le {js : List J} {z : Nat} (h : ∀ j ∈ js, j.2.length ≤ z) : (js.map fun j => j.2.length).sum ≤ z * js.length := by
  induction js with
  | nil => simp
  | cons j js ih =>
    have h1 := h j List.mem_cons_self
    have h2 := ih fun x hx => h x (List.mem_cons_of_mem _ hx)
    simp only [List.map_cons, List.sum_cons, List.length_cons, Nat.mul_succ]
    omega
theorem noLst_js (js : List J) : noLsts (jsD js) = true := by
  induction js with
  | nil => rfl
  | cons j js ih => simp only [jsD, List.map_cons, noLsts, noLst, jD] at ih ⊢; simp [ih]
theorem noLst_g (s : SS) (js : List J) (e : SS) : noLst (.obj 0 [(1, .str s), (2, .tup (jsD js)), (3, .str e)]) = true := by
  simp only [noLst, noLstf, noLst_js, Bool.and_self]
theorem mk_ {s e : SS} {js : List J} {x : D} (h : play s js = .inr e) (hx : isJs x js) (ht : tot s js ≤ 100000) (hn : js.length ≤ 100000) {Kf : List (Nat × D) → Prop} {R : DR} (hk : Kf [(1, .str s), (2, .tup (jsD js)), (3, .str e)]) (p : Addr) :
    df_Growth_init [.adr p, .str s, x] [(p, .ins 0 [])] (fun d μ' => d = .non ∧ ∃ fs, μ' = [(p, .ins 0 fs)] ∧ Kf fs) R :=
  ⟨p, s, x, js, rfl, rfl, hx, ht, hn, play_small h ht, fun e' he => by cases h.symm.trans he; exact ⟨rfl, _, rfl, hk⟩, fun c d hc => by cases h.symm.trans hc⟩
theorem play3 {e : SS} {m : Nat} (h : m ≤ e.length) : ∃ e3, play e [((m : Int), [120, 121, 122]), ((m : Int) + 1, [119]), ((m : Int) + 4, [118])] = .inr e3 := by
  have l1 : (ins e m [120, 121, 122]).length = e.length + 3 := by rw [ins_len _ _ _ h]; rfl
  have l2 : (ins (ins e m [120, 121, 122]) (m + 1) [119]).length = e.length + 4 := by rw [ins_len _ _ _ (by omega), l1]; rfl
  have x1 : ((m : Int) + 1).toNat = m + 1 := by omega
  have x2 : ((m : Int) + 4).toNat = m + 4 := by omega
  refine ⟨ins (ins (ins e m [120, 121, 122]) (m + 1) [119]) (m + 4) [118], ?_⟩
  rw [play, if_pos ⟨by omega, by omega⟩, if_pos (by decide), Int.toNat_natCast, play, if_pos ⟨by omega, by omega⟩, if_pos (by decide), x1, play, if_pos ⟨by omega, by omega⟩, if_pos (by decide), x2]
  rfl
end K04

namespace K04
open PySem PySem.Spec PyProof.Rows L2 DL
section
variable {P : Program} {w : World} {K : PySem.W.Frag} {mg : PySem.Str → Option Value} {base : Heap} {C : DC} {Dd : Addr} {fa : Addr} {fd : FuncData}
theorem sc_is_group : FnScope ["group", "sign"] ["group"] (defScope (top 10)) := ⟨rfl, rfl, rfl, by decide +kernel, rfl, by decide +kernel, by decide +kernel⟩
theorem ok_is_group (fx : Fx K mg C Dd)  (F : FunD K "is_group" "is_group" (defArgs (top 10)) (defBody (top 10)) (defScope (top 10)) [] [] fa fd) : FnOk P w K mg base (L2.CX P w) (0 + 1) fa fd ["group"] (spOf C K 1 (df_is_group)) := by
  refine okD (k := 0) F sc_is_group (fun cdv A outer s H E hr tk => (ss_cons (s_for PassesOwn.leaving rfl (i_any (e_var 0)) (g_name 1 sc_is_group.nd) (ss_one (s_if (t_cmp (o_notin (un65 hr)) (e_var 1) (e_glob _ _ fx.c_LETTERS (fun _ => .str _ (by decide) (by decide)))) (ss_one (s_ret e_bl)) ss_nil))) (ss_one (s_ret (e_cmp (o_ne (un64 hr)) (e_var 0) (e_str [])))))) ?_
  intro ds μ Q R hl h
  obtain ⟨s, rfl, hq⟩ := h
  simp only [dSeq, dNext, dRet, dRetN, dDrop, dBreak, dCont, dAsg, dIfS, dFor, dWhile, dAny, dItA, dVar, dC, dBin, dUn, dVal, dChain, dAnd, dOr, dNot, dAndV, dOrV, dIf, dTup, dLst, dLstO, dNil, dCons, dIxO, dNoP, dPart, dSl, dCB, dCall, dMeth, dProp, dFld, dMake, dSetF, dMt, dFz, dFzS, dTrim, dLend, dgName, dgTup, dgCons, dgSub, dgSlc, dLc, dLcO, dLcG, tYesD, dRaise, dTry, dXval, dXisi, dOwn1, dIxOwn, dOwnIt, dListG, dListO, dEnds, slots, fItems, fAdd, fI, fI0, fIx, fLen, fInt, fList, fTuple, fIsi, fRng1, fRng2, fEnumA, fNot, fNeg, fEq, fNe, fLt, fLe, fGt, fGe, fIs, fIsNot, fIn, fNotIn, fMul, eqG, inG, gLen, gAll, fApp, hush, gPlain, gYield, gThen, gNx, gFor, List.map_cons, List.map_nil, List.length_cons, List.length_nil, Nat.reduceSub, Nat.reduceAdd, Nat.zero_add, Nat.sub_self, List.replicate, List.cons_append, List.nil_append, List.append_nil, List.getElem?_cons_zero, List.getElem?_cons_succ, List.set_cons_zero, List.set_cons_succ, List.take_succ_cons, List.take_zero, List.drop_zero, List.drop_succ_cons, List.drop_nil, List.take_nil, gD, Option.some.injEq, exists_eq_left', List.lookup_cons, Nat.reduceBEq, List.mem_cons, List.mem_singleton, true_and, and_true, List.mem_nil_iff, or_false, List.not_mem_nil]
  refine ⟨fun k δ μ' => μ' = μ ∧ (∃ v, δ = [some (.str s), v]) ∧ ∀ c ∈ s.take k, c ∈ LET, ⟨rfl, ⟨_, rfl⟩, by simp⟩, ?_, ?_⟩
  · rintro k d δ μ' hd ⟨rfl, ⟨v, rfl⟩, hi⟩
    obtain ⟨c, hc, rfl⟩ := mg_ hd
    simp only [List.set_cons_succ, List.set_cons_zero, List.getElem?_cons_succ, List.getElem?_cons_zero]
    by_cases hm : c ∈ LET
    · simp only [hm, decide_true, Bool.not_true, Bool.false_eq_true, if_false]
      refine ⟨trivial, ⟨_, rfl⟩, fun x hx => ?_⟩
      rw [take1 hc] at hx
      rcases List.mem_append.mp hx with hx | hx
      · exact hi x hx
      · rw [List.mem_singleton.mp hx]; exact hm
    · simp only [hm, decide_false, Bool.not_false, if_true]
      have : isG s = false := by
        simp only [isG, Bool.and_eq_false_iff]
        left
        rw [List.all_eq_false]
        exact ⟨c, mem_ hc, by simpa using hm⟩
      rw [this] at hq; exact hq
  · rintro δ μ' ⟨rfl, ⟨v, rfl⟩, hi⟩
    simp only [List.getElem?_cons_zero, List.length_map, List.take_length] at hi ⊢
    have : isG s = !decide (s = []) := by
      simp only [isG]
      rw [List.all_eq_true.mpr (fun x hx => by simpa using hi x hx), Bool.true_and]
    rw [← this]; exact hq
theorem sc_check_group : FnScope ["group"] ["group"] (defScope (top 11)) := ⟨rfl, rfl, rfl, by decide +kernel, rfl, by decide +kernel, by decide +kernel⟩
theorem ok_check_group (fx : Fx K mg C Dd) (h_is_group : FDa P w K mg base C "is_group" 1 1 [] (df_is_group)) (h_e_InvalidGroup : EDa P w K mg base C Dd "InvalidGroup" 1) (F : FunD K "check_group" "check_group" (defArgs (top 11)) (defBody (top 11)) (defScope (top 11)) [] [] fa fd) : FnOk P w K mg base (L2.CX P w) (2 + 1) fa fd ["group"] (spOf C K 1 (df_check_group)) := by
  refine okD (k := 2) F sc_check_group (fun cdv A outer s H E hr tk => (ss_cons (s_if (t_not (t_val (e_call 0 h_is_group (hr.mono (by decide)) tk (a_cons (e_var 0) a_nil)))) (ss_one (s_raise rfl h_e_InvalidGroup (hr.mono (by decide)) tk (a_cons (e_var 0) a_nil))) ss_nil) (ss_one (s_ret (e_var 0))))) ?_
  intro ds μ Q R hl h
  obtain ⟨s, rfl, hl, h1, h2⟩ := h
  simp only [dSeq, dNext, dRet, dRetN, dDrop, dBreak, dCont, dAsg, dIfS, dFor, dWhile, dAny, dItA, dVar, dC, dBin, dUn, dVal, dChain, dAnd, dOr, dNot, dAndV, dOrV, dIf, dTup, dLst, dLstO, dNil, dCons, dIxO, dNoP, dPart, dSl, dCB, dCall, dMeth, dProp, dFld, dMake, dSetF, dMt, dFz, dFzS, dTrim, dLend, dgName, dgTup, dgCons, dgSub, dgSlc, dLc, dLcO, dLcG, tYesD, dRaise, dTry, dXval, dXisi, dOwn1, dIxOwn, dOwnIt, dListG, dListO, dEnds, slots, fItems, fAdd, fI, fI0, fIx, fLen, fInt, fList, fTuple, fIsi, fRng1, fRng2, fEnumA, fNot, fNeg, fEq, fNe, fLt, fLe, fGt, fGe, fIs, fIsNot, fIn, fNotIn, fMul, eqG, inG, gLen, gAll, fApp, hush, gPlain, gYield, gThen, gNx, gFor, List.map_cons, List.map_nil, List.length_cons, List.length_nil, Nat.reduceSub, Nat.reduceAdd, Nat.zero_add, Nat.sub_self, List.replicate, List.cons_append, List.nil_append, List.append_nil, List.getElem?_cons_zero, List.getElem?_cons_succ, List.set_cons_zero, List.set_cons_succ, List.take_succ_cons, List.take_zero, List.drop_zero, List.drop_succ_cons, List.drop_nil, List.take_nil, gD, Option.some.injEq, exists_eq_left', List.lookup_cons, Nat.reduceBEq, List.mem_cons, List.mem_singleton, true_and, and_true, List.mem_nil_iff, or_false, List.not_mem_nil]
  refine ⟨s, rfl, ?_⟩
  simp only [List.append_nil]
  cases hg : isG s with
  | true => simp only [Bool.not_true, Bool.false_eq_true, if_false]; exact h1 hg
  | false => simp only [Bool.not_false, if_true]; exact ⟨hl, h2 hg⟩
theorem sc_row_after : FnScope ["row", "gap", "group"] ["row", "gap", "group"] (defScope (top 14)) := ⟨rfl, rfl, rfl, by decide +kernel, rfl, by decide +kernel, by decide +kernel⟩
theorem ok_row_after (fx : Fx K mg C Dd)  (F : FunD K "row_after" "row_after" (defArgs (top 14)) (defBody (top 14)) (defScope (top 14)) [] [] fa fd) : FnOk P w K mg base (L2.CX P w) (0 + 1) fa fd ["row", "gap", "group"] (spOf C K 3 (df_row_after)) := by
  refine okD (k := 0) F sc_row_after (fun cdv A outer s H E hr tk => (ss_one (s_ret (e_op o_add (e_op o_add (e_sl (e_var 0) o_none (o_some (e_var 1))) (e_var 2)) (e_sl (e_var 0) (o_some (e_var 1)) o_none))))) ?_
  intro ds μ Q R hl h
  obtain ⟨r, w, g, rfl, h0, h1, h2, h3⟩ := h
  obtain ⟨g, rfl⟩ := Int.eq_ofNat_of_zero_le h0
  simp only [dSeq, dNext, dRet, dRetN, dDrop, dBreak, dCont, dAsg, dIfS, dFor, dWhile, dAny, dItA, dVar, dC, dBin, dUn, dVal, dChain, dAnd, dOr, dNot, dAndV, dOrV, dIf, dTup, dLst, dLstO, dNil, dCons, dIxO, dNoP, dPart, dSl, dCB, dCall, dMeth, dProp, dFld, dMake, dSetF, dMt, dFz, dFzS, dTrim, dLend, dgName, dgTup, dgCons, dgSub, dgSlc, dLc, dLcO, dLcG, tYesD, dRaise, dTry, dXval, dXisi, dOwn1, dIxOwn, dOwnIt, dListG, dListO, dEnds, slots, fItems, fAdd, fI, fI0, fIx, fLen, fInt, fList, fTuple, fIsi, fRng1, fRng2, fEnumA, fNot, fNeg, fEq, fNe, fLt, fLe, fGt, fGe, fIs, fIsNot, fIn, fNotIn, fMul, eqG, inG, gLen, gAll, fApp, hush, gPlain, gYield, gThen, gNx, gFor, List.map_cons, List.map_nil, List.length_cons, List.length_nil, Nat.reduceSub, Nat.reduceAdd, Nat.zero_add, Nat.sub_self, List.replicate, List.cons_append, List.nil_append, List.append_nil, List.getElem?_cons_zero, List.getElem?_cons_succ, List.set_cons_zero, List.set_cons_succ, List.take_succ_cons, List.take_zero, List.drop_zero, List.drop_succ_cons, List.drop_nil, List.take_nil, gD, Option.some.injEq, exists_eq_left', List.lookup_cons, Nat.reduceBEq, List.mem_cons, List.mem_singleton, true_and, and_true, List.mem_nil_iff, or_false, List.not_mem_nil]
  rw [cut_to _ _ (by omega), cut_from _ _ (by omega)]
  simp only [Int.toNat_natCast, ins] at h3
  refine ⟨?_, ?_, h3⟩
  · simp only [List.length_take]; omega
  · simp only [List.length_append, List.length_take, List.length_drop]; omega
theorem sc_Growth_init : FnScope ["self", "start", "joins", "end", "made", "gap", "group"] ["self", "start", "joins"] (defScope (cb 15 0)) := ⟨rfl, rfl, rfl, by decide +kernel, rfl, by decide +kernel, by decide +kernel⟩
theorem ok_Growth_init {dv : V} (fx : Fx K mg C Dd) (h_e_GapOutOfRange : EDa P w K mg base C Dd "GapOutOfRange" 2) (h_row_after : FDa P w K mg base C "row_after" 1 3 [] (df_row_after)) (h_check_group : FDa P w K mg base C "check_group" 3 1 [] (df_check_group)) (F : FunD K "__init__" "Growth.__init__" (defArgs (cb 15 0)) (defBody (cb 15 0)) (defScope (cb 15 0)) [dv] [] fa fd) : FnOk P w K mg base (L2.CX P w) (3 + 1) fa fd ["self", "start", "joins"] (spOf C K 3 (df_Growth_init)) := by
  refine okD (k := 3) F sc_Growth_init (fun cdv A outer s H E hr tk => (ss_cons (s_set 3 sc_Growth_init.nd (e_var 1)) (ss_cons (s_set 4 sc_Growth_init.nd (e_lstO a_nil)) (ss_cons (s_for PassesOwn.leaving rfl (i_any (e_var 2)) (g_tup (n := 2) rfl (gs_cons (g_name 5 sc_Growth_init.nd) (gs_cons (g_name 6 sc_Growth_init.nd) gs_nil))) (ss_cons (s_if (t_not (t_chain o_le o_le e_int (e_var 5) (e_bi c_len fx.len (by decide +kernel) (a_cons (e_var 3) a_nil)))) (ss_one (s_raise rfl h_e_GapOutOfRange (hr.mono (by decide)) tk (a_cons (e_var 5) a_nil))) ss_nil) (ss_cons (s_set 3 sc_Growth_init.nd (e_call 0 h_row_after (hr.mono (by decide)) tk (a_cons (e_var 3) (a_cons (e_var 5) (a_cons (e_call 0 h_check_group (hr.mono (by decide)) tk (a_cons (e_var 6) a_nil)) a_nil))))) (ss_one (s_expr (e_app 1 (e_var 4) (a_cons (e_tup (a_cons (e_var 5) (a_cons (e_var 6) a_nil))) a_nil))))))) (ss_cons (s_fld 0 1 fx.fn_1 fx.fo_1 (e_var 0) (e_var 1)) (ss_cons (s_fld 0 2 fx.fn_2 fx.fo_2 (e_var 0) (e_bt c_tuple fx.tuple (by decide +kernel) (a_cons (e_fz (e_var 4)) a_nil))) (ss_one (s_fld 0 3 fx.fn_3 fx.fo_3 (e_var 0) (e_var 3))))))))) ?_
  intro ds μ Q R hl h
  obtain ⟨p, s, x, js, rfl, rfl, hx, ht, hn, hs, h1, h2⟩ := h
  rcases hx with rfl | rfl
  all_goals
    simp only [dSeq, dNext, dRet, dRetN, dDrop, dBreak, dCont, dAsg, dIfS, dFor, dWhile, dAny, dItA, dVar, dC, dBin, dUn, dVal, dChain, dAnd, dOr, dNot, dAndV, dOrV, dIf, dTup, dLst, dLstO, dNil, dCons, dIxO, dNoP, dPart, dSl, dCB, dCall, dMeth, dProp, dFld, dMake, dSetF, dMt, dFz, dFzS, dTrim, dLend, dgName, dgTup, dgCons, dgSub, dgSlc, dLc, dLcO, dLcG, tYesD, dRaise, dTry, dXval, dXisi, dOwn1, dIxOwn, dOwnIt, dListG, dListO, dEnds, slots, fItems, fAdd, fI, fI0, fIx, fLen, fInt, fList, fTuple, fIsi, fRng1, fRng2, fEnumA, fNot, fNeg, fEq, fNe, fLt, fLe, fGt, fGe, fIs, fIsNot, fIn, fNotIn, fMul, eqG, inG, gLen, gAll, fApp, hush, gPlain, gYield, gThen, gNx, gFor, List.map_cons, List.map_nil, List.length_cons, List.length_nil, Nat.reduceSub, Nat.reduceAdd, Nat.zero_add, Nat.sub_self, List.replicate, List.cons_append, List.nil_append, List.append_nil, List.getElem?_cons_zero, List.getElem?_cons_succ, List.set_cons_zero, List.set_cons_succ, List.take_succ_cons, List.take_zero, List.drop_zero, List.drop_succ_cons, List.drop_nil, List.take_nil, gD, Option.some.injEq, exists_eq_left', List.lookup_cons, Nat.reduceBEq, List.mem_cons, List.mem_singleton, true_and, and_true, List.mem_nil_iff, or_false, List.not_mem_nil]
    refine ⟨by omega, fun q => ?_⟩
    refine ⟨fun k δ μ' => ∃ r a b y, play s (js.take k) = .inr r ∧ μ' = [(p, .ins 0 []), (q, .lst (jsD (js.take k)))] ∧ δ = [some (.adr p), some (.str s), some y, some (.str r), some (.adr q), a, b], ⟨s, _, _, _, rfl, rfl, rfl⟩, ?_, ?_⟩
    · rintro k d δ μ' hd ⟨r, a, b, y, hp, rfl, rfl⟩
      obtain ⟨⟨g, w⟩, hj, rfl⟩ := jsD_get hd
      have hlen := len_next hj hp
      have hsm := hs _ (mem_ hj)
      have hpl := play_at hj hp
      have hk := lt_ hj
      simp only [dSeq, dNext, dRet, dRetN, dDrop, dBreak, dCont, dAsg, dIfS, dFor, dWhile, dAny, dItA, dVar, dC, dBin, dUn, dVal, dChain, dAnd, dOr, dNot, dAndV, dOrV, dIf, dTup, dLst, dLstO, dNil, dCons, dIxO, dNoP, dPart, dSl, dCB, dCall, dMeth, dProp, dFld, dMake, dSetF, dMt, dFz, dFzS, dTrim, dLend, dgName, dgTup, dgCons, dgSub, dgSlc, dLc, dLcO, dLcG, tYesD, dRaise, dTry, dXval, dXisi, dOwn1, dIxOwn, dOwnIt, dListG, dListO, dEnds, slots, fItems, fAdd, fI, fI0, fIx, fLen, fInt, fList, fTuple, fIsi, fRng1, fRng2, fEnumA, fNot, fNeg, fEq, fNe, fLt, fLe, fGt, fGe, fIs, fIsNot, fIn, fNotIn, fMul, eqG, inG, gLen, gAll, fApp, hush, gPlain, gYield, gThen, gNx, gFor, List.map_cons, List.map_nil, List.length_cons, List.length_nil, Nat.reduceSub, Nat.reduceAdd, Nat.zero_add, Nat.sub_self, List.replicate, List.cons_append, List.nil_append, List.append_nil, List.getElem?_cons_zero, List.getElem?_cons_succ, List.set_cons_zero, List.set_cons_succ, List.take_succ_cons, List.take_zero, List.drop_zero, List.drop_succ_cons, List.drop_nil, List.take_nil, gD, Option.some.injEq, exists_eq_left', List.lookup_cons, Nat.reduceBEq, List.mem_cons, List.mem_singleton, true_and, and_true, List.mem_nil_iff, or_false, List.not_mem_nil, jD]
      by_cases h0 : 0 ≤ g
      · simp only [h0, decide_true]
        by_cases hg : g ≤ (r.length : Int)
        · simp only [hg, decide_true, Bool.not_true, Bool.false_eq_true, if_false]
          refine ⟨w, rfl, by omega, fun hw => ?_, fun hw => ?_⟩
          · refine ⟨r, w, g, rfl, h0, hg, by omega, ?_⟩
            simp only [dSeq, dNext, dRet, dRetN, dDrop, dBreak, dCont, dAsg, dIfS, dFor, dWhile, dAny, dItA, dVar, dC, dBin, dUn, dVal, dChain, dAnd, dOr, dNot, dAndV, dOrV, dIf, dTup, dLst, dLstO, dNil, dCons, dIxO, dNoP, dPart, dSl, dCB, dCall, dMeth, dProp, dFld, dMake, dSetF, dMt, dFz, dFzS, dTrim, dLend, dgName, dgTup, dgCons, dgSub, dgSlc, dLc, dLcO, dLcG, tYesD, dRaise, dTry, dXval, dXisi, dOwn1, dIxOwn, dOwnIt, dListG, dListO, dEnds, slots, fItems, fAdd, fI, fI0, fIx, fLen, fInt, fList, fTuple, fIsi, fRng1, fRng2, fEnumA, fNot, fNeg, fEq, fNe, fLt, fLe, fGt, fGe, fIs, fIsNot, fIn, fNotIn, fMul, eqG, inG, gLen, gAll, fApp, hush, gPlain, gYield, gThen, gNx, gFor, List.map_cons, List.map_nil, List.length_cons, List.length_nil, Nat.reduceSub, Nat.reduceAdd, Nat.zero_add, Nat.sub_self, List.replicate, List.cons_append, List.nil_append, List.append_nil, List.getElem?_cons_zero, List.getElem?_cons_succ, List.set_cons_zero, List.set_cons_succ, List.take_succ_cons, List.take_zero, List.drop_zero, List.drop_succ_cons, List.drop_nil, List.take_nil, gD, Option.some.injEq, exists_eq_left', List.lookup_cons, Nat.reduceBEq, List.mem_cons, List.mem_singleton, true_and, and_true, List.mem_nil_iff, or_false, List.not_mem_nil]
            refine ⟨⟨rfl, 1, _, rfl⟩, by omega, ?_, ?_⟩
            · rw [jsD_len, List.length_take]; omega
            · refine ⟨_, _, _, _, play_next hj hp h0 hg hw, ?_, rfl⟩
              rw [take1 hj, jsD_app]; rfl
          · refine h2 1 _ ?_ _
            rw [hpl]; simp [play, h0, hg, hw]
        · simp only [hg, decide_false, Bool.not_false, if_true]
          refine ⟨hsm, h2 2 _ ?_ _⟩
          rw [hpl]; simp [play, h0, hg]
      · simp only [h0, decide_false, Bool.not_false, if_true]
        refine ⟨hsm, h2 2 _ ?_ _⟩
        rw [hpl]; simp [play, h0]
    · rintro δ μ' ⟨r, a, b, y, hp, rfl, rfl⟩
      rw [jsD_len, List.take_length] at hp
      simp only [dSeq, dNext, dRet, dRetN, dDrop, dBreak, dCont, dAsg, dIfS, dFor, dWhile, dAny, dItA, dVar, dC, dBin, dUn, dVal, dChain, dAnd, dOr, dNot, dAndV, dOrV, dIf, dTup, dLst, dLstO, dNil, dCons, dIxO, dNoP, dPart, dSl, dCB, dCall, dMeth, dProp, dFld, dMake, dSetF, dMt, dFz, dFzS, dTrim, dLend, dgName, dgTup, dgCons, dgSub, dgSlc, dLc, dLcO, dLcG, tYesD, dRaise, dTry, dXval, dXisi, dOwn1, dIxOwn, dOwnIt, dListG, dListO, dEnds, slots, fItems, fAdd, fI, fI0, fIx, fLen, fInt, fList, fTuple, fIsi, fRng1, fRng2, fEnumA, fNot, fNeg, fEq, fNe, fLt, fLe, fGt, fGe, fIs, fIsNot, fIn, fNotIn, fMul, eqG, inG, gLen, gAll, fApp, hush, gPlain, gYield, gThen, gNx, gFor, List.map_cons, List.map_nil, List.length_cons, List.length_nil, Nat.reduceSub, Nat.reduceAdd, Nat.zero_add, Nat.sub_self, List.replicate, List.cons_append, List.nil_append, List.append_nil, List.getElem?_cons_zero, List.getElem?_cons_succ, List.set_cons_zero, List.set_cons_succ, List.take_succ_cons, List.take_zero, List.drop_zero, List.drop_succ_cons, List.drop_nil, List.take_nil, gD, Option.some.injEq, exists_eq_left', List.lookup_cons, Nat.reduceBEq, List.mem_cons, List.mem_singleton, true_and, and_true, List.mem_nil_iff, or_false, List.not_mem_nil, jsD_len, List.take_length]
      refine ⟨by omega, [(p, .ins 0 (putD 1 (.str s) []))], _, rfl, ?_⟩
      simp only [dSeq, dNext, dRet, dRetN, dDrop, dBreak, dCont, dAsg, dIfS, dFor, dWhile, dAny, dItA, dVar, dC, dBin, dUn, dVal, dChain, dAnd, dOr, dNot, dAndV, dOrV, dIf, dTup, dLst, dLstO, dNil, dCons, dIxO, dNoP, dPart, dSl, dCB, dCall, dMeth, dProp, dFld, dMake, dSetF, dMt, dFz, dFzS, dTrim, dLend, dgName, dgTup, dgCons, dgSub, dgSlc, dLc, dLcO, dLcG, tYesD, dRaise, dTry, dXval, dXisi, dOwn1, dIxOwn, dOwnIt, dListG, dListO, dEnds, slots, fItems, fAdd, fI, fI0, fIx, fLen, fInt, fList, fTuple, fIsi, fRng1, fRng2, fEnumA, fNot, fNeg, fEq, fNe, fLt, fLe, fGt, fGe, fIs, fIsNot, fIn, fNotIn, fMul, eqG, inG, gLen, gAll, fApp, hush, gPlain, gYield, gThen, gNx, gFor, List.map_cons, List.map_nil, List.length_cons, List.length_nil, Nat.reduceSub, Nat.reduceAdd, Nat.zero_add, Nat.sub_self, List.replicate, List.cons_append, List.nil_append, List.append_nil, List.getElem?_cons_zero, List.getElem?_cons_succ, List.set_cons_zero, List.set_cons_succ, List.take_succ_cons, List.take_zero, List.drop_zero, List.drop_succ_cons, List.drop_nil, List.take_nil, gD, Option.some.injEq, exists_eq_left', List.lookup_cons, Nat.reduceBEq, List.mem_cons, List.mem_singleton, true_and, and_true, List.mem_nil_iff, or_false, List.not_mem_nil]
      refine ⟨by simp [putD], by simp [putD], ?_⟩
      exact h1 r hp
theorem sc_Growth_row : FnScope ["self"] ["self"] (defScope (cb 15 1)) := ⟨rfl, rfl, rfl, by decide +kernel, rfl, by decide +kernel, by decide +kernel⟩
theorem ok_Growth_row (fx : Fx K mg C Dd)  (F : FunD K "row" "Growth.row" (defArgs (cb 15 1)) (defBody (cb 15 1)) (defScope (cb 15 1)) [] [] fa fd) : FnOk P w K mg base (L2.CX P w) (0 + 1) fa fd ["self"] (spOf C K 1 (df_Growth_row)) := by
  refine okD (k := 0) F sc_Growth_row (fun cdv A outer s H E hr tk => (ss_one (s_ret (e_fld 3 fx.fn_3 fx.fo_3 (e_var 0))))) ?_
  intro ds μ Q R hl h
  obtain ⟨s, js, e, rfl, hq⟩ := h
  simp only [dSeq, dNext, dRet, dRetN, dDrop, dBreak, dCont, dAsg, dIfS, dFor, dWhile, dAny, dItA, dVar, dC, dBin, dUn, dVal, dChain, dAnd, dOr, dNot, dAndV, dOrV, dIf, dTup, dLst, dLstO, dNil, dCons, dIxO, dNoP, dPart, dSl, dCB, dCall, dMeth, dProp, dFld, dMake, dSetF, dMt, dFz, dFzS, dTrim, dLend, dgName, dgTup, dgCons, dgSub, dgSlc, dLc, dLcO, dLcG, tYesD, dRaise, dTry, dXval, dXisi, dOwn1, dIxOwn, dOwnIt, dListG, dListO, dEnds, slots, fItems, fAdd, fI, fI0, fIx, fLen, fInt, fList, fTuple, fIsi, fRng1, fRng2, fEnumA, fNot, fNeg, fEq, fNe, fLt, fLe, fGt, fGe, fIs, fIsNot, fIn, fNotIn, fMul, eqG, inG, gLen, gAll, fApp, hush, gPlain, gYield, gThen, gNx, gFor, List.map_cons, List.map_nil, List.length_cons, List.length_nil, Nat.reduceSub, Nat.reduceAdd, Nat.zero_add, Nat.sub_self, List.replicate, List.cons_append, List.nil_append, List.append_nil, List.getElem?_cons_zero, List.getElem?_cons_succ, List.set_cons_zero, List.set_cons_succ, List.take_succ_cons, List.take_zero, List.drop_zero, List.drop_succ_cons, List.drop_nil, List.take_nil, gD, Option.some.injEq, exists_eq_left', List.lookup_cons, Nat.reduceBEq, List.mem_cons, List.mem_singleton, true_and, and_true, List.mem_nil_iff, or_false, List.not_mem_nil, jsD_len]
  exact hq
theorem sc_Growth_owners : FnScope ["self", "found", "place", "at", "gap", "group"] ["self"] (defScope (cb 15 3)) := ⟨rfl, rfl, rfl, by decide +kernel, rfl, by decide +kernel, by decide +kernel⟩
theorem ok_Growth_owners (fx : Fx K mg C Dd)  (F : FunD K "owners" "Growth.owners" (defArgs (cb 15 3)) (defBody (cb 15 3)) (defScope (cb 15 3)) [] [] fa fd) : FnOk P w K mg base (L2.CX P w) (0 + 1) fa fd ["self"] (spOf C K 1 (df_Growth_owners)) := by
  refine okD (k := 0) F sc_Growth_owners (fun cdv A outer s H E hr tk => (ss_cons (s_setLcO [("place", 2)] 1 rfl sc_Growth_owners.nd (i_rng1 fx.range (a_cons (e_bi c_len fx.len (by decide +kernel) (a_cons (e_fld 1 fx.fn_1 fx.fo_1 (e_var 0)) a_nil)) a_nil)) (blkOk_by (N := ["self", "found", "place", "at", "gap", "group"]) (sc := defScope (cb 15 3)) (by decide +kernel)) (fun Y hY => by obtain ⟨s9, H9, P9, cl9, fp9, rfl⟩ := hY; exact (g_name 2 sc_Growth_owners.nd)) (in_name (by decide)) mg_name (fun Y hY => by obtain ⟨s9, H9, P9, cl9, fp9, rfl⟩ := hY; exact (e_tup (a_cons e_int (a_cons (e_op o_add (e_var 2) e_int) a_nil))))) (ss_cons (s_for PassesOwn.leaving rfl (i_enumA fx.enumerate (a_cons (e_fld 2 fx.fn_2 fx.fo_2 (e_var 0)) a_nil)) (g_tup (n := 2) rfl (gs_cons (g_name 3 sc_Growth_owners.nd) (gs_cons (g_tup (n := 2) rfl (gs_cons (g_name 4 sc_Growth_owners.nd) (gs_cons (g_name 5 sc_Growth_owners.nd) gs_nil))) gs_nil))) (ss_one (s_asg (e_lc [("place", 2)]  rfl sc_Growth_owners.nd (i_rng1 fx.range (a_cons (e_bi c_len fx.len (by decide +kernel) (a_cons (e_var 5) a_nil)) a_nil)) (blkOk_by (N := ["self", "found", "place", "at", "gap", "group"]) (sc := defScope (cb 15 3)) (by decide +kernel)) (fun Y hY => by obtain ⟨s9, H9, P9, cl9, fp9, rfl⟩ := hY; exact (g_name 2 sc_Growth_owners.nd)) (in_name (by decide)) mg_name (fun Y hY => by obtain ⟨s9, H9, P9, cl9, fp9, rfl⟩ := hY; exact (e_tup (a_cons (e_op o_add (e_var 3) e_int) (a_cons (e_op o_add (e_var 2) e_int) a_nil))))) (g_slc (W := noW) 0 (e_var 1) (o_some (e_var 4)) (o_some (e_var 4)))))) (ss_one (s_ret (e_var 1)))))) ?_
  intro ds μ Q R hl h
  obtain ⟨s, js, e, rfl, hp, ht, hn, rfl, hq⟩ := h
  have hsl : s.length ≤ 100000 := by simp only [tot] at ht; omega
  simp only [List.map_cons, List.map_nil, List.length_cons, List.length_nil, Nat.reduceSub, Nat.reduceAdd, Nat.zero_add, Nat.sub_self, List.replicate, List.cons_append, List.nil_append, List.append_nil, List.set_cons_zero, List.set_cons_succ, List.take_succ_cons, List.take_zero, List.drop_zero, List.drop_succ_cons, List.drop_nil, List.take_nil, Nat.reduceLeDiff, ↓DL.z_var0, ↓DL.z_varS, ↓DL.z_name0, ↓DL.z_nameS, ↓DL.z_c, ↓DL.z_seq, ↓DL.z_next, ↓DL.z_if, ↓DL.z_asg, ↓DL.z_ret, ↓DL.z_drop, ↓DL.z_val, ↓DL.z_bl, ↓DL.z_and, ↓DL.z_or, ↓DL.z_not, ↓DL.z_bin, ↓DL.z_cb, ↓DL.z_nil, ↓DL.z_cons, ↓DL.z_i0, ↓DL.z_i, ↓DL.z_mul, ↓DL.z_add, ↓DL.z_lt, ↓DL.z_le, ↓DL.z_gt, ↓DL.z_ge, ↓DL.z_eq, ↓DL.z_ne, ↓DL.z_len, ↓DL.z_lens, ↓DL.z_int, ↓DL.z_intb, ↓DL.z_ixO, ↓DL.z_ix0, ↓DL.z_ix1, ↓DL.z_ix2, ↓DL.z_ix3, ↓DL.z_ix4, ↓DL.z_gsub, ↓DL.z_sub1, ↓DL.z_sub2, ↓DL.z_sub3, ↓DL.z_sub4, ↓DL.z_for, ↓DL.z_itA, ↓DL.z_any, ↓DL.z_itl, ↓DL.z_itt, ↓DL.z_its, ↓DL.z_lcg, ↓DL.z_yes, ↓DL.z_ifx, ↓DL.z_tup, ↓DL.z_lst, ↓DL.z_lstO, ↓DL.z_nop, ↓DL.z_part, ↓DL.z_pa, ↓DL.z_slx, ↓DL.z_sll, ↓DL.z_slt, ↓DL.z_sls, ↓DL.z_chain, ↓DL.z_ch, ↓DL.z_andv, ↓DL.z_orv, ↓DL.z_fnot, ↓DL.z_un, ↓DL.z_neg, ↓DL.z_call, ↓DL.z_prop, ↓DL.z_meth, ↓DL.z_make, ↓DL.z_obj, ↓DL.z_fl, ↓DL.z_flt, ↓DL.z_flf, ↓DL.z_ft, ↓DL.z_ftt, ↓DL.z_lent, ↓DL.z_adds, ↓DL.z_addl, ↓DL.z_addt, ↓DL.z_eqs, ↓DL.z_nes, ↓DL.z_eqb, ↓DL.z_eqn, ↓DL.z_eql, ↓DL.z_nel, ↓DL.z_isn, ↓DL.z_isnn, ↓DL.z_ins, ↓DL.z_nins, ↓DL.z_ixt, ↓DL.z_l0, ↓DL.z_l1, ↓DL.z_l2, ↓DL.z_rng, ↓DL.z_enl, ↓DL.z_ent, ↓DL.z_gtup, ↓DL.z_gcons, ↓DL.z_gnil, ↓DL.z_wipe0, ↓DL.z_wipe, ↓DL.z_mt, ↓DL.z_ty0, ↓DL.z_ty1, ↓DL.z_app0, ↓DL.z_app1, ↓DL.z_raise, ↓DL.z_ra, ↓DL.z_is_i_bool, ↓DL.z_is_i_int, ↓DL.z_is_i_str, ↓DL.z_is_i_tuple, ↓DL.z_is_i_list, ↓DL.z_is_b_bool, ↓DL.z_is_b_int, ↓DL.z_is_b_str, ↓DL.z_is_b_tuple, ↓DL.z_is_b_list, ↓DL.z_is_s_bool, ↓DL.z_is_s_int, ↓DL.z_is_s_str, ↓DL.z_is_s_tuple, ↓DL.z_is_s_list, ↓DL.z_is_l_bool, ↓DL.z_is_l_int, ↓DL.z_is_l_str, ↓DL.z_is_l_tuple, ↓DL.z_is_l_list, ↓DL.z_is_t_bool, ↓DL.z_is_t_int, ↓DL.z_is_t_str, ↓DL.z_is_t_tuple, ↓DL.z_is_t_list, ↓DL.z_is_n_bool, ↓DL.z_is_n_int, ↓DL.z_is_n_str, ↓DL.z_is_n_tuple, ↓DL.z_is_n_list, ↓DL.z_gslc, ↓DL.z_sc0, ↓DL.z_listO, ↓DL.z_lol, ↓DL.z_lot, ↓DL.z_fsum, ↓DL.z_own1, ↓DL.z_glen, ↓DL.z_gall, ↓DL.z_ixown, ↓DL.z_listG, ↓DL.z_ownit, ↓DL.z_fld, ↓DL.z_fz, ↓DL.z_fzs, ↓DL.z_xisi, ↓DL.z_xi, ↓DL.z_xval, ↓DL.z_xv, ↓DL.z_ixm, ↓DL.z_lm, ↓dTrim, ↓dLc, ↓dLcO, ↓dEnds, ↓z_gd1, ↓z_gd2, ↓z_gd3, ↓z_gdi, ↓z_gdo, slots, ↓reduceIte, decide_eq_true_eq, Bool.false_eq_true, Bool.not_true, Bool.not_false, decide_true, decide_false, Int.reduceEq, Int.reduceSub, Int.reduceAdd, Int.reduceLT, Int.reduceNeg, and_self, true_and, and_true]
  refine ⟨by omega, by rw [rng_length]; omega, fun k acc μ' => μ' = [] ∧ acc = bro 0 k, ⟨rfl, rfl⟩, ?_, ?_⟩
  · rintro k d acc μ' hd _ ⟨rfl, rfl⟩
    obtain ⟨h1, rfl⟩ := rng_get hd
    simp only [List.map_cons, List.map_nil, List.length_cons, List.length_nil, Nat.reduceSub, Nat.reduceAdd, Nat.zero_add, Nat.sub_self, List.replicate, List.cons_append, List.nil_append, List.append_nil, List.set_cons_zero, List.set_cons_succ, List.take_succ_cons, List.take_zero, List.drop_zero, List.drop_succ_cons, List.drop_nil, List.take_nil, Nat.reduceLeDiff, ↓DL.z_var0, ↓DL.z_varS, ↓DL.z_name0, ↓DL.z_nameS, ↓DL.z_c, ↓DL.z_seq, ↓DL.z_next, ↓DL.z_if, ↓DL.z_asg, ↓DL.z_ret, ↓DL.z_drop, ↓DL.z_val, ↓DL.z_bl, ↓DL.z_and, ↓DL.z_or, ↓DL.z_not, ↓DL.z_bin, ↓DL.z_cb, ↓DL.z_nil, ↓DL.z_cons, ↓DL.z_i0, ↓DL.z_i, ↓DL.z_mul, ↓DL.z_add, ↓DL.z_lt, ↓DL.z_le, ↓DL.z_gt, ↓DL.z_ge, ↓DL.z_eq, ↓DL.z_ne, ↓DL.z_len, ↓DL.z_lens, ↓DL.z_int, ↓DL.z_intb, ↓DL.z_ixO, ↓DL.z_ix0, ↓DL.z_ix1, ↓DL.z_ix2, ↓DL.z_ix3, ↓DL.z_ix4, ↓DL.z_gsub, ↓DL.z_sub1, ↓DL.z_sub2, ↓DL.z_sub3, ↓DL.z_sub4, ↓DL.z_for, ↓DL.z_itA, ↓DL.z_any, ↓DL.z_itl, ↓DL.z_itt, ↓DL.z_its, ↓DL.z_lcg, ↓DL.z_yes, ↓DL.z_ifx, ↓DL.z_tup, ↓DL.z_lst, ↓DL.z_lstO, ↓DL.z_nop, ↓DL.z_part, ↓DL.z_pa, ↓DL.z_slx, ↓DL.z_sll, ↓DL.z_slt, ↓DL.z_sls, ↓DL.z_chain, ↓DL.z_ch, ↓DL.z_andv, ↓DL.z_orv, ↓DL.z_fnot, ↓DL.z_un, ↓DL.z_neg, ↓DL.z_call, ↓DL.z_prop, ↓DL.z_meth, ↓DL.z_make, ↓DL.z_obj, ↓DL.z_fl, ↓DL.z_flt, ↓DL.z_flf, ↓DL.z_ft, ↓DL.z_ftt, ↓DL.z_lent, ↓DL.z_adds, ↓DL.z_addl, ↓DL.z_addt, ↓DL.z_eqs, ↓DL.z_nes, ↓DL.z_eqb, ↓DL.z_eqn, ↓DL.z_eql, ↓DL.z_nel, ↓DL.z_isn, ↓DL.z_isnn, ↓DL.z_ins, ↓DL.z_nins, ↓DL.z_ixt, ↓DL.z_l0, ↓DL.z_l1, ↓DL.z_l2, ↓DL.z_rng, ↓DL.z_enl, ↓DL.z_ent, ↓DL.z_gtup, ↓DL.z_gcons, ↓DL.z_gnil, ↓DL.z_wipe0, ↓DL.z_wipe, ↓DL.z_mt, ↓DL.z_ty0, ↓DL.z_ty1, ↓DL.z_app0, ↓DL.z_app1, ↓DL.z_raise, ↓DL.z_ra, ↓DL.z_is_i_bool, ↓DL.z_is_i_int, ↓DL.z_is_i_str, ↓DL.z_is_i_tuple, ↓DL.z_is_i_list, ↓DL.z_is_b_bool, ↓DL.z_is_b_int, ↓DL.z_is_b_str, ↓DL.z_is_b_tuple, ↓DL.z_is_b_list, ↓DL.z_is_s_bool, ↓DL.z_is_s_int, ↓DL.z_is_s_str, ↓DL.z_is_s_tuple, ↓DL.z_is_s_list, ↓DL.z_is_l_bool, ↓DL.z_is_l_int, ↓DL.z_is_l_str, ↓DL.z_is_l_tuple, ↓DL.z_is_l_list, ↓DL.z_is_t_bool, ↓DL.z_is_t_int, ↓DL.z_is_t_str, ↓DL.z_is_t_tuple, ↓DL.z_is_t_list, ↓DL.z_is_n_bool, ↓DL.z_is_n_int, ↓DL.z_is_n_str, ↓DL.z_is_n_tuple, ↓DL.z_is_n_list, ↓DL.z_gslc, ↓DL.z_sc0, ↓DL.z_listO, ↓DL.z_lol, ↓DL.z_lot, ↓DL.z_fsum, ↓DL.z_own1, ↓DL.z_glen, ↓DL.z_gall, ↓DL.z_ixown, ↓DL.z_listG, ↓DL.z_ownit, ↓DL.z_fld, ↓DL.z_fz, ↓DL.z_fzs, ↓DL.z_xisi, ↓DL.z_xi, ↓DL.z_xval, ↓DL.z_xv, ↓DL.z_ixm, ↓DL.z_lm, ↓dTrim, ↓dLc, ↓dLcO, ↓dEnds, ↓z_gd1, ↓z_gd2, ↓z_gd3, ↓z_gdi, ↓z_gdo, slots, ↓reduceIte, decide_eq_true_eq, Bool.false_eq_true, Bool.not_true, Bool.not_false, decide_true, decide_false, Int.reduceEq, Int.reduceSub, Int.reduceAdd, Int.reduceLT, Int.reduceNeg, and_self, true_and, and_true]
    simp [bro, List.range_succ]
  rintro acc μ' _ ⟨rfl, rfl⟩ q
  rw [rng_length]
  refine ⟨fun k δ μ'' => ∃ f u a b c, μ'' = [(q, .lst f)] ∧ f.length = tot s (js.take k) ∧ own k f (js.drop k) = own 0 (bro 0 s.length) js ∧ δ = [some (gD s js e), some (.adr q), u, a, b, c],
    ⟨bro 0 s.length, _, _, _, _, rfl, by simp [bro, tot], rfl, rfl⟩, ?_, ?_⟩
  · rintro k d δ μ'' hd ⟨f, u, a, b, c, rfl, hf, ho, rfl⟩
    obtain ⟨x, hx, rfl⟩ := enm_get hd
    obtain ⟨⟨g, w⟩, hj, rfl⟩ := jsD_get hx
    obtain ⟨r, h1, h2, h3, h4, h5, h6⟩ := step_ hp hj
    obtain ⟨g, rfl⟩ := Int.eq_ofNat_of_zero_le h2
    have hr := play_len h1
    simp only [List.map_cons, List.map_nil, List.length_cons, List.length_nil, Nat.reduceSub, Nat.reduceAdd, Nat.zero_add, Nat.sub_self, List.replicate, List.cons_append, List.nil_append, List.append_nil, List.set_cons_zero, List.set_cons_succ, List.take_succ_cons, List.take_zero, List.drop_zero, List.drop_succ_cons, List.drop_nil, List.take_nil, Nat.reduceLeDiff, ↓DL.z_var0, ↓DL.z_varS, ↓DL.z_name0, ↓DL.z_nameS, ↓DL.z_c, ↓DL.z_seq, ↓DL.z_next, ↓DL.z_if, ↓DL.z_asg, ↓DL.z_ret, ↓DL.z_drop, ↓DL.z_val, ↓DL.z_bl, ↓DL.z_and, ↓DL.z_or, ↓DL.z_not, ↓DL.z_bin, ↓DL.z_cb, ↓DL.z_nil, ↓DL.z_cons, ↓DL.z_i0, ↓DL.z_i, ↓DL.z_mul, ↓DL.z_add, ↓DL.z_lt, ↓DL.z_le, ↓DL.z_gt, ↓DL.z_ge, ↓DL.z_eq, ↓DL.z_ne, ↓DL.z_len, ↓DL.z_lens, ↓DL.z_int, ↓DL.z_intb, ↓DL.z_ixO, ↓DL.z_ix0, ↓DL.z_ix1, ↓DL.z_ix2, ↓DL.z_ix3, ↓DL.z_ix4, ↓DL.z_gsub, ↓DL.z_sub1, ↓DL.z_sub2, ↓DL.z_sub3, ↓DL.z_sub4, ↓DL.z_for, ↓DL.z_itA, ↓DL.z_any, ↓DL.z_itl, ↓DL.z_itt, ↓DL.z_its, ↓DL.z_lcg, ↓DL.z_yes, ↓DL.z_ifx, ↓DL.z_tup, ↓DL.z_lst, ↓DL.z_lstO, ↓DL.z_nop, ↓DL.z_part, ↓DL.z_pa, ↓DL.z_slx, ↓DL.z_sll, ↓DL.z_slt, ↓DL.z_sls, ↓DL.z_chain, ↓DL.z_ch, ↓DL.z_andv, ↓DL.z_orv, ↓DL.z_fnot, ↓DL.z_un, ↓DL.z_neg, ↓DL.z_call, ↓DL.z_prop, ↓DL.z_meth, ↓DL.z_make, ↓DL.z_obj, ↓DL.z_fl, ↓DL.z_flt, ↓DL.z_flf, ↓DL.z_ft, ↓DL.z_ftt, ↓DL.z_lent, ↓DL.z_adds, ↓DL.z_addl, ↓DL.z_addt, ↓DL.z_eqs, ↓DL.z_nes, ↓DL.z_eqb, ↓DL.z_eqn, ↓DL.z_eql, ↓DL.z_nel, ↓DL.z_isn, ↓DL.z_isnn, ↓DL.z_ins, ↓DL.z_nins, ↓DL.z_ixt, ↓DL.z_l0, ↓DL.z_l1, ↓DL.z_l2, ↓DL.z_rng, ↓DL.z_enl, ↓DL.z_ent, ↓DL.z_gtup, ↓DL.z_gcons, ↓DL.z_gnil, ↓DL.z_wipe0, ↓DL.z_wipe, ↓DL.z_mt, ↓DL.z_ty0, ↓DL.z_ty1, ↓DL.z_app0, ↓DL.z_app1, ↓DL.z_raise, ↓DL.z_ra, ↓DL.z_is_i_bool, ↓DL.z_is_i_int, ↓DL.z_is_i_str, ↓DL.z_is_i_tuple, ↓DL.z_is_i_list, ↓DL.z_is_b_bool, ↓DL.z_is_b_int, ↓DL.z_is_b_str, ↓DL.z_is_b_tuple, ↓DL.z_is_b_list, ↓DL.z_is_s_bool, ↓DL.z_is_s_int, ↓DL.z_is_s_str, ↓DL.z_is_s_tuple, ↓DL.z_is_s_list, ↓DL.z_is_l_bool, ↓DL.z_is_l_int, ↓DL.z_is_l_str, ↓DL.z_is_l_tuple, ↓DL.z_is_l_list, ↓DL.z_is_t_bool, ↓DL.z_is_t_int, ↓DL.z_is_t_str, ↓DL.z_is_t_tuple, ↓DL.z_is_t_list, ↓DL.z_is_n_bool, ↓DL.z_is_n_int, ↓DL.z_is_n_str, ↓DL.z_is_n_tuple, ↓DL.z_is_n_list, ↓DL.z_gslc, ↓DL.z_sc0, ↓DL.z_listO, ↓DL.z_lol, ↓DL.z_lot, ↓DL.z_fsum, ↓DL.z_own1, ↓DL.z_glen, ↓DL.z_gall, ↓DL.z_ixown, ↓DL.z_listG, ↓DL.z_ownit, ↓DL.z_fld, ↓DL.z_fz, ↓DL.z_fzs, ↓DL.z_xisi, ↓DL.z_xi, ↓DL.z_xval, ↓DL.z_xv, ↓DL.z_ixm, ↓DL.z_lm, ↓dTrim, ↓dLc, ↓dLcO, ↓dEnds, ↓z_gd1, ↓z_gd2, ↓z_gd3, ↓z_gdi, ↓z_gdo, slots, ↓reduceIte, decide_eq_true_eq, Bool.false_eq_true, Bool.not_true, Bool.not_false, decide_true, decide_false, Int.reduceEq, Int.reduceSub, Int.reduceAdd, Int.reduceLT, Int.reduceNeg, and_self, true_and, and_true, jD]
    refine ⟨by omega, by rw [rng_length]; omega, fun i acc μ3 => μ3 = [(q, .lst f)] ∧ acc = bro (k + 1) i, ⟨rfl, rfl⟩, ?_, ?_⟩
    · rintro i d acc μ3 hd _ ⟨rfl, rfl⟩
      obtain ⟨h7, rfl⟩ := rng_get hd
      simp only [List.map_cons, List.map_nil, List.length_cons, List.length_nil, Nat.reduceSub, Nat.reduceAdd, Nat.zero_add, Nat.sub_self, List.replicate, List.cons_append, List.nil_append, List.append_nil, List.set_cons_zero, List.set_cons_succ, List.take_succ_cons, List.take_zero, List.drop_zero, List.drop_succ_cons, List.drop_nil, List.take_nil, Nat.reduceLeDiff, ↓DL.z_var0, ↓DL.z_varS, ↓DL.z_name0, ↓DL.z_nameS, ↓DL.z_c, ↓DL.z_seq, ↓DL.z_next, ↓DL.z_if, ↓DL.z_asg, ↓DL.z_ret, ↓DL.z_drop, ↓DL.z_val, ↓DL.z_bl, ↓DL.z_and, ↓DL.z_or, ↓DL.z_not, ↓DL.z_bin, ↓DL.z_cb, ↓DL.z_nil, ↓DL.z_cons, ↓DL.z_i0, ↓DL.z_i, ↓DL.z_mul, ↓DL.z_add, ↓DL.z_lt, ↓DL.z_le, ↓DL.z_gt, ↓DL.z_ge, ↓DL.z_eq, ↓DL.z_ne, ↓DL.z_len, ↓DL.z_lens, ↓DL.z_int, ↓DL.z_intb, ↓DL.z_ixO, ↓DL.z_ix0, ↓DL.z_ix1, ↓DL.z_ix2, ↓DL.z_ix3, ↓DL.z_ix4, ↓DL.z_gsub, ↓DL.z_sub1, ↓DL.z_sub2, ↓DL.z_sub3, ↓DL.z_sub4, ↓DL.z_for, ↓DL.z_itA, ↓DL.z_any, ↓DL.z_itl, ↓DL.z_itt, ↓DL.z_its, ↓DL.z_lcg, ↓DL.z_yes, ↓DL.z_ifx, ↓DL.z_tup, ↓DL.z_lst, ↓DL.z_lstO, ↓DL.z_nop, ↓DL.z_part, ↓DL.z_pa, ↓DL.z_slx, ↓DL.z_sll, ↓DL.z_slt, ↓DL.z_sls, ↓DL.z_chain, ↓DL.z_ch, ↓DL.z_andv, ↓DL.z_orv, ↓DL.z_fnot, ↓DL.z_un, ↓DL.z_neg, ↓DL.z_call, ↓DL.z_prop, ↓DL.z_meth, ↓DL.z_make, ↓DL.z_obj, ↓DL.z_fl, ↓DL.z_flt, ↓DL.z_flf, ↓DL.z_ft, ↓DL.z_ftt, ↓DL.z_lent, ↓DL.z_adds, ↓DL.z_addl, ↓DL.z_addt, ↓DL.z_eqs, ↓DL.z_nes, ↓DL.z_eqb, ↓DL.z_eqn, ↓DL.z_eql, ↓DL.z_nel, ↓DL.z_isn, ↓DL.z_isnn, ↓DL.z_ins, ↓DL.z_nins, ↓DL.z_ixt, ↓DL.z_l0, ↓DL.z_l1, ↓DL.z_l2, ↓DL.z_rng, ↓DL.z_enl, ↓DL.z_ent, ↓DL.z_gtup, ↓DL.z_gcons, ↓DL.z_gnil, ↓DL.z_wipe0, ↓DL.z_wipe, ↓DL.z_mt, ↓DL.z_ty0, ↓DL.z_ty1, ↓DL.z_app0, ↓DL.z_app1, ↓DL.z_raise, ↓DL.z_ra, ↓DL.z_is_i_bool, ↓DL.z_is_i_int, ↓DL.z_is_i_str, ↓DL.z_is_i_tuple, ↓DL.z_is_i_list, ↓DL.z_is_b_bool, ↓DL.z_is_b_int, ↓DL.z_is_b_str, ↓DL.z_is_b_tuple, ↓DL.z_is_b_list, ↓DL.z_is_s_bool, ↓DL.z_is_s_int, ↓DL.z_is_s_str, ↓DL.z_is_s_tuple, ↓DL.z_is_s_list, ↓DL.z_is_l_bool, ↓DL.z_is_l_int, ↓DL.z_is_l_str, ↓DL.z_is_l_tuple, ↓DL.z_is_l_list, ↓DL.z_is_t_bool, ↓DL.z_is_t_int, ↓DL.z_is_t_str, ↓DL.z_is_t_tuple, ↓DL.z_is_t_list, ↓DL.z_is_n_bool, ↓DL.z_is_n_int, ↓DL.z_is_n_str, ↓DL.z_is_n_tuple, ↓DL.z_is_n_list, ↓DL.z_gslc, ↓DL.z_sc0, ↓DL.z_listO, ↓DL.z_lol, ↓DL.z_lot, ↓DL.z_fsum, ↓DL.z_own1, ↓DL.z_glen, ↓DL.z_gall, ↓DL.z_ixown, ↓DL.z_listG, ↓DL.z_ownit, ↓DL.z_fld, ↓DL.z_fz, ↓DL.z_fzs, ↓DL.z_xisi, ↓DL.z_xi, ↓DL.z_xval, ↓DL.z_xv, ↓DL.z_ixm, ↓DL.z_lm, ↓dTrim, ↓dLc, ↓dLcO, ↓dEnds, ↓z_gd1, ↓z_gd2, ↓z_gd3, ↓z_gdi, ↓z_gdo, slots, ↓reduceIte, decide_eq_true_eq, Bool.false_eq_true, Bool.not_true, Bool.not_false, decide_true, decide_false, Int.reduceEq, Int.reduceSub, Int.reduceAdd, Int.reduceLT, Int.reduceNeg, and_self, true_and, and_true]
      simp [bro, List.range_succ]
    rintro acc μ3 _ ⟨rfl, rfl⟩
    rw [rng_length]
    simp only [List.map_cons, List.map_nil, List.length_cons, List.length_nil, Nat.reduceSub, Nat.reduceAdd, Nat.zero_add, Nat.sub_self, List.replicate, List.cons_append, List.nil_append, List.append_nil, List.set_cons_zero, List.set_cons_succ, List.take_succ_cons, List.take_zero, List.drop_zero, List.drop_succ_cons, List.drop_nil, List.take_nil, Nat.reduceLeDiff, ↓DL.z_var0, ↓DL.z_varS, ↓DL.z_name0, ↓DL.z_nameS, ↓DL.z_c, ↓DL.z_seq, ↓DL.z_next, ↓DL.z_if, ↓DL.z_asg, ↓DL.z_ret, ↓DL.z_drop, ↓DL.z_val, ↓DL.z_bl, ↓DL.z_and, ↓DL.z_or, ↓DL.z_not, ↓DL.z_bin, ↓DL.z_cb, ↓DL.z_nil, ↓DL.z_cons, ↓DL.z_i0, ↓DL.z_i, ↓DL.z_mul, ↓DL.z_add, ↓DL.z_lt, ↓DL.z_le, ↓DL.z_gt, ↓DL.z_ge, ↓DL.z_eq, ↓DL.z_ne, ↓DL.z_len, ↓DL.z_lens, ↓DL.z_int, ↓DL.z_intb, ↓DL.z_ixO, ↓DL.z_ix0, ↓DL.z_ix1, ↓DL.z_ix2, ↓DL.z_ix3, ↓DL.z_ix4, ↓DL.z_gsub, ↓DL.z_sub1, ↓DL.z_sub2, ↓DL.z_sub3, ↓DL.z_sub4, ↓DL.z_for, ↓DL.z_itA, ↓DL.z_any, ↓DL.z_itl, ↓DL.z_itt, ↓DL.z_its, ↓DL.z_lcg, ↓DL.z_yes, ↓DL.z_ifx, ↓DL.z_tup, ↓DL.z_lst, ↓DL.z_lstO, ↓DL.z_nop, ↓DL.z_part, ↓DL.z_pa, ↓DL.z_slx, ↓DL.z_sll, ↓DL.z_slt, ↓DL.z_sls, ↓DL.z_chain, ↓DL.z_ch, ↓DL.z_andv, ↓DL.z_orv, ↓DL.z_fnot, ↓DL.z_un, ↓DL.z_neg, ↓DL.z_call, ↓DL.z_prop, ↓DL.z_meth, ↓DL.z_make, ↓DL.z_obj, ↓DL.z_fl, ↓DL.z_flt, ↓DL.z_flf, ↓DL.z_ft, ↓DL.z_ftt, ↓DL.z_lent, ↓DL.z_adds, ↓DL.z_addl, ↓DL.z_addt, ↓DL.z_eqs, ↓DL.z_nes, ↓DL.z_eqb, ↓DL.z_eqn, ↓DL.z_eql, ↓DL.z_nel, ↓DL.z_isn, ↓DL.z_isnn, ↓DL.z_ins, ↓DL.z_nins, ↓DL.z_ixt, ↓DL.z_l0, ↓DL.z_l1, ↓DL.z_l2, ↓DL.z_rng, ↓DL.z_enl, ↓DL.z_ent, ↓DL.z_gtup, ↓DL.z_gcons, ↓DL.z_gnil, ↓DL.z_wipe0, ↓DL.z_wipe, ↓DL.z_mt, ↓DL.z_ty0, ↓DL.z_ty1, ↓DL.z_app0, ↓DL.z_app1, ↓DL.z_raise, ↓DL.z_ra, ↓DL.z_is_i_bool, ↓DL.z_is_i_int, ↓DL.z_is_i_str, ↓DL.z_is_i_tuple, ↓DL.z_is_i_list, ↓DL.z_is_b_bool, ↓DL.z_is_b_int, ↓DL.z_is_b_str, ↓DL.z_is_b_tuple, ↓DL.z_is_b_list, ↓DL.z_is_s_bool, ↓DL.z_is_s_int, ↓DL.z_is_s_str, ↓DL.z_is_s_tuple, ↓DL.z_is_s_list, ↓DL.z_is_l_bool, ↓DL.z_is_l_int, ↓DL.z_is_l_str, ↓DL.z_is_l_tuple, ↓DL.z_is_l_list, ↓DL.z_is_t_bool, ↓DL.z_is_t_int, ↓DL.z_is_t_str, ↓DL.z_is_t_tuple, ↓DL.z_is_t_list, ↓DL.z_is_n_bool, ↓DL.z_is_n_int, ↓DL.z_is_n_str, ↓DL.z_is_n_tuple, ↓DL.z_is_n_list, ↓DL.z_gslc, ↓DL.z_sc0, ↓DL.z_listO, ↓DL.z_lol, ↓DL.z_lot, ↓DL.z_fsum, ↓DL.z_own1, ↓DL.z_glen, ↓DL.z_gall, ↓DL.z_ixown, ↓DL.z_listG, ↓DL.z_ownit, ↓DL.z_fld, ↓DL.z_fz, ↓DL.z_fzs, ↓DL.z_xisi, ↓DL.z_xi, ↓DL.z_xval, ↓DL.z_xv, ↓DL.z_ixm, ↓DL.z_lm, ↓dTrim, ↓dLc, ↓dLcO, ↓dEnds, ↓z_gd1, ↓z_gd2, ↓z_gd3, ↓z_gdi, ↓z_gdo, slots, ↓reduceIte, decide_eq_true_eq, Bool.false_eq_true, Bool.not_true, Bool.not_false, decide_true, decide_false, Int.reduceEq, Int.reduceSub, Int.reduceAdd, Int.reduceLT, Int.reduceNeg, and_self, true_and, and_true]
    refine ⟨by omega, ?_, _, _, _, _, _, rfl, ?_, ?_, rfl⟩
    · simp only [bro, List.length_map, List.length_range]; omega
    · rw [← play_len h5, ins_len _ _ _ (by omega)]; simp only [bro, List.length_append, List.length_map, List.length_range, List.length_take, List.length_drop, Int.toNat_natCast]; omega
    · rw [← ho, drop1 hj]; rfl
  · rintro δ μ'' ⟨f, u, a, b, c, rfl, hf, ho, rfl⟩
    simp only [enm_length, jsD_len, List.drop_length, own] at ho ⊢
    rw [ho]
    exact hq q
theorem sc_Growth_len : FnScope ["self"] ["self"] (defScope (cb 15 8)) := ⟨rfl, rfl, rfl, by decide +kernel, rfl, by decide +kernel, by decide +kernel⟩
theorem ok_Growth_len (fx : Fx K mg C Dd)  (F : FunD K "__len__" "Growth.__len__" (defArgs (cb 15 8)) (defBody (cb 15 8)) (defScope (cb 15 8)) [] [] fa fd) : FnOk P w K mg base (L2.CX P w) (0 + 1) fa fd ["self"] (spOf C K 1 (df_Growth_len)) := by
  refine okD (k := 0) F sc_Growth_len (fun cdv A outer s H E hr tk => (ss_one (s_ret (e_bi c_len fx.len (by decide +kernel) (a_cons (e_fld 2 fx.fn_2 fx.fo_2 (e_var 0)) a_nil))))) ?_
  intro ds μ Q R hl h
  obtain ⟨s, js, e, rfl, hq⟩ := h
  simp only [dSeq, dNext, dRet, dRetN, dDrop, dBreak, dCont, dAsg, dIfS, dFor, dWhile, dAny, dItA, dVar, dC, dBin, dUn, dVal, dChain, dAnd, dOr, dNot, dAndV, dOrV, dIf, dTup, dLst, dLstO, dNil, dCons, dIxO, dNoP, dPart, dSl, dCB, dCall, dMeth, dProp, dFld, dMake, dSetF, dMt, dFz, dFzS, dTrim, dLend, dgName, dgTup, dgCons, dgSub, dgSlc, dLc, dLcO, dLcG, tYesD, dRaise, dTry, dXval, dXisi, dOwn1, dIxOwn, dOwnIt, dListG, dListO, dEnds, slots, fItems, fAdd, fI, fI0, fIx, fLen, fInt, fList, fTuple, fIsi, fRng1, fRng2, fEnumA, fNot, fNeg, fEq, fNe, fLt, fLe, fGt, fGe, fIs, fIsNot, fIn, fNotIn, fMul, eqG, inG, gLen, gAll, fApp, hush, gPlain, gYield, gThen, gNx, gFor, List.map_cons, List.map_nil, List.length_cons, List.length_nil, Nat.reduceSub, Nat.reduceAdd, Nat.zero_add, Nat.sub_self, List.replicate, List.cons_append, List.nil_append, List.append_nil, List.getElem?_cons_zero, List.getElem?_cons_succ, List.set_cons_zero, List.set_cons_succ, List.take_succ_cons, List.take_zero, List.drop_zero, List.drop_succ_cons, List.drop_nil, List.take_nil, gD, Option.some.injEq, exists_eq_left', List.lookup_cons, Nat.reduceBEq, List.mem_cons, List.mem_singleton, true_and, and_true, List.mem_nil_iff, or_false, List.not_mem_nil, jsD_len]
  exact hq
theorem sc_Growth_getitem : FnScope ["self", "at"] ["self", "at"] (defScope (cb 15 10)) := ⟨rfl, rfl, rfl, by decide +kernel, rfl, by decide +kernel, by decide +kernel⟩
theorem ok_Growth_getitem (fx : Fx K mg C Dd)  (F : FunD K "__getitem__" "Growth.__getitem__" (defArgs (cb 15 10)) (defBody (cb 15 10)) (defScope (cb 15 10)) [] [] fa fd) : FnOk P w K mg base (L2.CX P w) (0 + 1) fa fd ["self", "at"] (spOf C K 2 (df_Growth_getitem)) := by
  refine okD (k := 0) F sc_Growth_getitem (fun cdv A outer s H E hr tk => (ss_one (s_ret (e_ix (e_fld 2 fx.fn_2 fx.fo_2 (e_var 0)) (e_var 1))))) ?_
  intro ds μ Q R hl h
  obtain ⟨s, js, e, k, j, rfl, hj, hq⟩ := h
  simp only [dSeq, dNext, dRet, dRetN, dDrop, dBreak, dCont, dAsg, dIfS, dFor, dWhile, dAny, dItA, dVar, dC, dBin, dUn, dVal, dChain, dAnd, dOr, dNot, dAndV, dOrV, dIf, dTup, dLst, dLstO, dNil, dCons, dIxO, dNoP, dPart, dSl, dCB, dCall, dMeth, dProp, dFld, dMake, dSetF, dMt, dFz, dFzS, dTrim, dLend, dgName, dgTup, dgCons, dgSub, dgSlc, dLc, dLcO, dLcG, tYesD, dRaise, dTry, dXval, dXisi, dOwn1, dIxOwn, dOwnIt, dListG, dListO, dEnds, slots, fItems, fAdd, fI, fI0, fIx, fLen, fInt, fList, fTuple, fIsi, fRng1, fRng2, fEnumA, fNot, fNeg, fEq, fNe, fLt, fLe, fGt, fGe, fIs, fIsNot, fIn, fNotIn, fMul, eqG, inG, gLen, gAll, fApp, hush, gPlain, gYield, gThen, gNx, gFor, List.map_cons, List.map_nil, List.length_cons, List.length_nil, Nat.reduceSub, Nat.reduceAdd, Nat.zero_add, Nat.sub_self, List.replicate, List.cons_append, List.nil_append, List.append_nil, List.getElem?_cons_zero, List.getElem?_cons_succ, List.set_cons_zero, List.set_cons_succ, List.take_succ_cons, List.take_zero, List.drop_zero, List.drop_succ_cons, List.drop_nil, List.take_nil, gD, Option.some.injEq, exists_eq_left', List.lookup_cons, Nat.reduceBEq, List.mem_cons, List.mem_singleton, true_and, and_true, List.mem_nil_iff, or_false, List.not_mem_nil]
  exact ⟨_, atI_jsD hj, hq⟩
theorem sc_Growth_abs : FnScope ["self"] ["self"] (defScope (cb 15 15)) := ⟨rfl, rfl, rfl, by decide +kernel, rfl, by decide +kernel, by decide +kernel⟩
theorem ok_Growth_abs (fx : Fx K mg C Dd)  (F : FunD K "__abs__" "Growth.__abs__" (defArgs (cb 15 15)) (defBody (cb 15 15)) (defScope (cb 15 15)) [] [] fa fd) : FnOk P w K mg base (L2.CX P w) (0 + 1) fa fd ["self"] (spOf C K 1 (df_Growth_abs)) := by
  refine okD (k := 0) F sc_Growth_abs (fun cdv A outer s H E hr tk => (ss_one (s_ret (e_op o_sub (e_bi c_len fx.len (by decide +kernel) (a_cons (e_fld 3 fx.fn_3 fx.fo_3 (e_var 0)) a_nil)) (e_bi c_len fx.len (by decide +kernel) (a_cons (e_fld 1 fx.fn_1 fx.fo_1 (e_var 0)) a_nil)))))) ?_
  intro ds μ Q R hl h
  obtain ⟨s, js, e, rfl, hq⟩ := h
  simp only [dSeq, dNext, dRet, dRetN, dDrop, dBreak, dCont, dAsg, dIfS, dFor, dWhile, dAny, dItA, dVar, dC, dBin, dUn, dVal, dChain, dAnd, dOr, dNot, dAndV, dOrV, dIf, dTup, dLst, dLstO, dNil, dCons, dIxO, dNoP, dPart, dSl, dCB, dCall, dMeth, dProp, dFld, dMake, dSetF, dMt, dFz, dFzS, dTrim, dLend, dgName, dgTup, dgCons, dgSub, dgSlc, dLc, dLcO, dLcG, tYesD, dRaise, dTry, dXval, dXisi, dOwn1, dIxOwn, dOwnIt, dListG, dListO, dEnds, slots, fItems, fAdd, fI, fI0, fIx, fLen, fInt, fList, fTuple, fIsi, fRng1, fRng2, fEnumA, fNot, fNeg, fEq, fNe, fLt, fLe, fGt, fGe, fIs, fIsNot, fIn, fNotIn, fMul, eqG, inG, gLen, gAll, fApp, hush, gPlain, gYield, gThen, gNx, gFor, List.map_cons, List.map_nil, List.length_cons, List.length_nil, Nat.reduceSub, Nat.reduceAdd, Nat.zero_add, Nat.sub_self, List.replicate, List.cons_append, List.nil_append, List.append_nil, List.getElem?_cons_zero, List.getElem?_cons_succ, List.set_cons_zero, List.set_cons_succ, List.take_succ_cons, List.take_zero, List.drop_zero, List.drop_succ_cons, List.drop_nil, List.take_nil, gD, Option.some.injEq, exists_eq_left', List.lookup_cons, Nat.reduceBEq, List.mem_cons, List.mem_singleton, true_and, and_true, List.mem_nil_iff, or_false, List.not_mem_nil, jsD_len]
  exact hq
theorem sc_law_new : FnScope ["script"] ["script"] (defScope (top 17)) := ⟨rfl, rfl, rfl, by decide +kernel, rfl, by decide +kernel, by decide +kernel⟩
theorem ok_law_new (fx : Fx K mg C Dd)  (F : FunD K "_law_new" "_law_new" (defArgs (top 17)) (defBody (top 17)) (defScope (top 17)) [] [] fa fd) : FnOk P w K mg base (L2.CX P w) (0 + 1) fa fd ["script"] (spOf C K 1 (df_law_new)) := by
  refine okD (k := 0) F sc_law_new (fun cdv A outer s H E hr tk => (ss_one (s_ret (e_lstO (a_cons (e_bt c_list fx.list (by decide +kernel) (a_cons (e_var 0) a_nil)) (a_cons e_int (a_cons e_int (a_cons e_int (a_cons e_int a_nil))))))))) ?_
  intro ds μ Q R hl h
  obtain ⟨cells, rfl, hq⟩ := h
  simp only [dSeq, dNext, dRet, dRetN, dDrop, dBreak, dCont, dAsg, dIfS, dFor, dWhile, dAny, dItA, dVar, dC, dBin, dUn, dVal, dChain, dAnd, dOr, dNot, dAndV, dOrV, dIf, dTup, dLst, dLstO, dNil, dCons, dIxO, dNoP, dPart, dSl, dCB, dCall, dMeth, dProp, dFld, dMake, dSetF, dMt, dFz, dFzS, dTrim, dLend, dgName, dgTup, dgCons, dgSub, dgSlc, dLc, dLcO, dLcG, tYesD, dRaise, dTry, dXval, dXisi, dOwn1, dIxOwn, dOwnIt, dListG, dListO, dEnds, slots, fItems, fAdd, fI, fI0, fIx, fLen, fInt, fList, fTuple, fIsi, fRng1, fRng2, fEnumA, fNot, fNeg, fEq, fNe, fLt, fLe, fGt, fGe, fIs, fIsNot, fIn, fNotIn, fMul, eqG, inG, gLen, gAll, fApp, hush, gPlain, gYield, gThen, gNx, gFor, List.map_cons, List.map_nil, List.length_cons, List.length_nil, Nat.reduceSub, Nat.reduceAdd, Nat.zero_add, Nat.sub_self, List.replicate, List.cons_append, List.nil_append, List.append_nil, List.getElem?_cons_zero, List.getElem?_cons_succ, List.set_cons_zero, List.set_cons_succ, List.take_succ_cons, List.take_zero, List.drop_zero, List.drop_succ_cons, List.drop_nil, List.take_nil, gD, Option.some.injEq, exists_eq_left', List.lookup_cons, Nat.reduceBEq, List.mem_cons, List.mem_singleton, true_and, and_true, List.mem_nil_iff, or_false, List.not_mem_nil]
  exact ⟨by omega, hq⟩
theorem sc_law_draw : FnScope ["state", "many", "cell", "digit"] ["state", "many"] (defScope (top 18)) := ⟨rfl, rfl, rfl, by decide +kernel, rfl, by decide +kernel, by decide +kernel⟩
theorem ok_law_draw (fx : Fx K mg C Dd)  (F : FunD K "_law_draw" "_law_draw" (defArgs (top 18)) (defBody (top 18)) (defScope (top 18)) [] [] fa fd) : FnOk P w K mg base (L2.CX P w) (0 + 1) fa fd ["state", "many"] (spOf C K 2 (df_law_draw)) := by
  refine okD (k := 0) F sc_law_draw (fun cdv A outer s H E hr tk => (ss_cons (s_if (DPW.t (w_and (t_cmp (o_eq (un64 hr)) (e_ixO 0 (e_var 0) e_int) e_int) (w_and1 (t_cmp o_lt (e_ixO 0 (e_var 0) e_int) (e_bi c_len fx.len (by decide +kernel) (a_cons (e_ixO 0 (e_var 0) e_int) a_nil)))))) (ss_cons (s_set 2 sc_law_draw.nd (e_ix (e_ixO 0 (e_var 0) e_int) (e_ixO 0 (e_var 0) e_int))) (ss_cons (s_asg (e_bt c_int fx.int (by decide +kernel) (a_cons (e_cmp o_ge (e_var 2) (e_op o_pow e_int e_int)) a_nil)) (g_sub (W := noW) 0 (e_var 0) e_int)) (ss_cons (s_asg e_int (g_sub (W := noW) 0 (e_var 0) e_int)) (ss_cons (s_asg (e_op o_mod (e_bt c_int fx.int (by decide +kernel) (a_cons (e_op o_add (e_op o_mul (e_var 2) e_int) (e_op o_mul e_int (e_ixO 0 (e_var 0) e_int))) a_nil)) e_int) (g_sub (W := noW) 0 (e_var 0) e_int)) (ss_cons (s_if (t_cmp (o_eq (un64 hr)) (e_ixO 0 (e_var 0) e_int) e_int) (ss_cons (s_asg e_int (g_sub (W := noW) 0 (e_var 0) e_int)) (ss_one (s_asg (e_op o_sub (e_var 2) (e_op o_pow e_int e_int)) (g_sub (W := noW) 0 (e_var 0) e_int)))) ss_nil) (ss_one (s_asg (e_op o_add (e_ixO 0 (e_var 0) e_int) e_int) (g_sub (W := noW) 0 (e_var 0) e_int)))))))) ss_nil) (ss_cons (s_if (t_cmp (o_eq (un64 hr)) (e_ixO 0 (e_var 0) e_int) e_int) (ss_one (s_ret e_int)) ss_nil) (ss_cons (s_asg (e_op o_sub (e_ixO 0 (e_var 0) e_int) e_int) (g_sub (W := noW) 0 (e_var 0) e_int)) (ss_cons (s_if (t_cmp (o_eq (un64 hr)) (e_ixO 0 (e_var 0) e_int) e_int) (ss_cons (s_set 3 sc_law_draw.nd (e_op o_mod (e_bt c_int fx.int (by decide +kernel) (a_cons (e_ixO 0 (e_var 0) e_int) a_nil)) (e_var 1))) (ss_cons (s_asg (e_op o_fdiv (e_ixO 0 (e_var 0) e_int) (e_var 1)) (g_sub (W := noW) 0 (e_var 0) e_int)) (ss_cons (s_if (t_cmp (o_eq (un64 hr)) (e_ixO 0 (e_var 0) e_int) e_int) (ss_one (s_asg e_int (g_sub (W := noW) 0 (e_var 0) e_int))) ss_nil) (ss_one (s_ret (e_var 3)))))) ss_nil) (ss_cons (s_asg (e_op o_mod (e_bt c_int fx.int (by decide +kernel) (a_cons (e_op o_mul (e_ixO 0 (e_var 0) e_int) e_int) a_nil)) e_int) (g_sub (W := noW) 0 (e_var 0) e_int)) (ss_one (s_ret (e_op o_mod (e_bt c_int fx.int (by decide +kernel) (a_cons (e_op o_fdiv (e_ixO 0 (e_var 0) e_int) e_int) a_nil)) (e_var 1)))))))))) ?_
  intro ds μ Q R hl h
  obtain ⟨p, cells, i, a, b, c, m, rfl, rfl, hm, hb, hq⟩ := h
  have c18 : CPow 10 18 := ⟨by decide, by decide, by decide⟩
  have e18 : (10 : Int) ^ (18 : Int).toNat = 1000000000000000000 := by decide
  have cm1 : ∀ j, CMulW 1009 j ∨ CMul 1009 j := fun j => .inr (.inl ⟨by decide, by decide⟩)
  have cm2 : ∀ j, CMulW j 69621 ∨ CMul j 69621 := fun j => .inr (.inr ⟨by decide, by decide⟩)
  have cm3 : ∀ j, CMulW j 48271 ∨ CMul j 48271 := fun j => .inr (.inr ⟨by decide, by decide⟩)
  have cd1 : ∀ j, CDivW j m := fun j => ⟨hm, hb⟩
  have cd2 : ∀ j, CDivW j 8 := fun j => ⟨by decide, by decide +kernel⟩
  have n0 : ∀ x : Int, 0 ≤ x % m := fun x => Int.emod_nonneg _ (by omega)
  have n1 : ∀ x : Int, x % m < m := fun x => Int.emod_lt_of_pos _ hm
  simp only [stD, List.map_cons, List.map_nil, List.length_cons, List.length_nil, Nat.reduceSub, Nat.reduceAdd, Nat.zero_add, Nat.sub_self, List.replicate, List.cons_append, List.nil_append, List.append_nil, List.set_cons_zero, List.set_cons_succ, List.take_succ_cons, List.take_zero, List.drop_zero, List.drop_succ_cons, List.drop_nil, List.take_nil, Nat.reduceLeDiff, ↓DL.z_var0, ↓DL.z_varS, ↓DL.z_name0, ↓DL.z_nameS, ↓DL.z_c, ↓DL.z_seq, ↓DL.z_next, ↓DL.z_if, ↓DL.z_asg, ↓DL.z_ret, ↓DL.z_drop, ↓DL.z_val, ↓DL.z_bl, ↓DL.z_and, ↓DL.z_or, ↓DL.z_not, ↓DL.z_bin, ↓DL.z_cb, ↓DL.z_nil, ↓DL.z_cons, ↓DL.z_i0, ↓DL.z_i, ↓DL.z_mul, ↓DL.z_add, ↓DL.z_lt, ↓DL.z_le, ↓DL.z_gt, ↓DL.z_ge, ↓DL.z_eq, ↓DL.z_ne, ↓DL.z_len, ↓DL.z_lens, ↓DL.z_int, ↓DL.z_intb, ↓DL.z_ixO, ↓DL.z_ix0, ↓DL.z_ix1, ↓DL.z_ix2, ↓DL.z_ix3, ↓DL.z_ix4, ↓DL.z_gsub, ↓DL.z_sub1, ↓DL.z_sub2, ↓DL.z_sub3, ↓DL.z_sub4, ↓DL.z_for, ↓DL.z_itA, ↓DL.z_any, ↓DL.z_itl, ↓DL.z_itt, ↓DL.z_its, ↓DL.z_lcg, ↓DL.z_yes, ↓DL.z_ifx, ↓DL.z_tup, ↓DL.z_lst, ↓DL.z_lstO, ↓DL.z_nop, ↓DL.z_part, ↓DL.z_pa, ↓DL.z_slx, ↓DL.z_sll, ↓DL.z_slt, ↓DL.z_sls, ↓DL.z_chain, ↓DL.z_ch, ↓DL.z_andv, ↓DL.z_orv, ↓DL.z_fnot, ↓DL.z_un, ↓DL.z_neg, ↓DL.z_call, ↓DL.z_prop, ↓DL.z_meth, ↓DL.z_make, ↓DL.z_obj, ↓DL.z_fl, ↓DL.z_flt, ↓DL.z_flf, ↓DL.z_ft, ↓DL.z_ftt, ↓DL.z_lent, ↓DL.z_adds, ↓DL.z_addl, ↓DL.z_addt, ↓DL.z_eqs, ↓DL.z_nes, ↓DL.z_eqb, ↓DL.z_eqn, ↓DL.z_eql, ↓DL.z_nel, ↓DL.z_isn, ↓DL.z_isnn, ↓DL.z_ins, ↓DL.z_nins, ↓DL.z_ixt, ↓DL.z_l0, ↓DL.z_l1, ↓DL.z_l2, ↓DL.z_rng, ↓DL.z_enl, ↓DL.z_ent, ↓DL.z_gtup, ↓DL.z_gcons, ↓DL.z_gnil, ↓DL.z_wipe0, ↓DL.z_wipe, ↓DL.z_mt, ↓DL.z_ty0, ↓DL.z_ty1, ↓DL.z_app0, ↓DL.z_app1, ↓DL.z_raise, ↓DL.z_ra, ↓DL.z_is_i_bool, ↓DL.z_is_i_int, ↓DL.z_is_i_str, ↓DL.z_is_i_tuple, ↓DL.z_is_i_list, ↓DL.z_is_b_bool, ↓DL.z_is_b_int, ↓DL.z_is_b_str, ↓DL.z_is_b_tuple, ↓DL.z_is_b_list, ↓DL.z_is_s_bool, ↓DL.z_is_s_int, ↓DL.z_is_s_str, ↓DL.z_is_s_tuple, ↓DL.z_is_s_list, ↓DL.z_is_l_bool, ↓DL.z_is_l_int, ↓DL.z_is_l_str, ↓DL.z_is_l_tuple, ↓DL.z_is_l_list, ↓DL.z_is_t_bool, ↓DL.z_is_t_int, ↓DL.z_is_t_str, ↓DL.z_is_t_tuple, ↓DL.z_is_t_list, ↓DL.z_is_n_bool, ↓DL.z_is_n_int, ↓DL.z_is_n_str, ↓DL.z_is_n_tuple, ↓DL.z_is_n_list, ↓DL.z_gslc, ↓DL.z_sc0, ↓DL.z_listO, ↓DL.z_lol, ↓DL.z_lot, ↓DL.z_fsum, ↓DL.z_own1, ↓DL.z_glen, ↓DL.z_gall, ↓DL.z_ixown, ↓DL.z_listG, ↓DL.z_ownit, ↓DL.z_fld, ↓DL.z_fz, ↓DL.z_fzs, ↓DL.z_xisi, ↓DL.z_xi, ↓DL.z_xval, ↓DL.z_xv, ↓DL.z_ixm, ↓DL.z_lm, ↓dTrim, ↓dLc, ↓dLcO, ↓dEnds, ↓z_gd1, ↓z_gd2, ↓z_gd3, ↓z_gdi, ↓z_gdo, slots, ↓reduceIte, decide_eq_true_eq, Bool.false_eq_true, Bool.not_true, Bool.not_false, decide_true, decide_false, Int.reduceEq, Int.reduceSub, Int.reduceAdd, Int.reduceLT, Int.reduceNeg, and_self, true_and, and_true]
  by_cases hc : b = 0
  · by_cases hi : (i : Int) < cells.length
    · subst hc
      obtain ⟨v, hv⟩ := ge_ (l := cells) (k := i) (by omega)
      have hx : ∀ F, fIx (.lst (cells.map D.int)) (.int i) F = F (.int v) := fun F => by
        simp only [fIx, DL.atI_nat (show (cells.map D.int)[i]? = some (.int v) by simp [hv]), Option.some.injEq, exists_eq_left']
      by_cases hw : 1000000000000000000 ≤ v
      all_goals
        simp only [List.map_cons, List.map_nil, List.length_cons, List.length_nil, Nat.reduceSub, Nat.reduceAdd, Nat.zero_add, Nat.sub_self, List.replicate, List.cons_append, List.nil_append, List.append_nil, List.set_cons_zero, List.set_cons_succ, List.take_succ_cons, List.take_zero, List.drop_zero, List.drop_succ_cons, List.drop_nil, List.take_nil, Nat.reduceLeDiff, ↓DL.z_var0, ↓DL.z_varS, ↓DL.z_name0, ↓DL.z_nameS, ↓DL.z_c, ↓DL.z_seq, ↓DL.z_next, ↓DL.z_if, ↓DL.z_asg, ↓DL.z_ret, ↓DL.z_drop, ↓DL.z_val, ↓DL.z_bl, ↓DL.z_and, ↓DL.z_or, ↓DL.z_not, ↓DL.z_bin, ↓DL.z_cb, ↓DL.z_nil, ↓DL.z_cons, ↓DL.z_i0, ↓DL.z_i, ↓DL.z_mul, ↓DL.z_add, ↓DL.z_lt, ↓DL.z_le, ↓DL.z_gt, ↓DL.z_ge, ↓DL.z_eq, ↓DL.z_ne, ↓DL.z_len, ↓DL.z_lens, ↓DL.z_int, ↓DL.z_intb, ↓DL.z_ixO, ↓DL.z_ix0, ↓DL.z_ix1, ↓DL.z_ix2, ↓DL.z_ix3, ↓DL.z_ix4, ↓DL.z_gsub, ↓DL.z_sub1, ↓DL.z_sub2, ↓DL.z_sub3, ↓DL.z_sub4, ↓DL.z_for, ↓DL.z_itA, ↓DL.z_any, ↓DL.z_itl, ↓DL.z_itt, ↓DL.z_its, ↓DL.z_lcg, ↓DL.z_yes, ↓DL.z_ifx, ↓DL.z_tup, ↓DL.z_lst, ↓DL.z_lstO, ↓DL.z_nop, ↓DL.z_part, ↓DL.z_pa, ↓DL.z_slx, ↓DL.z_sll, ↓DL.z_slt, ↓DL.z_sls, ↓DL.z_chain, ↓DL.z_ch, ↓DL.z_andv, ↓DL.z_orv, ↓DL.z_fnot, ↓DL.z_un, ↓DL.z_neg, ↓DL.z_call, ↓DL.z_prop, ↓DL.z_meth, ↓DL.z_make, ↓DL.z_obj, ↓DL.z_fl, ↓DL.z_flt, ↓DL.z_flf, ↓DL.z_ft, ↓DL.z_ftt, ↓DL.z_lent, ↓DL.z_adds, ↓DL.z_addl, ↓DL.z_addt, ↓DL.z_eqs, ↓DL.z_nes, ↓DL.z_eqb, ↓DL.z_eqn, ↓DL.z_eql, ↓DL.z_nel, ↓DL.z_isn, ↓DL.z_isnn, ↓DL.z_ins, ↓DL.z_nins, ↓DL.z_ixt, ↓DL.z_l0, ↓DL.z_l1, ↓DL.z_l2, ↓DL.z_rng, ↓DL.z_enl, ↓DL.z_ent, ↓DL.z_gtup, ↓DL.z_gcons, ↓DL.z_gnil, ↓DL.z_wipe0, ↓DL.z_wipe, ↓DL.z_mt, ↓DL.z_ty0, ↓DL.z_ty1, ↓DL.z_app0, ↓DL.z_app1, ↓DL.z_raise, ↓DL.z_ra, ↓DL.z_is_i_bool, ↓DL.z_is_i_int, ↓DL.z_is_i_str, ↓DL.z_is_i_tuple, ↓DL.z_is_i_list, ↓DL.z_is_b_bool, ↓DL.z_is_b_int, ↓DL.z_is_b_str, ↓DL.z_is_b_tuple, ↓DL.z_is_b_list, ↓DL.z_is_s_bool, ↓DL.z_is_s_int, ↓DL.z_is_s_str, ↓DL.z_is_s_tuple, ↓DL.z_is_s_list, ↓DL.z_is_l_bool, ↓DL.z_is_l_int, ↓DL.z_is_l_str, ↓DL.z_is_l_tuple, ↓DL.z_is_l_list, ↓DL.z_is_t_bool, ↓DL.z_is_t_int, ↓DL.z_is_t_str, ↓DL.z_is_t_tuple, ↓DL.z_is_t_list, ↓DL.z_is_n_bool, ↓DL.z_is_n_int, ↓DL.z_is_n_str, ↓DL.z_is_n_tuple, ↓DL.z_is_n_list, ↓DL.z_gslc, ↓DL.z_sc0, ↓DL.z_listO, ↓DL.z_lol, ↓DL.z_lot, ↓DL.z_fsum, ↓DL.z_own1, ↓DL.z_glen, ↓DL.z_gall, ↓DL.z_ixown, ↓DL.z_listG, ↓DL.z_ownit, ↓DL.z_fld, ↓DL.z_fz, ↓DL.z_fzs, ↓DL.z_xisi, ↓DL.z_xi, ↓DL.z_xval, ↓DL.z_xv, ↓DL.z_ixm, ↓DL.z_lm, ↓dTrim, ↓dLc, ↓dLcO, ↓dEnds, ↓z_gd1, ↓z_gd2, ↓z_gd3, ↓z_gdi, ↓z_gdo, slots, ↓reduceIte, decide_eq_true_eq, Bool.false_eq_true, Bool.not_true, Bool.not_false, decide_true, decide_false, Int.reduceEq, Int.reduceSub, Int.reduceAdd, Int.reduceLT, Int.reduceNeg, and_self, true_and, and_true, hi, List.length_map, ↓hx, c18, e18, cm1, cm2, cm3, cd1, cd2, hw, hm]
      · split <;> exact hq _ (i + 1) _ _ _ (n0 _) (n1 _)
      · exact hq _ (i + 1) _ _ _ (n0 _) (n1 _)
    · subst hc
      simp only [List.map_cons, List.map_nil, List.length_cons, List.length_nil, Nat.reduceSub, Nat.reduceAdd, Nat.zero_add, Nat.sub_self, List.replicate, List.cons_append, List.nil_append, List.append_nil, List.set_cons_zero, List.set_cons_succ, List.take_succ_cons, List.take_zero, List.drop_zero, List.drop_succ_cons, List.drop_nil, List.take_nil, Nat.reduceLeDiff, ↓DL.z_var0, ↓DL.z_varS, ↓DL.z_name0, ↓DL.z_nameS, ↓DL.z_c, ↓DL.z_seq, ↓DL.z_next, ↓DL.z_if, ↓DL.z_asg, ↓DL.z_ret, ↓DL.z_drop, ↓DL.z_val, ↓DL.z_bl, ↓DL.z_and, ↓DL.z_or, ↓DL.z_not, ↓DL.z_bin, ↓DL.z_cb, ↓DL.z_nil, ↓DL.z_cons, ↓DL.z_i0, ↓DL.z_i, ↓DL.z_mul, ↓DL.z_add, ↓DL.z_lt, ↓DL.z_le, ↓DL.z_gt, ↓DL.z_ge, ↓DL.z_eq, ↓DL.z_ne, ↓DL.z_len, ↓DL.z_lens, ↓DL.z_int, ↓DL.z_intb, ↓DL.z_ixO, ↓DL.z_ix0, ↓DL.z_ix1, ↓DL.z_ix2, ↓DL.z_ix3, ↓DL.z_ix4, ↓DL.z_gsub, ↓DL.z_sub1, ↓DL.z_sub2, ↓DL.z_sub3, ↓DL.z_sub4, ↓DL.z_for, ↓DL.z_itA, ↓DL.z_any, ↓DL.z_itl, ↓DL.z_itt, ↓DL.z_its, ↓DL.z_lcg, ↓DL.z_yes, ↓DL.z_ifx, ↓DL.z_tup, ↓DL.z_lst, ↓DL.z_lstO, ↓DL.z_nop, ↓DL.z_part, ↓DL.z_pa, ↓DL.z_slx, ↓DL.z_sll, ↓DL.z_slt, ↓DL.z_sls, ↓DL.z_chain, ↓DL.z_ch, ↓DL.z_andv, ↓DL.z_orv, ↓DL.z_fnot, ↓DL.z_un, ↓DL.z_neg, ↓DL.z_call, ↓DL.z_prop, ↓DL.z_meth, ↓DL.z_make, ↓DL.z_obj, ↓DL.z_fl, ↓DL.z_flt, ↓DL.z_flf, ↓DL.z_ft, ↓DL.z_ftt, ↓DL.z_lent, ↓DL.z_adds, ↓DL.z_addl, ↓DL.z_addt, ↓DL.z_eqs, ↓DL.z_nes, ↓DL.z_eqb, ↓DL.z_eqn, ↓DL.z_eql, ↓DL.z_nel, ↓DL.z_isn, ↓DL.z_isnn, ↓DL.z_ins, ↓DL.z_nins, ↓DL.z_ixt, ↓DL.z_l0, ↓DL.z_l1, ↓DL.z_l2, ↓DL.z_rng, ↓DL.z_enl, ↓DL.z_ent, ↓DL.z_gtup, ↓DL.z_gcons, ↓DL.z_gnil, ↓DL.z_wipe0, ↓DL.z_wipe, ↓DL.z_mt, ↓DL.z_ty0, ↓DL.z_ty1, ↓DL.z_app0, ↓DL.z_app1, ↓DL.z_raise, ↓DL.z_ra, ↓DL.z_is_i_bool, ↓DL.z_is_i_int, ↓DL.z_is_i_str, ↓DL.z_is_i_tuple, ↓DL.z_is_i_list, ↓DL.z_is_b_bool, ↓DL.z_is_b_int, ↓DL.z_is_b_str, ↓DL.z_is_b_tuple, ↓DL.z_is_b_list, ↓DL.z_is_s_bool, ↓DL.z_is_s_int, ↓DL.z_is_s_str, ↓DL.z_is_s_tuple, ↓DL.z_is_s_list, ↓DL.z_is_l_bool, ↓DL.z_is_l_int, ↓DL.z_is_l_str, ↓DL.z_is_l_tuple, ↓DL.z_is_l_list, ↓DL.z_is_t_bool, ↓DL.z_is_t_int, ↓DL.z_is_t_str, ↓DL.z_is_t_tuple, ↓DL.z_is_t_list, ↓DL.z_is_n_bool, ↓DL.z_is_n_int, ↓DL.z_is_n_str, ↓DL.z_is_n_tuple, ↓DL.z_is_n_list, ↓DL.z_gslc, ↓DL.z_sc0, ↓DL.z_listO, ↓DL.z_lol, ↓DL.z_lot, ↓DL.z_fsum, ↓DL.z_own1, ↓DL.z_glen, ↓DL.z_gall, ↓DL.z_ixown, ↓DL.z_listG, ↓DL.z_ownit, ↓DL.z_fld, ↓DL.z_fz, ↓DL.z_fzs, ↓DL.z_xisi, ↓DL.z_xi, ↓DL.z_xval, ↓DL.z_xv, ↓DL.z_ixm, ↓DL.z_lm, ↓dTrim, ↓dLc, ↓dLcO, ↓dEnds, ↓z_gd1, ↓z_gd2, ↓z_gd3, ↓z_gdi, ↓z_gdo, slots, ↓reduceIte, decide_eq_true_eq, Bool.false_eq_true, Bool.not_true, Bool.not_false, decide_true, decide_false, Int.reduceEq, Int.reduceSub, Int.reduceAdd, Int.reduceLT, Int.reduceNeg, and_self, true_and, and_true, hi, List.length_map]
      exact hq _ _ _ _ _ (by omega) hm
  · by_cases hw : c = 1
    all_goals
      simp only [List.map_cons, List.map_nil, List.length_cons, List.length_nil, Nat.reduceSub, Nat.reduceAdd, Nat.zero_add, Nat.sub_self, List.replicate, List.cons_append, List.nil_append, List.append_nil, List.set_cons_zero, List.set_cons_succ, List.take_succ_cons, List.take_zero, List.drop_zero, List.drop_succ_cons, List.drop_nil, List.take_nil, Nat.reduceLeDiff, ↓DL.z_var0, ↓DL.z_varS, ↓DL.z_name0, ↓DL.z_nameS, ↓DL.z_c, ↓DL.z_seq, ↓DL.z_next, ↓DL.z_if, ↓DL.z_asg, ↓DL.z_ret, ↓DL.z_drop, ↓DL.z_val, ↓DL.z_bl, ↓DL.z_and, ↓DL.z_or, ↓DL.z_not, ↓DL.z_bin, ↓DL.z_cb, ↓DL.z_nil, ↓DL.z_cons, ↓DL.z_i0, ↓DL.z_i, ↓DL.z_mul, ↓DL.z_add, ↓DL.z_lt, ↓DL.z_le, ↓DL.z_gt, ↓DL.z_ge, ↓DL.z_eq, ↓DL.z_ne, ↓DL.z_len, ↓DL.z_lens, ↓DL.z_int, ↓DL.z_intb, ↓DL.z_ixO, ↓DL.z_ix0, ↓DL.z_ix1, ↓DL.z_ix2, ↓DL.z_ix3, ↓DL.z_ix4, ↓DL.z_gsub, ↓DL.z_sub1, ↓DL.z_sub2, ↓DL.z_sub3, ↓DL.z_sub4, ↓DL.z_for, ↓DL.z_itA, ↓DL.z_any, ↓DL.z_itl, ↓DL.z_itt, ↓DL.z_its, ↓DL.z_lcg, ↓DL.z_yes, ↓DL.z_ifx, ↓DL.z_tup, ↓DL.z_lst, ↓DL.z_lstO, ↓DL.z_nop, ↓DL.z_part, ↓DL.z_pa, ↓DL.z_slx, ↓DL.z_sll, ↓DL.z_slt, ↓DL.z_sls, ↓DL.z_chain, ↓DL.z_ch, ↓DL.z_andv, ↓DL.z_orv, ↓DL.z_fnot, ↓DL.z_un, ↓DL.z_neg, ↓DL.z_call, ↓DL.z_prop, ↓DL.z_meth, ↓DL.z_make, ↓DL.z_obj, ↓DL.z_fl, ↓DL.z_flt, ↓DL.z_flf, ↓DL.z_ft, ↓DL.z_ftt, ↓DL.z_lent, ↓DL.z_adds, ↓DL.z_addl, ↓DL.z_addt, ↓DL.z_eqs, ↓DL.z_nes, ↓DL.z_eqb, ↓DL.z_eqn, ↓DL.z_eql, ↓DL.z_nel, ↓DL.z_isn, ↓DL.z_isnn, ↓DL.z_ins, ↓DL.z_nins, ↓DL.z_ixt, ↓DL.z_l0, ↓DL.z_l1, ↓DL.z_l2, ↓DL.z_rng, ↓DL.z_enl, ↓DL.z_ent, ↓DL.z_gtup, ↓DL.z_gcons, ↓DL.z_gnil, ↓DL.z_wipe0, ↓DL.z_wipe, ↓DL.z_mt, ↓DL.z_ty0, ↓DL.z_ty1, ↓DL.z_app0, ↓DL.z_app1, ↓DL.z_raise, ↓DL.z_ra, ↓DL.z_is_i_bool, ↓DL.z_is_i_int, ↓DL.z_is_i_str, ↓DL.z_is_i_tuple, ↓DL.z_is_i_list, ↓DL.z_is_b_bool, ↓DL.z_is_b_int, ↓DL.z_is_b_str, ↓DL.z_is_b_tuple, ↓DL.z_is_b_list, ↓DL.z_is_s_bool, ↓DL.z_is_s_int, ↓DL.z_is_s_str, ↓DL.z_is_s_tuple, ↓DL.z_is_s_list, ↓DL.z_is_l_bool, ↓DL.z_is_l_int, ↓DL.z_is_l_str, ↓DL.z_is_l_tuple, ↓DL.z_is_l_list, ↓DL.z_is_t_bool, ↓DL.z_is_t_int, ↓DL.z_is_t_str, ↓DL.z_is_t_tuple, ↓DL.z_is_t_list, ↓DL.z_is_n_bool, ↓DL.z_is_n_int, ↓DL.z_is_n_str, ↓DL.z_is_n_tuple, ↓DL.z_is_n_list, ↓DL.z_gslc, ↓DL.z_sc0, ↓DL.z_listO, ↓DL.z_lol, ↓DL.z_lot, ↓DL.z_fsum, ↓DL.z_own1, ↓DL.z_glen, ↓DL.z_gall, ↓DL.z_ixown, ↓DL.z_listG, ↓DL.z_ownit, ↓DL.z_fld, ↓DL.z_fz, ↓DL.z_fzs, ↓DL.z_xisi, ↓DL.z_xi, ↓DL.z_xval, ↓DL.z_xv, ↓DL.z_ixm, ↓DL.z_lm, ↓dTrim, ↓dLc, ↓dLcO, ↓dEnds, ↓z_gd1, ↓z_gd2, ↓z_gd3, ↓z_gdi, ↓z_gdo, slots, ↓reduceIte, decide_eq_true_eq, Bool.false_eq_true, Bool.not_true, Bool.not_false, decide_true, decide_false, Int.reduceEq, Int.reduceSub, Int.reduceAdd, Int.reduceLT, Int.reduceNeg, and_self, true_and, and_true, hc, hw, cm3, cd1, cd2, hm]
    · split <;> exact hq _ _ _ _ _ (n0 _) (n1 _)
    · exact hq _ _ _ _ _ (n0 _) (n1 _)
theorem sc_law_same : FnScope ["actual", "due", "k"] ["actual", "due"] (defScope (top 19)) := ⟨rfl, rfl, rfl, by decide +kernel, rfl, by decide +kernel, by decide +kernel⟩
theorem ok_law_same {k n : Nat} (fx : Fx K mg C Dd) (h_law_same : FDa P w K mg base C "_law_same" k 2 [] (df_law_same n)) (F : FunD K "_law_same" "_law_same" (defArgs (top 19)) (defBody (top 19)) (defScope (top 19)) [] [] fa fd) : FnOk P w K mg base (L2.CX P w) (k + 1) fa fd ["actual", "due"] (spOf C K 2 (df_law_same (n + 1))) := by
  refine okD (k := k) F sc_law_same (fun cdv A outer s H E hr tk => (ss_cons (s_if (t_cmp o_is (e_var 1) e_non) (ss_one (s_ret (e_cmp o_is (e_var 0) e_non))) ss_nil) (ss_cons (s_if (t_val (e_bi c_isi fx.isinstance (by decide +kernel) (a_cons (e_var 1) (a_cons (e_ty "bool" fx.bool (by decide +kernel)) a_nil)))) (ss_one (s_ret (e_and (e_bi c_isi fx.isinstance (by decide +kernel) (a_cons (e_var 0) (a_cons (e_ty "bool" fx.bool (by decide +kernel)) a_nil))) (e_one (e_cmp (o_eq (un64 hr)) (e_var 0) (e_var 1)))))) ss_nil) (ss_cons (s_if (t_val (e_bi c_isi fx.isinstance (by decide +kernel) (a_cons (e_var 1) (a_cons (e_ty "int" fx.int (by decide +kernel)) a_nil)))) (ss_one (s_ret (e_and (e_bi c_isi fx.isinstance (by decide +kernel) (a_cons (e_var 0) (a_cons (e_ty "int" fx.int (by decide +kernel)) a_nil))) (e_and (e_not (e_bi c_isi fx.isinstance (by decide +kernel) (a_cons (e_var 0) (a_cons (e_ty "bool" fx.bool (by decide +kernel)) a_nil)))) (e_one (e_cmp (o_eq (un64 hr)) (e_var 0) (e_var 1))))))) ss_nil) (ss_cons (s_if (t_val (e_bi c_isi fx.isinstance (by decide +kernel) (a_cons (e_var 1) (a_cons (e_ty "str" fx.str (by decide +kernel)) a_nil)))) (ss_one (s_ret (e_and (e_bi c_isi fx.isinstance (by decide +kernel) (a_cons (e_var 0) (a_cons (e_ty "str" fx.str (by decide +kernel)) a_nil))) (e_one (e_cmp (o_eq (un64 hr)) (e_var 0) (e_var 1)))))) ss_nil) (ss_cons (s_if (DPW.t (w_and (t_val (e_bi c_isi fx.isinstance (by decide +kernel) (a_cons (e_var 1) (a_cons (e_ty "tuple" fx.tuple (by decide +kernel)) a_nil)))) (w_and1 (t_not (t_val (e_bi c_isi fx.isinstance (by decide +kernel) (a_cons (e_var 0) (a_cons (e_ty "tuple" fx.tuple (by decide +kernel)) a_nil)))))))) (ss_one (s_ret e_bl)) ss_nil) (ss_cons (s_if (DPW.t (w_and (t_val (e_bi c_isi fx.isinstance (by decide +kernel) (a_cons (e_var 1) (a_cons (e_ty "list" fx.list (by decide +kernel)) a_nil)))) (w_and1 (t_not (t_val (e_bi c_isi fx.isinstance (by decide +kernel) (a_cons (e_var 0) (a_cons (e_ty "list" fx.list (by decide +kernel)) a_nil)))))))) (ss_one (s_ret e_bl)) ss_nil) (ss_cons (s_if (t_cmp (o_ne (un64 hr)) (e_bi c_len fx.len (by decide +kernel) (a_cons (e_var 0) a_nil)) (e_bi c_len fx.len (by decide +kernel) (a_cons (e_var 1) a_nil))) (ss_one (s_ret e_bl)) ss_nil) (ss_cons (s_for PassesOwn.leaving rfl (i_rng1 fx.range (a_cons (e_bi c_len fx.len (by decide +kernel) (a_cons (e_var 1) a_nil)) a_nil)) (g_name 2 sc_law_same.nd) (ss_one (s_if (t_not (t_val (e_call 0 h_law_same (hr.mono (Nat.le_refl _)) tk (a_cons (e_ix (e_var 0) (e_var 2)) (a_cons (e_ix (e_var 1) (e_var 2)) a_nil))))) (ss_one (s_ret e_bl)) ss_nil))) (ss_one (s_ret e_bl))))))))))) ?_
  intro ds μ Q R hl h
  obtain ⟨x, rfl, hx, hq⟩ := h
  cases x
  case non => simp only [List.map_cons, List.map_nil, List.length_cons, List.length_nil, Nat.reduceSub, Nat.reduceAdd, Nat.zero_add, Nat.sub_self, List.replicate, List.cons_append, List.nil_append, List.append_nil, List.set_cons_zero, List.set_cons_succ, List.take_succ_cons, List.take_zero, List.drop_zero, List.drop_succ_cons, List.drop_nil, List.take_nil, Nat.reduceLeDiff, ↓DL.z_var0, ↓DL.z_varS, ↓DL.z_name0, ↓DL.z_nameS, ↓DL.z_c, ↓DL.z_seq, ↓DL.z_next, ↓DL.z_if, ↓DL.z_asg, ↓DL.z_ret, ↓DL.z_drop, ↓DL.z_val, ↓DL.z_bl, ↓DL.z_and, ↓DL.z_or, ↓DL.z_not, ↓DL.z_bin, ↓DL.z_cb, ↓DL.z_nil, ↓DL.z_cons, ↓DL.z_i0, ↓DL.z_i, ↓DL.z_mul, ↓DL.z_add, ↓DL.z_lt, ↓DL.z_le, ↓DL.z_gt, ↓DL.z_ge, ↓DL.z_eq, ↓DL.z_ne, ↓DL.z_len, ↓DL.z_lens, ↓DL.z_int, ↓DL.z_intb, ↓DL.z_ixO, ↓DL.z_ix0, ↓DL.z_ix1, ↓DL.z_ix2, ↓DL.z_ix3, ↓DL.z_ix4, ↓DL.z_gsub, ↓DL.z_sub1, ↓DL.z_sub2, ↓DL.z_sub3, ↓DL.z_sub4, ↓DL.z_for, ↓DL.z_itA, ↓DL.z_any, ↓DL.z_itl, ↓DL.z_itt, ↓DL.z_its, ↓DL.z_lcg, ↓DL.z_yes, ↓DL.z_ifx, ↓DL.z_tup, ↓DL.z_lst, ↓DL.z_lstO, ↓DL.z_nop, ↓DL.z_part, ↓DL.z_pa, ↓DL.z_slx, ↓DL.z_sll, ↓DL.z_slt, ↓DL.z_sls, ↓DL.z_chain, ↓DL.z_ch, ↓DL.z_andv, ↓DL.z_orv, ↓DL.z_fnot, ↓DL.z_un, ↓DL.z_neg, ↓DL.z_call, ↓DL.z_prop, ↓DL.z_meth, ↓DL.z_make, ↓DL.z_obj, ↓DL.z_fl, ↓DL.z_flt, ↓DL.z_flf, ↓DL.z_ft, ↓DL.z_ftt, ↓DL.z_lent, ↓DL.z_adds, ↓DL.z_addl, ↓DL.z_addt, ↓DL.z_eqs, ↓DL.z_nes, ↓DL.z_eqb, ↓DL.z_eqn, ↓DL.z_eql, ↓DL.z_nel, ↓DL.z_isn, ↓DL.z_isnn, ↓DL.z_ins, ↓DL.z_nins, ↓DL.z_ixt, ↓DL.z_l0, ↓DL.z_l1, ↓DL.z_l2, ↓DL.z_rng, ↓DL.z_enl, ↓DL.z_ent, ↓DL.z_gtup, ↓DL.z_gcons, ↓DL.z_gnil, ↓DL.z_wipe0, ↓DL.z_wipe, ↓DL.z_mt, ↓DL.z_ty0, ↓DL.z_ty1, ↓DL.z_app0, ↓DL.z_app1, ↓DL.z_raise, ↓DL.z_ra, ↓DL.z_is_i_bool, ↓DL.z_is_i_int, ↓DL.z_is_i_str, ↓DL.z_is_i_tuple, ↓DL.z_is_i_list, ↓DL.z_is_b_bool, ↓DL.z_is_b_int, ↓DL.z_is_b_str, ↓DL.z_is_b_tuple, ↓DL.z_is_b_list, ↓DL.z_is_s_bool, ↓DL.z_is_s_int, ↓DL.z_is_s_str, ↓DL.z_is_s_tuple, ↓DL.z_is_s_list, ↓DL.z_is_l_bool, ↓DL.z_is_l_int, ↓DL.z_is_l_str, ↓DL.z_is_l_tuple, ↓DL.z_is_l_list, ↓DL.z_is_t_bool, ↓DL.z_is_t_int, ↓DL.z_is_t_str, ↓DL.z_is_t_tuple, ↓DL.z_is_t_list, ↓DL.z_is_n_bool, ↓DL.z_is_n_int, ↓DL.z_is_n_str, ↓DL.z_is_n_tuple, ↓DL.z_is_n_list, ↓DL.z_gslc, ↓DL.z_sc0, ↓DL.z_listO, ↓DL.z_lol, ↓DL.z_lot, ↓DL.z_fsum, ↓DL.z_own1, ↓DL.z_glen, ↓DL.z_gall, ↓DL.z_ixown, ↓DL.z_listG, ↓DL.z_ownit, ↓DL.z_fld, ↓DL.z_fz, ↓DL.z_fzs, ↓DL.z_xisi, ↓DL.z_xi, ↓DL.z_xval, ↓DL.z_xv, ↓DL.z_ixm, ↓DL.z_lm, ↓dTrim, ↓dLc, ↓dLcO, ↓dEnds, ↓z_gd1, ↓z_gd2, ↓z_gd3, ↓z_gdi, ↓z_gdo, slots, ↓reduceIte, decide_eq_true_eq, Bool.false_eq_true, Bool.not_true, Bool.not_false, decide_true, decide_false, Int.reduceEq, Int.reduceSub, Int.reduceAdd, Int.reduceLT, Int.reduceNeg, and_self, true_and, and_true, isN]; exact hq
  case bl b => simp only [List.map_cons, List.map_nil, List.length_cons, List.length_nil, Nat.reduceSub, Nat.reduceAdd, Nat.zero_add, Nat.sub_self, List.replicate, List.cons_append, List.nil_append, List.append_nil, List.set_cons_zero, List.set_cons_succ, List.take_succ_cons, List.take_zero, List.drop_zero, List.drop_succ_cons, List.drop_nil, List.take_nil, Nat.reduceLeDiff, ↓DL.z_var0, ↓DL.z_varS, ↓DL.z_name0, ↓DL.z_nameS, ↓DL.z_c, ↓DL.z_seq, ↓DL.z_next, ↓DL.z_if, ↓DL.z_asg, ↓DL.z_ret, ↓DL.z_drop, ↓DL.z_val, ↓DL.z_bl, ↓DL.z_and, ↓DL.z_or, ↓DL.z_not, ↓DL.z_bin, ↓DL.z_cb, ↓DL.z_nil, ↓DL.z_cons, ↓DL.z_i0, ↓DL.z_i, ↓DL.z_mul, ↓DL.z_add, ↓DL.z_lt, ↓DL.z_le, ↓DL.z_gt, ↓DL.z_ge, ↓DL.z_eq, ↓DL.z_ne, ↓DL.z_len, ↓DL.z_lens, ↓DL.z_int, ↓DL.z_intb, ↓DL.z_ixO, ↓DL.z_ix0, ↓DL.z_ix1, ↓DL.z_ix2, ↓DL.z_ix3, ↓DL.z_ix4, ↓DL.z_gsub, ↓DL.z_sub1, ↓DL.z_sub2, ↓DL.z_sub3, ↓DL.z_sub4, ↓DL.z_for, ↓DL.z_itA, ↓DL.z_any, ↓DL.z_itl, ↓DL.z_itt, ↓DL.z_its, ↓DL.z_lcg, ↓DL.z_yes, ↓DL.z_ifx, ↓DL.z_tup, ↓DL.z_lst, ↓DL.z_lstO, ↓DL.z_nop, ↓DL.z_part, ↓DL.z_pa, ↓DL.z_slx, ↓DL.z_sll, ↓DL.z_slt, ↓DL.z_sls, ↓DL.z_chain, ↓DL.z_ch, ↓DL.z_andv, ↓DL.z_orv, ↓DL.z_fnot, ↓DL.z_un, ↓DL.z_neg, ↓DL.z_call, ↓DL.z_prop, ↓DL.z_meth, ↓DL.z_make, ↓DL.z_obj, ↓DL.z_fl, ↓DL.z_flt, ↓DL.z_flf, ↓DL.z_ft, ↓DL.z_ftt, ↓DL.z_lent, ↓DL.z_adds, ↓DL.z_addl, ↓DL.z_addt, ↓DL.z_eqs, ↓DL.z_nes, ↓DL.z_eqb, ↓DL.z_eqn, ↓DL.z_eql, ↓DL.z_nel, ↓DL.z_isn, ↓DL.z_isnn, ↓DL.z_ins, ↓DL.z_nins, ↓DL.z_ixt, ↓DL.z_l0, ↓DL.z_l1, ↓DL.z_l2, ↓DL.z_rng, ↓DL.z_enl, ↓DL.z_ent, ↓DL.z_gtup, ↓DL.z_gcons, ↓DL.z_gnil, ↓DL.z_wipe0, ↓DL.z_wipe, ↓DL.z_mt, ↓DL.z_ty0, ↓DL.z_ty1, ↓DL.z_app0, ↓DL.z_app1, ↓DL.z_raise, ↓DL.z_ra, ↓DL.z_is_i_bool, ↓DL.z_is_i_int, ↓DL.z_is_i_str, ↓DL.z_is_i_tuple, ↓DL.z_is_i_list, ↓DL.z_is_b_bool, ↓DL.z_is_b_int, ↓DL.z_is_b_str, ↓DL.z_is_b_tuple, ↓DL.z_is_b_list, ↓DL.z_is_s_bool, ↓DL.z_is_s_int, ↓DL.z_is_s_str, ↓DL.z_is_s_tuple, ↓DL.z_is_s_list, ↓DL.z_is_l_bool, ↓DL.z_is_l_int, ↓DL.z_is_l_str, ↓DL.z_is_l_tuple, ↓DL.z_is_l_list, ↓DL.z_is_t_bool, ↓DL.z_is_t_int, ↓DL.z_is_t_str, ↓DL.z_is_t_tuple, ↓DL.z_is_t_list, ↓DL.z_is_n_bool, ↓DL.z_is_n_int, ↓DL.z_is_n_str, ↓DL.z_is_n_tuple, ↓DL.z_is_n_list, ↓DL.z_gslc, ↓DL.z_sc0, ↓DL.z_listO, ↓DL.z_lol, ↓DL.z_lot, ↓DL.z_fsum, ↓DL.z_own1, ↓DL.z_glen, ↓DL.z_gall, ↓DL.z_ixown, ↓DL.z_listG, ↓DL.z_ownit, ↓DL.z_fld, ↓DL.z_fz, ↓DL.z_fzs, ↓DL.z_xisi, ↓DL.z_xi, ↓DL.z_xval, ↓DL.z_xv, ↓DL.z_ixm, ↓DL.z_lm, ↓dTrim, ↓dLc, ↓dLcO, ↓dEnds, ↓z_gd1, ↓z_gd2, ↓z_gd3, ↓z_gdi, ↓z_gdo, slots, ↓reduceIte, decide_eq_true_eq, Bool.false_eq_true, Bool.not_true, Bool.not_false, decide_true, decide_false, Int.reduceEq, Int.reduceSub, Int.reduceAdd, Int.reduceLT, Int.reduceNeg, and_self, true_and, and_true, isN]; exact hq
  case int b => simp only [List.map_cons, List.map_nil, List.length_cons, List.length_nil, Nat.reduceSub, Nat.reduceAdd, Nat.zero_add, Nat.sub_self, List.replicate, List.cons_append, List.nil_append, List.append_nil, List.set_cons_zero, List.set_cons_succ, List.take_succ_cons, List.take_zero, List.drop_zero, List.drop_succ_cons, List.drop_nil, List.take_nil, Nat.reduceLeDiff, ↓DL.z_var0, ↓DL.z_varS, ↓DL.z_name0, ↓DL.z_nameS, ↓DL.z_c, ↓DL.z_seq, ↓DL.z_next, ↓DL.z_if, ↓DL.z_asg, ↓DL.z_ret, ↓DL.z_drop, ↓DL.z_val, ↓DL.z_bl, ↓DL.z_and, ↓DL.z_or, ↓DL.z_not, ↓DL.z_bin, ↓DL.z_cb, ↓DL.z_nil, ↓DL.z_cons, ↓DL.z_i0, ↓DL.z_i, ↓DL.z_mul, ↓DL.z_add, ↓DL.z_lt, ↓DL.z_le, ↓DL.z_gt, ↓DL.z_ge, ↓DL.z_eq, ↓DL.z_ne, ↓DL.z_len, ↓DL.z_lens, ↓DL.z_int, ↓DL.z_intb, ↓DL.z_ixO, ↓DL.z_ix0, ↓DL.z_ix1, ↓DL.z_ix2, ↓DL.z_ix3, ↓DL.z_ix4, ↓DL.z_gsub, ↓DL.z_sub1, ↓DL.z_sub2, ↓DL.z_sub3, ↓DL.z_sub4, ↓DL.z_for, ↓DL.z_itA, ↓DL.z_any, ↓DL.z_itl, ↓DL.z_itt, ↓DL.z_its, ↓DL.z_lcg, ↓DL.z_yes, ↓DL.z_ifx, ↓DL.z_tup, ↓DL.z_lst, ↓DL.z_lstO, ↓DL.z_nop, ↓DL.z_part, ↓DL.z_pa, ↓DL.z_slx, ↓DL.z_sll, ↓DL.z_slt, ↓DL.z_sls, ↓DL.z_chain, ↓DL.z_ch, ↓DL.z_andv, ↓DL.z_orv, ↓DL.z_fnot, ↓DL.z_un, ↓DL.z_neg, ↓DL.z_call, ↓DL.z_prop, ↓DL.z_meth, ↓DL.z_make, ↓DL.z_obj, ↓DL.z_fl, ↓DL.z_flt, ↓DL.z_flf, ↓DL.z_ft, ↓DL.z_ftt, ↓DL.z_lent, ↓DL.z_adds, ↓DL.z_addl, ↓DL.z_addt, ↓DL.z_eqs, ↓DL.z_nes, ↓DL.z_eqb, ↓DL.z_eqn, ↓DL.z_eql, ↓DL.z_nel, ↓DL.z_isn, ↓DL.z_isnn, ↓DL.z_ins, ↓DL.z_nins, ↓DL.z_ixt, ↓DL.z_l0, ↓DL.z_l1, ↓DL.z_l2, ↓DL.z_rng, ↓DL.z_enl, ↓DL.z_ent, ↓DL.z_gtup, ↓DL.z_gcons, ↓DL.z_gnil, ↓DL.z_wipe0, ↓DL.z_wipe, ↓DL.z_mt, ↓DL.z_ty0, ↓DL.z_ty1, ↓DL.z_app0, ↓DL.z_app1, ↓DL.z_raise, ↓DL.z_ra, ↓DL.z_is_i_bool, ↓DL.z_is_i_int, ↓DL.z_is_i_str, ↓DL.z_is_i_tuple, ↓DL.z_is_i_list, ↓DL.z_is_b_bool, ↓DL.z_is_b_int, ↓DL.z_is_b_str, ↓DL.z_is_b_tuple, ↓DL.z_is_b_list, ↓DL.z_is_s_bool, ↓DL.z_is_s_int, ↓DL.z_is_s_str, ↓DL.z_is_s_tuple, ↓DL.z_is_s_list, ↓DL.z_is_l_bool, ↓DL.z_is_l_int, ↓DL.z_is_l_str, ↓DL.z_is_l_tuple, ↓DL.z_is_l_list, ↓DL.z_is_t_bool, ↓DL.z_is_t_int, ↓DL.z_is_t_str, ↓DL.z_is_t_tuple, ↓DL.z_is_t_list, ↓DL.z_is_n_bool, ↓DL.z_is_n_int, ↓DL.z_is_n_str, ↓DL.z_is_n_tuple, ↓DL.z_is_n_list, ↓DL.z_gslc, ↓DL.z_sc0, ↓DL.z_listO, ↓DL.z_lol, ↓DL.z_lot, ↓DL.z_fsum, ↓DL.z_own1, ↓DL.z_glen, ↓DL.z_gall, ↓DL.z_ixown, ↓DL.z_listG, ↓DL.z_ownit, ↓DL.z_fld, ↓DL.z_fz, ↓DL.z_fzs, ↓DL.z_xisi, ↓DL.z_xi, ↓DL.z_xval, ↓DL.z_xv, ↓DL.z_ixm, ↓DL.z_lm, ↓dTrim, ↓dLc, ↓dLcO, ↓dEnds, ↓z_gd1, ↓z_gd2, ↓z_gd3, ↓z_gdi, ↓z_gdo, slots, ↓reduceIte, decide_eq_true_eq, Bool.false_eq_true, Bool.not_true, Bool.not_false, decide_true, decide_false, Int.reduceEq, Int.reduceSub, Int.reduceAdd, Int.reduceLT, Int.reduceNeg, and_self, true_and, and_true, isN]; exact hq
  case str b => simp only [List.map_cons, List.map_nil, List.length_cons, List.length_nil, Nat.reduceSub, Nat.reduceAdd, Nat.zero_add, Nat.sub_self, List.replicate, List.cons_append, List.nil_append, List.append_nil, List.set_cons_zero, List.set_cons_succ, List.take_succ_cons, List.take_zero, List.drop_zero, List.drop_succ_cons, List.drop_nil, List.take_nil, Nat.reduceLeDiff, ↓DL.z_var0, ↓DL.z_varS, ↓DL.z_name0, ↓DL.z_nameS, ↓DL.z_c, ↓DL.z_seq, ↓DL.z_next, ↓DL.z_if, ↓DL.z_asg, ↓DL.z_ret, ↓DL.z_drop, ↓DL.z_val, ↓DL.z_bl, ↓DL.z_and, ↓DL.z_or, ↓DL.z_not, ↓DL.z_bin, ↓DL.z_cb, ↓DL.z_nil, ↓DL.z_cons, ↓DL.z_i0, ↓DL.z_i, ↓DL.z_mul, ↓DL.z_add, ↓DL.z_lt, ↓DL.z_le, ↓DL.z_gt, ↓DL.z_ge, ↓DL.z_eq, ↓DL.z_ne, ↓DL.z_len, ↓DL.z_lens, ↓DL.z_int, ↓DL.z_intb, ↓DL.z_ixO, ↓DL.z_ix0, ↓DL.z_ix1, ↓DL.z_ix2, ↓DL.z_ix3, ↓DL.z_ix4, ↓DL.z_gsub, ↓DL.z_sub1, ↓DL.z_sub2, ↓DL.z_sub3, ↓DL.z_sub4, ↓DL.z_for, ↓DL.z_itA, ↓DL.z_any, ↓DL.z_itl, ↓DL.z_itt, ↓DL.z_its, ↓DL.z_lcg, ↓DL.z_yes, ↓DL.z_ifx, ↓DL.z_tup, ↓DL.z_lst, ↓DL.z_lstO, ↓DL.z_nop, ↓DL.z_part, ↓DL.z_pa, ↓DL.z_slx, ↓DL.z_sll, ↓DL.z_slt, ↓DL.z_sls, ↓DL.z_chain, ↓DL.z_ch, ↓DL.z_andv, ↓DL.z_orv, ↓DL.z_fnot, ↓DL.z_un, ↓DL.z_neg, ↓DL.z_call, ↓DL.z_prop, ↓DL.z_meth, ↓DL.z_make, ↓DL.z_obj, ↓DL.z_fl, ↓DL.z_flt, ↓DL.z_flf, ↓DL.z_ft, ↓DL.z_ftt, ↓DL.z_lent, ↓DL.z_adds, ↓DL.z_addl, ↓DL.z_addt, ↓DL.z_eqs, ↓DL.z_nes, ↓DL.z_eqb, ↓DL.z_eqn, ↓DL.z_eql, ↓DL.z_nel, ↓DL.z_isn, ↓DL.z_isnn, ↓DL.z_ins, ↓DL.z_nins, ↓DL.z_ixt, ↓DL.z_l0, ↓DL.z_l1, ↓DL.z_l2, ↓DL.z_rng, ↓DL.z_enl, ↓DL.z_ent, ↓DL.z_gtup, ↓DL.z_gcons, ↓DL.z_gnil, ↓DL.z_wipe0, ↓DL.z_wipe, ↓DL.z_mt, ↓DL.z_ty0, ↓DL.z_ty1, ↓DL.z_app0, ↓DL.z_app1, ↓DL.z_raise, ↓DL.z_ra, ↓DL.z_is_i_bool, ↓DL.z_is_i_int, ↓DL.z_is_i_str, ↓DL.z_is_i_tuple, ↓DL.z_is_i_list, ↓DL.z_is_b_bool, ↓DL.z_is_b_int, ↓DL.z_is_b_str, ↓DL.z_is_b_tuple, ↓DL.z_is_b_list, ↓DL.z_is_s_bool, ↓DL.z_is_s_int, ↓DL.z_is_s_str, ↓DL.z_is_s_tuple, ↓DL.z_is_s_list, ↓DL.z_is_l_bool, ↓DL.z_is_l_int, ↓DL.z_is_l_str, ↓DL.z_is_l_tuple, ↓DL.z_is_l_list, ↓DL.z_is_t_bool, ↓DL.z_is_t_int, ↓DL.z_is_t_str, ↓DL.z_is_t_tuple, ↓DL.z_is_t_list, ↓DL.z_is_n_bool, ↓DL.z_is_n_int, ↓DL.z_is_n_str, ↓DL.z_is_n_tuple, ↓DL.z_is_n_list, ↓DL.z_gslc, ↓DL.z_sc0, ↓DL.z_listO, ↓DL.z_lol, ↓DL.z_lot, ↓DL.z_fsum, ↓DL.z_own1, ↓DL.z_glen, ↓DL.z_gall, ↓DL.z_ixown, ↓DL.z_listG, ↓DL.z_ownit, ↓DL.z_fld, ↓DL.z_fz, ↓DL.z_fzs, ↓DL.z_xisi, ↓DL.z_xi, ↓DL.z_xval, ↓DL.z_xv, ↓DL.z_ixm, ↓DL.z_lm, ↓dTrim, ↓dLc, ↓dLcO, ↓dEnds, ↓z_gd1, ↓z_gd2, ↓z_gd3, ↓z_gdi, ↓z_gdo, slots, ↓reduceIte, decide_eq_true_eq, Bool.false_eq_true, Bool.not_true, Bool.not_false, decide_true, decide_false, Int.reduceEq, Int.reduceSub, Int.reduceAdd, Int.reduceLT, Int.reduceNeg, and_self, true_and, and_true, isN]; exact hq
  case fl => cases hx
  case obj => cases hx
  case adr => cases hx
  case ty => cases hx
  case cls => cases hx
  case exn => cases hx
  all_goals
    rename_i b
    simp only [sm, Bool.and_eq_true, decide_eq_true_eq, List.all_eq_true] at hx
    obtain ⟨h1, h2⟩ := hx
    simp only [List.map_cons, List.map_nil, List.length_cons, List.length_nil, Nat.reduceSub, Nat.reduceAdd, Nat.zero_add, Nat.sub_self, List.replicate, List.cons_append, List.nil_append, List.append_nil, List.set_cons_zero, List.set_cons_succ, List.take_succ_cons, List.take_zero, List.drop_zero, List.drop_succ_cons, List.drop_nil, List.take_nil, Nat.reduceLeDiff, ↓DL.z_var0, ↓DL.z_varS, ↓DL.z_name0, ↓DL.z_nameS, ↓DL.z_c, ↓DL.z_seq, ↓DL.z_next, ↓DL.z_if, ↓DL.z_asg, ↓DL.z_ret, ↓DL.z_drop, ↓DL.z_val, ↓DL.z_bl, ↓DL.z_and, ↓DL.z_or, ↓DL.z_not, ↓DL.z_bin, ↓DL.z_cb, ↓DL.z_nil, ↓DL.z_cons, ↓DL.z_i0, ↓DL.z_i, ↓DL.z_mul, ↓DL.z_add, ↓DL.z_lt, ↓DL.z_le, ↓DL.z_gt, ↓DL.z_ge, ↓DL.z_eq, ↓DL.z_ne, ↓DL.z_len, ↓DL.z_lens, ↓DL.z_int, ↓DL.z_intb, ↓DL.z_ixO, ↓DL.z_ix0, ↓DL.z_ix1, ↓DL.z_ix2, ↓DL.z_ix3, ↓DL.z_ix4, ↓DL.z_gsub, ↓DL.z_sub1, ↓DL.z_sub2, ↓DL.z_sub3, ↓DL.z_sub4, ↓DL.z_for, ↓DL.z_itA, ↓DL.z_any, ↓DL.z_itl, ↓DL.z_itt, ↓DL.z_its, ↓DL.z_lcg, ↓DL.z_yes, ↓DL.z_ifx, ↓DL.z_tup, ↓DL.z_lst, ↓DL.z_lstO, ↓DL.z_nop, ↓DL.z_part, ↓DL.z_pa, ↓DL.z_slx, ↓DL.z_sll, ↓DL.z_slt, ↓DL.z_sls, ↓DL.z_chain, ↓DL.z_ch, ↓DL.z_andv, ↓DL.z_orv, ↓DL.z_fnot, ↓DL.z_un, ↓DL.z_neg, ↓DL.z_call, ↓DL.z_prop, ↓DL.z_meth, ↓DL.z_make, ↓DL.z_obj, ↓DL.z_fl, ↓DL.z_flt, ↓DL.z_flf, ↓DL.z_ft, ↓DL.z_ftt, ↓DL.z_lent, ↓DL.z_adds, ↓DL.z_addl, ↓DL.z_addt, ↓DL.z_eqs, ↓DL.z_nes, ↓DL.z_eqb, ↓DL.z_eqn, ↓DL.z_eql, ↓DL.z_nel, ↓DL.z_isn, ↓DL.z_isnn, ↓DL.z_ins, ↓DL.z_nins, ↓DL.z_ixt, ↓DL.z_l0, ↓DL.z_l1, ↓DL.z_l2, ↓DL.z_rng, ↓DL.z_enl, ↓DL.z_ent, ↓DL.z_gtup, ↓DL.z_gcons, ↓DL.z_gnil, ↓DL.z_wipe0, ↓DL.z_wipe, ↓DL.z_mt, ↓DL.z_ty0, ↓DL.z_ty1, ↓DL.z_app0, ↓DL.z_app1, ↓DL.z_raise, ↓DL.z_ra, ↓DL.z_is_i_bool, ↓DL.z_is_i_int, ↓DL.z_is_i_str, ↓DL.z_is_i_tuple, ↓DL.z_is_i_list, ↓DL.z_is_b_bool, ↓DL.z_is_b_int, ↓DL.z_is_b_str, ↓DL.z_is_b_tuple, ↓DL.z_is_b_list, ↓DL.z_is_s_bool, ↓DL.z_is_s_int, ↓DL.z_is_s_str, ↓DL.z_is_s_tuple, ↓DL.z_is_s_list, ↓DL.z_is_l_bool, ↓DL.z_is_l_int, ↓DL.z_is_l_str, ↓DL.z_is_l_tuple, ↓DL.z_is_l_list, ↓DL.z_is_t_bool, ↓DL.z_is_t_int, ↓DL.z_is_t_str, ↓DL.z_is_t_tuple, ↓DL.z_is_t_list, ↓DL.z_is_n_bool, ↓DL.z_is_n_int, ↓DL.z_is_n_str, ↓DL.z_is_n_tuple, ↓DL.z_is_n_list, ↓DL.z_gslc, ↓DL.z_sc0, ↓DL.z_listO, ↓DL.z_lol, ↓DL.z_lot, ↓DL.z_fsum, ↓DL.z_own1, ↓DL.z_glen, ↓DL.z_gall, ↓DL.z_ixown, ↓DL.z_listG, ↓DL.z_ownit, ↓DL.z_fld, ↓DL.z_fz, ↓DL.z_fzs, ↓DL.z_xisi, ↓DL.z_xi, ↓DL.z_xval, ↓DL.z_xv, ↓DL.z_ixm, ↓DL.z_lm, ↓dTrim, ↓dLc, ↓dLcO, ↓dEnds, ↓z_gd1, ↓z_gd2, ↓z_gd3, ↓z_gdi, ↓z_gdo, slots, ↓reduceIte, decide_eq_true_eq, Bool.false_eq_true, Bool.not_true, Bool.not_false, decide_true, decide_false, Int.reduceEq, Int.reduceSub, Int.reduceAdd, Int.reduceLT, Int.reduceNeg, and_self, true_and, and_true, isN]
    refine ⟨by omega, fun k δ μ' => μ' = μ ∧ ∃ v, δ = [_, _, v], ⟨rfl, _, rfl⟩, ?_, ?_⟩
    · rintro k d δ μ' hd ⟨rfl, v, rfl⟩
      obtain ⟨h3, rfl⟩ := rng_get hd
      obtain ⟨d, h4⟩ := ge_ h3
      simp only [List.map_cons, List.map_nil, List.length_cons, List.length_nil, Nat.reduceSub, Nat.reduceAdd, Nat.zero_add, Nat.sub_self, List.replicate, List.cons_append, List.nil_append, List.append_nil, List.set_cons_zero, List.set_cons_succ, List.take_succ_cons, List.take_zero, List.drop_zero, List.drop_succ_cons, List.drop_nil, List.take_nil, Nat.reduceLeDiff, ↓DL.z_var0, ↓DL.z_varS, ↓DL.z_name0, ↓DL.z_nameS, ↓DL.z_c, ↓DL.z_seq, ↓DL.z_next, ↓DL.z_if, ↓DL.z_asg, ↓DL.z_ret, ↓DL.z_drop, ↓DL.z_val, ↓DL.z_bl, ↓DL.z_and, ↓DL.z_or, ↓DL.z_not, ↓DL.z_bin, ↓DL.z_cb, ↓DL.z_nil, ↓DL.z_cons, ↓DL.z_i0, ↓DL.z_i, ↓DL.z_mul, ↓DL.z_add, ↓DL.z_lt, ↓DL.z_le, ↓DL.z_gt, ↓DL.z_ge, ↓DL.z_eq, ↓DL.z_ne, ↓DL.z_len, ↓DL.z_lens, ↓DL.z_int, ↓DL.z_intb, ↓DL.z_ixO, ↓DL.z_ix0, ↓DL.z_ix1, ↓DL.z_ix2, ↓DL.z_ix3, ↓DL.z_ix4, ↓DL.z_gsub, ↓DL.z_sub1, ↓DL.z_sub2, ↓DL.z_sub3, ↓DL.z_sub4, ↓DL.z_for, ↓DL.z_itA, ↓DL.z_any, ↓DL.z_itl, ↓DL.z_itt, ↓DL.z_its, ↓DL.z_lcg, ↓DL.z_yes, ↓DL.z_ifx, ↓DL.z_tup, ↓DL.z_lst, ↓DL.z_lstO, ↓DL.z_nop, ↓DL.z_part, ↓DL.z_pa, ↓DL.z_slx, ↓DL.z_sll, ↓DL.z_slt, ↓DL.z_sls, ↓DL.z_chain, ↓DL.z_ch, ↓DL.z_andv, ↓DL.z_orv, ↓DL.z_fnot, ↓DL.z_un, ↓DL.z_neg, ↓DL.z_call, ↓DL.z_prop, ↓DL.z_meth, ↓DL.z_make, ↓DL.z_obj, ↓DL.z_fl, ↓DL.z_flt, ↓DL.z_flf, ↓DL.z_ft, ↓DL.z_ftt, ↓DL.z_lent, ↓DL.z_adds, ↓DL.z_addl, ↓DL.z_addt, ↓DL.z_eqs, ↓DL.z_nes, ↓DL.z_eqb, ↓DL.z_eqn, ↓DL.z_eql, ↓DL.z_nel, ↓DL.z_isn, ↓DL.z_isnn, ↓DL.z_ins, ↓DL.z_nins, ↓DL.z_ixt, ↓DL.z_l0, ↓DL.z_l1, ↓DL.z_l2, ↓DL.z_rng, ↓DL.z_enl, ↓DL.z_ent, ↓DL.z_gtup, ↓DL.z_gcons, ↓DL.z_gnil, ↓DL.z_wipe0, ↓DL.z_wipe, ↓DL.z_mt, ↓DL.z_ty0, ↓DL.z_ty1, ↓DL.z_app0, ↓DL.z_app1, ↓DL.z_raise, ↓DL.z_ra, ↓DL.z_is_i_bool, ↓DL.z_is_i_int, ↓DL.z_is_i_str, ↓DL.z_is_i_tuple, ↓DL.z_is_i_list, ↓DL.z_is_b_bool, ↓DL.z_is_b_int, ↓DL.z_is_b_str, ↓DL.z_is_b_tuple, ↓DL.z_is_b_list, ↓DL.z_is_s_bool, ↓DL.z_is_s_int, ↓DL.z_is_s_str, ↓DL.z_is_s_tuple, ↓DL.z_is_s_list, ↓DL.z_is_l_bool, ↓DL.z_is_l_int, ↓DL.z_is_l_str, ↓DL.z_is_l_tuple, ↓DL.z_is_l_list, ↓DL.z_is_t_bool, ↓DL.z_is_t_int, ↓DL.z_is_t_str, ↓DL.z_is_t_tuple, ↓DL.z_is_t_list, ↓DL.z_is_n_bool, ↓DL.z_is_n_int, ↓DL.z_is_n_str, ↓DL.z_is_n_tuple, ↓DL.z_is_n_list, ↓DL.z_gslc, ↓DL.z_sc0, ↓DL.z_listO, ↓DL.z_lol, ↓DL.z_lot, ↓DL.z_fsum, ↓DL.z_own1, ↓DL.z_glen, ↓DL.z_gall, ↓DL.z_ixown, ↓DL.z_listG, ↓DL.z_ownit, ↓DL.z_fld, ↓DL.z_fz, ↓DL.z_fzs, ↓DL.z_xisi, ↓DL.z_xi, ↓DL.z_xval, ↓DL.z_xv, ↓DL.z_ixm, ↓DL.z_lm, ↓dTrim, ↓dLc, ↓dLcO, ↓dEnds, ↓z_gd1, ↓z_gd2, ↓z_gd3, ↓z_gdi, ↓z_gdo, slots, ↓reduceIte, decide_eq_true_eq, Bool.false_eq_true, Bool.not_true, Bool.not_false, decide_true, decide_false, Int.reduceEq, Int.reduceSub, Int.reduceAdd, Int.reduceLT, Int.reduceNeg, and_self, true_and, and_true, Int.zero_add, ↓z_ixn h4]
      refine ⟨d, rfl, h2 _ (mem_ h4), ?_⟩
      simp only [List.map_cons, List.map_nil, List.length_cons, List.length_nil, Nat.reduceSub, Nat.reduceAdd, Nat.zero_add, Nat.sub_self, List.replicate, List.cons_append, List.nil_append, List.append_nil, List.set_cons_zero, List.set_cons_succ, List.take_succ_cons, List.take_zero, List.drop_zero, List.drop_succ_cons, List.drop_nil, List.take_nil, Nat.reduceLeDiff, ↓DL.z_var0, ↓DL.z_varS, ↓DL.z_name0, ↓DL.z_nameS, ↓DL.z_c, ↓DL.z_seq, ↓DL.z_next, ↓DL.z_if, ↓DL.z_asg, ↓DL.z_ret, ↓DL.z_drop, ↓DL.z_val, ↓DL.z_bl, ↓DL.z_and, ↓DL.z_or, ↓DL.z_not, ↓DL.z_bin, ↓DL.z_cb, ↓DL.z_nil, ↓DL.z_cons, ↓DL.z_i0, ↓DL.z_i, ↓DL.z_mul, ↓DL.z_add, ↓DL.z_lt, ↓DL.z_le, ↓DL.z_gt, ↓DL.z_ge, ↓DL.z_eq, ↓DL.z_ne, ↓DL.z_len, ↓DL.z_lens, ↓DL.z_int, ↓DL.z_intb, ↓DL.z_ixO, ↓DL.z_ix0, ↓DL.z_ix1, ↓DL.z_ix2, ↓DL.z_ix3, ↓DL.z_ix4, ↓DL.z_gsub, ↓DL.z_sub1, ↓DL.z_sub2, ↓DL.z_sub3, ↓DL.z_sub4, ↓DL.z_for, ↓DL.z_itA, ↓DL.z_any, ↓DL.z_itl, ↓DL.z_itt, ↓DL.z_its, ↓DL.z_lcg, ↓DL.z_yes, ↓DL.z_ifx, ↓DL.z_tup, ↓DL.z_lst, ↓DL.z_lstO, ↓DL.z_nop, ↓DL.z_part, ↓DL.z_pa, ↓DL.z_slx, ↓DL.z_sll, ↓DL.z_slt, ↓DL.z_sls, ↓DL.z_chain, ↓DL.z_ch, ↓DL.z_andv, ↓DL.z_orv, ↓DL.z_fnot, ↓DL.z_un, ↓DL.z_neg, ↓DL.z_call, ↓DL.z_prop, ↓DL.z_meth, ↓DL.z_make, ↓DL.z_obj, ↓DL.z_fl, ↓DL.z_flt, ↓DL.z_flf, ↓DL.z_ft, ↓DL.z_ftt, ↓DL.z_lent, ↓DL.z_adds, ↓DL.z_addl, ↓DL.z_addt, ↓DL.z_eqs, ↓DL.z_nes, ↓DL.z_eqb, ↓DL.z_eqn, ↓DL.z_eql, ↓DL.z_nel, ↓DL.z_isn, ↓DL.z_isnn, ↓DL.z_ins, ↓DL.z_nins, ↓DL.z_ixt, ↓DL.z_l0, ↓DL.z_l1, ↓DL.z_l2, ↓DL.z_rng, ↓DL.z_enl, ↓DL.z_ent, ↓DL.z_gtup, ↓DL.z_gcons, ↓DL.z_gnil, ↓DL.z_wipe0, ↓DL.z_wipe, ↓DL.z_mt, ↓DL.z_ty0, ↓DL.z_ty1, ↓DL.z_app0, ↓DL.z_app1, ↓DL.z_raise, ↓DL.z_ra, ↓DL.z_is_i_bool, ↓DL.z_is_i_int, ↓DL.z_is_i_str, ↓DL.z_is_i_tuple, ↓DL.z_is_i_list, ↓DL.z_is_b_bool, ↓DL.z_is_b_int, ↓DL.z_is_b_str, ↓DL.z_is_b_tuple, ↓DL.z_is_b_list, ↓DL.z_is_s_bool, ↓DL.z_is_s_int, ↓DL.z_is_s_str, ↓DL.z_is_s_tuple, ↓DL.z_is_s_list, ↓DL.z_is_l_bool, ↓DL.z_is_l_int, ↓DL.z_is_l_str, ↓DL.z_is_l_tuple, ↓DL.z_is_l_list, ↓DL.z_is_t_bool, ↓DL.z_is_t_int, ↓DL.z_is_t_str, ↓DL.z_is_t_tuple, ↓DL.z_is_t_list, ↓DL.z_is_n_bool, ↓DL.z_is_n_int, ↓DL.z_is_n_str, ↓DL.z_is_n_tuple, ↓DL.z_is_n_list, ↓DL.z_gslc, ↓DL.z_sc0, ↓DL.z_listO, ↓DL.z_lol, ↓DL.z_lot, ↓DL.z_fsum, ↓DL.z_own1, ↓DL.z_glen, ↓DL.z_gall, ↓DL.z_ixown, ↓DL.z_listG, ↓DL.z_ownit, ↓DL.z_fld, ↓DL.z_fz, ↓DL.z_fzs, ↓DL.z_xisi, ↓DL.z_xi, ↓DL.z_xval, ↓DL.z_xv, ↓DL.z_ixm, ↓DL.z_lm, ↓dTrim, ↓dLc, ↓dLcO, ↓dEnds, ↓z_gd1, ↓z_gd2, ↓z_gd3, ↓z_gdi, ↓z_gdo, slots, ↓reduceIte, decide_eq_true_eq, Bool.false_eq_true, Bool.not_true, Bool.not_false, decide_true, decide_false, Int.reduceEq, Int.reduceSub, Int.reduceAdd, Int.reduceLT, Int.reduceNeg, and_self, true_and, and_true]
      exact ⟨_, rfl⟩
    · rintro δ μ' ⟨rfl, v, rfl⟩
      exact hq
theorem sc_law_word : FnScope ["state", "signs", "least", "top", "row", "k"] ["state", "signs", "least", "top"] (defScope (top 20)) := ⟨rfl, rfl, rfl, by decide +kernel, rfl, by decide +kernel, by decide +kernel⟩
theorem ok_law_word (fx : Fx K mg C Dd) (h_law_draw : FDa P w K mg base C "_law_draw" 1 2 [] (df_law_draw)) (F : FunD K "_law_word" "_law_word" (defArgs (top 20)) (defBody (top 20)) (defScope (top 20)) [] [] fa fd) : FnOk P w K mg base (L2.CX P w) (1 + 1) fa fd ["state", "signs", "least", "top"] (spOf C K 4 (df_law_word)) := by
  refine okD (k := 1) F sc_law_word (fun cdv A outer s H E hr tk => (ss_cons (s_set 4 sc_law_word.nd (e_str [])) (ss_cons (s_for PassesOwn.leaving rfl (i_rng1 fx.range (a_cons (e_op o_add (e_var 2) (e_call 1 h_law_draw (hr.mono (by decide)) tk (a_cons (e_var 0) (a_cons (e_op o_add (e_op o_sub (e_var 3) (e_var 2)) e_int) a_nil)))) a_nil)) (g_name 5 sc_law_word.nd) (ss_one (s_set 4 sc_law_word.nd (e_op o_add (e_var 4) (e_ix (e_var 1) (e_call 1 h_law_draw (hr.mono (by decide)) tk (a_cons (e_var 0) (a_cons (e_bi c_len fx.len (by decide +kernel) (a_cons (e_var 1) a_nil)) a_nil)))))))) (ss_one (s_ret (e_var 4)))))) ?_
  intro ds μ Q R hl h
  obtain ⟨p, cells, i, a, b, c, signs, lo, hi, rfl, rfl, h1, h2, h3, h4, hq⟩ := h
  simp only [List.map_cons, List.map_nil, List.length_cons, List.length_nil, Nat.reduceSub, Nat.reduceAdd, Nat.zero_add, Nat.sub_self, List.replicate, List.cons_append, List.nil_append, List.append_nil, List.set_cons_zero, List.set_cons_succ, List.take_succ_cons, List.take_zero, List.drop_zero, List.drop_succ_cons, List.drop_nil, List.take_nil, Nat.reduceLeDiff, ↓DL.z_var0, ↓DL.z_varS, ↓DL.z_name0, ↓DL.z_nameS, ↓DL.z_c, ↓DL.z_seq, ↓DL.z_next, ↓DL.z_if, ↓DL.z_asg, ↓DL.z_ret, ↓DL.z_drop, ↓DL.z_val, ↓DL.z_bl, ↓DL.z_and, ↓DL.z_or, ↓DL.z_not, ↓DL.z_bin, ↓DL.z_cb, ↓DL.z_nil, ↓DL.z_cons, ↓DL.z_i0, ↓DL.z_i, ↓DL.z_mul, ↓DL.z_add, ↓DL.z_lt, ↓DL.z_le, ↓DL.z_gt, ↓DL.z_ge, ↓DL.z_eq, ↓DL.z_ne, ↓DL.z_len, ↓DL.z_lens, ↓DL.z_int, ↓DL.z_intb, ↓DL.z_ixO, ↓DL.z_ix0, ↓DL.z_ix1, ↓DL.z_ix2, ↓DL.z_ix3, ↓DL.z_ix4, ↓DL.z_gsub, ↓DL.z_sub1, ↓DL.z_sub2, ↓DL.z_sub3, ↓DL.z_sub4, ↓DL.z_for, ↓DL.z_itA, ↓DL.z_any, ↓DL.z_itl, ↓DL.z_itt, ↓DL.z_its, ↓DL.z_lcg, ↓DL.z_yes, ↓DL.z_ifx, ↓DL.z_tup, ↓DL.z_lst, ↓DL.z_lstO, ↓DL.z_nop, ↓DL.z_part, ↓DL.z_pa, ↓DL.z_slx, ↓DL.z_sll, ↓DL.z_slt, ↓DL.z_sls, ↓DL.z_chain, ↓DL.z_ch, ↓DL.z_andv, ↓DL.z_orv, ↓DL.z_fnot, ↓DL.z_un, ↓DL.z_neg, ↓DL.z_call, ↓DL.z_prop, ↓DL.z_meth, ↓DL.z_make, ↓DL.z_obj, ↓DL.z_fl, ↓DL.z_flt, ↓DL.z_flf, ↓DL.z_ft, ↓DL.z_ftt, ↓DL.z_lent, ↓DL.z_adds, ↓DL.z_addl, ↓DL.z_addt, ↓DL.z_eqs, ↓DL.z_nes, ↓DL.z_eqb, ↓DL.z_eqn, ↓DL.z_eql, ↓DL.z_nel, ↓DL.z_isn, ↓DL.z_isnn, ↓DL.z_ins, ↓DL.z_nins, ↓DL.z_ixt, ↓DL.z_l0, ↓DL.z_l1, ↓DL.z_l2, ↓DL.z_rng, ↓DL.z_enl, ↓DL.z_ent, ↓DL.z_gtup, ↓DL.z_gcons, ↓DL.z_gnil, ↓DL.z_wipe0, ↓DL.z_wipe, ↓DL.z_mt, ↓DL.z_ty0, ↓DL.z_ty1, ↓DL.z_app0, ↓DL.z_app1, ↓DL.z_raise, ↓DL.z_ra, ↓DL.z_is_i_bool, ↓DL.z_is_i_int, ↓DL.z_is_i_str, ↓DL.z_is_i_tuple, ↓DL.z_is_i_list, ↓DL.z_is_b_bool, ↓DL.z_is_b_int, ↓DL.z_is_b_str, ↓DL.z_is_b_tuple, ↓DL.z_is_b_list, ↓DL.z_is_s_bool, ↓DL.z_is_s_int, ↓DL.z_is_s_str, ↓DL.z_is_s_tuple, ↓DL.z_is_s_list, ↓DL.z_is_l_bool, ↓DL.z_is_l_int, ↓DL.z_is_l_str, ↓DL.z_is_l_tuple, ↓DL.z_is_l_list, ↓DL.z_is_t_bool, ↓DL.z_is_t_int, ↓DL.z_is_t_str, ↓DL.z_is_t_tuple, ↓DL.z_is_t_list, ↓DL.z_is_n_bool, ↓DL.z_is_n_int, ↓DL.z_is_n_str, ↓DL.z_is_n_tuple, ↓DL.z_is_n_list, ↓DL.z_gslc, ↓DL.z_sc0, ↓DL.z_listO, ↓DL.z_lol, ↓DL.z_lot, ↓DL.z_fsum, ↓DL.z_own1, ↓DL.z_glen, ↓DL.z_gall, ↓DL.z_ixown, ↓DL.z_listG, ↓DL.z_ownit, ↓DL.z_fld, ↓DL.z_fz, ↓DL.z_fzs, ↓DL.z_xisi, ↓DL.z_xi, ↓DL.z_xval, ↓DL.z_xv, ↓DL.z_ixm, ↓DL.z_lm, ↓dTrim, ↓dLc, ↓dLcO, ↓dEnds, ↓z_gd1, ↓z_gd2, ↓z_gd3, ↓z_gdi, ↓z_gdo, slots, ↓reduceIte, decide_eq_true_eq, Bool.false_eq_true, Bool.not_true, Bool.not_false, decide_true, decide_false, Int.reduceEq, Int.reduceSub, Int.reduceAdd, Int.reduceLT, Int.reduceNeg, and_self, true_and, and_true]
  refine ⟨p, cells, i, a, b, c, _, rfl, rfl, by omega, log9 (by omega), fun r i' a' b' c' r0 r1 => ?_⟩
  obtain ⟨n, hn⟩ : ∃ n : Nat, (lo : Int) + r = n := ⟨((lo : Int) + r).toNat, by omega⟩
  simp only [List.map_cons, List.map_nil, List.length_cons, List.length_nil, Nat.reduceSub, Nat.reduceAdd, Nat.zero_add, Nat.sub_self, List.replicate, List.cons_append, List.nil_append, List.append_nil, List.set_cons_zero, List.set_cons_succ, List.take_succ_cons, List.take_zero, List.drop_zero, List.drop_succ_cons, List.drop_nil, List.take_nil, Nat.reduceLeDiff, ↓DL.z_var0, ↓DL.z_varS, ↓DL.z_name0, ↓DL.z_nameS, ↓DL.z_c, ↓DL.z_seq, ↓DL.z_next, ↓DL.z_if, ↓DL.z_asg, ↓DL.z_ret, ↓DL.z_drop, ↓DL.z_val, ↓DL.z_bl, ↓DL.z_and, ↓DL.z_or, ↓DL.z_not, ↓DL.z_bin, ↓DL.z_cb, ↓DL.z_nil, ↓DL.z_cons, ↓DL.z_i0, ↓DL.z_i, ↓DL.z_mul, ↓DL.z_add, ↓DL.z_lt, ↓DL.z_le, ↓DL.z_gt, ↓DL.z_ge, ↓DL.z_eq, ↓DL.z_ne, ↓DL.z_len, ↓DL.z_lens, ↓DL.z_int, ↓DL.z_intb, ↓DL.z_ixO, ↓DL.z_ix0, ↓DL.z_ix1, ↓DL.z_ix2, ↓DL.z_ix3, ↓DL.z_ix4, ↓DL.z_gsub, ↓DL.z_sub1, ↓DL.z_sub2, ↓DL.z_sub3, ↓DL.z_sub4, ↓DL.z_for, ↓DL.z_itA, ↓DL.z_any, ↓DL.z_itl, ↓DL.z_itt, ↓DL.z_its, ↓DL.z_lcg, ↓DL.z_yes, ↓DL.z_ifx, ↓DL.z_tup, ↓DL.z_lst, ↓DL.z_lstO, ↓DL.z_nop, ↓DL.z_part, ↓DL.z_pa, ↓DL.z_slx, ↓DL.z_sll, ↓DL.z_slt, ↓DL.z_sls, ↓DL.z_chain, ↓DL.z_ch, ↓DL.z_andv, ↓DL.z_orv, ↓DL.z_fnot, ↓DL.z_un, ↓DL.z_neg, ↓DL.z_call, ↓DL.z_prop, ↓DL.z_meth, ↓DL.z_make, ↓DL.z_obj, ↓DL.z_fl, ↓DL.z_flt, ↓DL.z_flf, ↓DL.z_ft, ↓DL.z_ftt, ↓DL.z_lent, ↓DL.z_adds, ↓DL.z_addl, ↓DL.z_addt, ↓DL.z_eqs, ↓DL.z_nes, ↓DL.z_eqb, ↓DL.z_eqn, ↓DL.z_eql, ↓DL.z_nel, ↓DL.z_isn, ↓DL.z_isnn, ↓DL.z_ins, ↓DL.z_nins, ↓DL.z_ixt, ↓DL.z_l0, ↓DL.z_l1, ↓DL.z_l2, ↓DL.z_rng, ↓DL.z_enl, ↓DL.z_ent, ↓DL.z_gtup, ↓DL.z_gcons, ↓DL.z_gnil, ↓DL.z_wipe0, ↓DL.z_wipe, ↓DL.z_mt, ↓DL.z_ty0, ↓DL.z_ty1, ↓DL.z_app0, ↓DL.z_app1, ↓DL.z_raise, ↓DL.z_ra, ↓DL.z_is_i_bool, ↓DL.z_is_i_int, ↓DL.z_is_i_str, ↓DL.z_is_i_tuple, ↓DL.z_is_i_list, ↓DL.z_is_b_bool, ↓DL.z_is_b_int, ↓DL.z_is_b_str, ↓DL.z_is_b_tuple, ↓DL.z_is_b_list, ↓DL.z_is_s_bool, ↓DL.z_is_s_int, ↓DL.z_is_s_str, ↓DL.z_is_s_tuple, ↓DL.z_is_s_list, ↓DL.z_is_l_bool, ↓DL.z_is_l_int, ↓DL.z_is_l_str, ↓DL.z_is_l_tuple, ↓DL.z_is_l_list, ↓DL.z_is_t_bool, ↓DL.z_is_t_int, ↓DL.z_is_t_str, ↓DL.z_is_t_tuple, ↓DL.z_is_t_list, ↓DL.z_is_n_bool, ↓DL.z_is_n_int, ↓DL.z_is_n_str, ↓DL.z_is_n_tuple, ↓DL.z_is_n_list, ↓DL.z_gslc, ↓DL.z_sc0, ↓DL.z_listO, ↓DL.z_lol, ↓DL.z_lot, ↓DL.z_fsum, ↓DL.z_own1, ↓DL.z_glen, ↓DL.z_gall, ↓DL.z_ixown, ↓DL.z_listG, ↓DL.z_ownit, ↓DL.z_fld, ↓DL.z_fz, ↓DL.z_fzs, ↓DL.z_xisi, ↓DL.z_xi, ↓DL.z_xval, ↓DL.z_xv, ↓DL.z_ixm, ↓DL.z_lm, ↓dTrim, ↓dLc, ↓dLcO, ↓dEnds, ↓z_gd1, ↓z_gd2, ↓z_gd3, ↓z_gdi, ↓z_gdo, slots, ↓reduceIte, decide_eq_true_eq, Bool.false_eq_true, Bool.not_true, Bool.not_false, decide_true, decide_false, Int.reduceEq, Int.reduceSub, Int.reduceAdd, Int.reduceLT, Int.reduceNeg, and_self, true_and, and_true, ↓hn]
  refine ⟨by omega, fun k δ μ' => ∃ w v i' a' b' c', μ' = [(p, .lst (stD cells i' a' b' c'))] ∧ (∀ x ∈ w, x ∈ signs) ∧ w.length = k ∧ δ = [some (.adr p), some (.str signs), some (.int lo), some (.int hi), some (.str w), v],
    ⟨[], _, _, _, _, _, rfl, by simp, rfl, rfl⟩, ?_, ?_⟩
  · rintro k d δ μ' hd ⟨w, v, i', a', b', c', rfl, hw, rfl, rfl⟩
    obtain ⟨h7, rfl⟩ := rng_get hd
    simp only [List.map_cons, List.map_nil, List.length_cons, List.length_nil, Nat.reduceSub, Nat.reduceAdd, Nat.zero_add, Nat.sub_self, List.replicate, List.cons_append, List.nil_append, List.append_nil, List.set_cons_zero, List.set_cons_succ, List.take_succ_cons, List.take_zero, List.drop_zero, List.drop_succ_cons, List.drop_nil, List.take_nil, Nat.reduceLeDiff, ↓DL.z_var0, ↓DL.z_varS, ↓DL.z_name0, ↓DL.z_nameS, ↓DL.z_c, ↓DL.z_seq, ↓DL.z_next, ↓DL.z_if, ↓DL.z_asg, ↓DL.z_ret, ↓DL.z_drop, ↓DL.z_val, ↓DL.z_bl, ↓DL.z_and, ↓DL.z_or, ↓DL.z_not, ↓DL.z_bin, ↓DL.z_cb, ↓DL.z_nil, ↓DL.z_cons, ↓DL.z_i0, ↓DL.z_i, ↓DL.z_mul, ↓DL.z_add, ↓DL.z_lt, ↓DL.z_le, ↓DL.z_gt, ↓DL.z_ge, ↓DL.z_eq, ↓DL.z_ne, ↓DL.z_len, ↓DL.z_lens, ↓DL.z_int, ↓DL.z_intb, ↓DL.z_ixO, ↓DL.z_ix0, ↓DL.z_ix1, ↓DL.z_ix2, ↓DL.z_ix3, ↓DL.z_ix4, ↓DL.z_gsub, ↓DL.z_sub1, ↓DL.z_sub2, ↓DL.z_sub3, ↓DL.z_sub4, ↓DL.z_for, ↓DL.z_itA, ↓DL.z_any, ↓DL.z_itl, ↓DL.z_itt, ↓DL.z_its, ↓DL.z_lcg, ↓DL.z_yes, ↓DL.z_ifx, ↓DL.z_tup, ↓DL.z_lst, ↓DL.z_lstO, ↓DL.z_nop, ↓DL.z_part, ↓DL.z_pa, ↓DL.z_slx, ↓DL.z_sll, ↓DL.z_slt, ↓DL.z_sls, ↓DL.z_chain, ↓DL.z_ch, ↓DL.z_andv, ↓DL.z_orv, ↓DL.z_fnot, ↓DL.z_un, ↓DL.z_neg, ↓DL.z_call, ↓DL.z_prop, ↓DL.z_meth, ↓DL.z_make, ↓DL.z_obj, ↓DL.z_fl, ↓DL.z_flt, ↓DL.z_flf, ↓DL.z_ft, ↓DL.z_ftt, ↓DL.z_lent, ↓DL.z_adds, ↓DL.z_addl, ↓DL.z_addt, ↓DL.z_eqs, ↓DL.z_nes, ↓DL.z_eqb, ↓DL.z_eqn, ↓DL.z_eql, ↓DL.z_nel, ↓DL.z_isn, ↓DL.z_isnn, ↓DL.z_ins, ↓DL.z_nins, ↓DL.z_ixt, ↓DL.z_l0, ↓DL.z_l1, ↓DL.z_l2, ↓DL.z_rng, ↓DL.z_enl, ↓DL.z_ent, ↓DL.z_gtup, ↓DL.z_gcons, ↓DL.z_gnil, ↓DL.z_wipe0, ↓DL.z_wipe, ↓DL.z_mt, ↓DL.z_ty0, ↓DL.z_ty1, ↓DL.z_app0, ↓DL.z_app1, ↓DL.z_raise, ↓DL.z_ra, ↓DL.z_is_i_bool, ↓DL.z_is_i_int, ↓DL.z_is_i_str, ↓DL.z_is_i_tuple, ↓DL.z_is_i_list, ↓DL.z_is_b_bool, ↓DL.z_is_b_int, ↓DL.z_is_b_str, ↓DL.z_is_b_tuple, ↓DL.z_is_b_list, ↓DL.z_is_s_bool, ↓DL.z_is_s_int, ↓DL.z_is_s_str, ↓DL.z_is_s_tuple, ↓DL.z_is_s_list, ↓DL.z_is_l_bool, ↓DL.z_is_l_int, ↓DL.z_is_l_str, ↓DL.z_is_l_tuple, ↓DL.z_is_l_list, ↓DL.z_is_t_bool, ↓DL.z_is_t_int, ↓DL.z_is_t_str, ↓DL.z_is_t_tuple, ↓DL.z_is_t_list, ↓DL.z_is_n_bool, ↓DL.z_is_n_int, ↓DL.z_is_n_str, ↓DL.z_is_n_tuple, ↓DL.z_is_n_list, ↓DL.z_gslc, ↓DL.z_sc0, ↓DL.z_listO, ↓DL.z_lol, ↓DL.z_lot, ↓DL.z_fsum, ↓DL.z_own1, ↓DL.z_glen, ↓DL.z_gall, ↓DL.z_ixown, ↓DL.z_listG, ↓DL.z_ownit, ↓DL.z_fld, ↓DL.z_fz, ↓DL.z_fzs, ↓DL.z_xisi, ↓DL.z_xi, ↓DL.z_xval, ↓DL.z_xv, ↓DL.z_ixm, ↓DL.z_lm, ↓dTrim, ↓dLc, ↓dLcO, ↓dEnds, ↓z_gd1, ↓z_gd2, ↓z_gd3, ↓z_gdi, ↓z_gdo, slots, ↓reduceIte, decide_eq_true_eq, Bool.false_eq_true, Bool.not_true, Bool.not_false, decide_true, decide_false, Int.reduceEq, Int.reduceSub, Int.reduceAdd, Int.reduceLT, Int.reduceNeg, and_self, true_and, and_true]
    refine ⟨p, cells, i', a', b', c', _, rfl, rfl, by omega, log9 (by omega), fun r i' a' b' c' r0 r1 => ?_⟩
    obtain ⟨m, rfl⟩ := Int.eq_ofNat_of_zero_le r0
    obtain ⟨x, hx⟩ := ge_ (l := signs) (k := m) (by omega)
    simp only [List.map_cons, List.map_nil, List.length_cons, List.length_nil, Nat.reduceSub, Nat.reduceAdd, Nat.zero_add, Nat.sub_self, List.replicate, List.cons_append, List.nil_append, List.append_nil, List.set_cons_zero, List.set_cons_succ, List.take_succ_cons, List.take_zero, List.drop_zero, List.drop_succ_cons, List.drop_nil, List.take_nil, Nat.reduceLeDiff, ↓DL.z_var0, ↓DL.z_varS, ↓DL.z_name0, ↓DL.z_nameS, ↓DL.z_c, ↓DL.z_seq, ↓DL.z_next, ↓DL.z_if, ↓DL.z_asg, ↓DL.z_ret, ↓DL.z_drop, ↓DL.z_val, ↓DL.z_bl, ↓DL.z_and, ↓DL.z_or, ↓DL.z_not, ↓DL.z_bin, ↓DL.z_cb, ↓DL.z_nil, ↓DL.z_cons, ↓DL.z_i0, ↓DL.z_i, ↓DL.z_mul, ↓DL.z_add, ↓DL.z_lt, ↓DL.z_le, ↓DL.z_gt, ↓DL.z_ge, ↓DL.z_eq, ↓DL.z_ne, ↓DL.z_len, ↓DL.z_lens, ↓DL.z_int, ↓DL.z_intb, ↓DL.z_ixO, ↓DL.z_ix0, ↓DL.z_ix1, ↓DL.z_ix2, ↓DL.z_ix3, ↓DL.z_ix4, ↓DL.z_gsub, ↓DL.z_sub1, ↓DL.z_sub2, ↓DL.z_sub3, ↓DL.z_sub4, ↓DL.z_for, ↓DL.z_itA, ↓DL.z_any, ↓DL.z_itl, ↓DL.z_itt, ↓DL.z_its, ↓DL.z_lcg, ↓DL.z_yes, ↓DL.z_ifx, ↓DL.z_tup, ↓DL.z_lst, ↓DL.z_lstO, ↓DL.z_nop, ↓DL.z_part, ↓DL.z_pa, ↓DL.z_slx, ↓DL.z_sll, ↓DL.z_slt, ↓DL.z_sls, ↓DL.z_chain, ↓DL.z_ch, ↓DL.z_andv, ↓DL.z_orv, ↓DL.z_fnot, ↓DL.z_un, ↓DL.z_neg, ↓DL.z_call, ↓DL.z_prop, ↓DL.z_meth, ↓DL.z_make, ↓DL.z_obj, ↓DL.z_fl, ↓DL.z_flt, ↓DL.z_flf, ↓DL.z_ft, ↓DL.z_ftt, ↓DL.z_lent, ↓DL.z_adds, ↓DL.z_addl, ↓DL.z_addt, ↓DL.z_eqs, ↓DL.z_nes, ↓DL.z_eqb, ↓DL.z_eqn, ↓DL.z_eql, ↓DL.z_nel, ↓DL.z_isn, ↓DL.z_isnn, ↓DL.z_ins, ↓DL.z_nins, ↓DL.z_ixt, ↓DL.z_l0, ↓DL.z_l1, ↓DL.z_l2, ↓DL.z_rng, ↓DL.z_enl, ↓DL.z_ent, ↓DL.z_gtup, ↓DL.z_gcons, ↓DL.z_gnil, ↓DL.z_wipe0, ↓DL.z_wipe, ↓DL.z_mt, ↓DL.z_ty0, ↓DL.z_ty1, ↓DL.z_app0, ↓DL.z_app1, ↓DL.z_raise, ↓DL.z_ra, ↓DL.z_is_i_bool, ↓DL.z_is_i_int, ↓DL.z_is_i_str, ↓DL.z_is_i_tuple, ↓DL.z_is_i_list, ↓DL.z_is_b_bool, ↓DL.z_is_b_int, ↓DL.z_is_b_str, ↓DL.z_is_b_tuple, ↓DL.z_is_b_list, ↓DL.z_is_s_bool, ↓DL.z_is_s_int, ↓DL.z_is_s_str, ↓DL.z_is_s_tuple, ↓DL.z_is_s_list, ↓DL.z_is_l_bool, ↓DL.z_is_l_int, ↓DL.z_is_l_str, ↓DL.z_is_l_tuple, ↓DL.z_is_l_list, ↓DL.z_is_t_bool, ↓DL.z_is_t_int, ↓DL.z_is_t_str, ↓DL.z_is_t_tuple, ↓DL.z_is_t_list, ↓DL.z_is_n_bool, ↓DL.z_is_n_int, ↓DL.z_is_n_str, ↓DL.z_is_n_tuple, ↓DL.z_is_n_list, ↓DL.z_gslc, ↓DL.z_sc0, ↓DL.z_listO, ↓DL.z_lol, ↓DL.z_lot, ↓DL.z_fsum, ↓DL.z_own1, ↓DL.z_glen, ↓DL.z_gall, ↓DL.z_ixown, ↓DL.z_listG, ↓DL.z_ownit, ↓DL.z_fld, ↓DL.z_fz, ↓DL.z_fzs, ↓DL.z_xisi, ↓DL.z_xi, ↓DL.z_xval, ↓DL.z_xv, ↓DL.z_ixm, ↓DL.z_lm, ↓dTrim, ↓dLc, ↓dLcO, ↓dEnds, ↓z_gd1, ↓z_gd2, ↓z_gd3, ↓z_gdi, ↓z_gdo, slots, ↓reduceIte, decide_eq_true_eq, Bool.false_eq_true, Bool.not_true, Bool.not_false, decide_true, decide_false, Int.reduceEq, Int.reduceSub, Int.reduceAdd, Int.reduceLT, Int.reduceNeg, and_self, true_and, and_true, ↓z_ixs hx]
    refine ⟨by omega, _, _, _, _, _, _, rfl, ?_, by simp, rfl⟩
    intro y hy
    rcases List.mem_append.mp hy with hy | hy
    · exact hw y hy
    · rw [List.mem_singleton.mp hy]; exact mem_ hx
  · rintro δ μ' ⟨w, v, i', a', b', c', rfl, hw, h5, rfl⟩
    rw [rng_length] at h5
    exact hq w _ _ _ _ hw (by omega) (by omega)
theorem sc_law_groups : FnScope ["state", "signs", "top", "size", "many", "k"] ["state", "signs", "top", "size"] (defScope (top 21)) := ⟨rfl, rfl, rfl, by decide +kernel, rfl, by decide +kernel, by decide +kernel⟩
theorem ok_law_groups (fx : Fx K mg C Dd) (h_law_draw : FDa P w K mg base C "_law_draw" 1 2 [] (df_law_draw)) (h_law_word : FDa P w K mg base C "_law_word" 2 4 [] (df_law_word)) (F : FunD K "_law_groups" "_law_groups" (defArgs (top 21)) (defBody (top 21)) (defScope (top 21)) [] [] fa fd) : FnOk P w K mg base (L2.CX P w) (2 + 1) fa fd ["state", "signs", "top", "size"] (spOf C K 4 (df_law_groups)) := by
  refine okD (k := 2) F sc_law_groups (fun cdv A outer s H E hr tk => (ss_cons (s_set 4 sc_law_groups.nd (e_op o_mod (e_op o_add (e_call 1 h_law_draw (hr.mono (by decide)) tk (a_cons (e_var 0) (a_cons (e_op o_add (e_var 2) e_int) a_nil))) e_int) (e_op o_add (e_var 2) e_int))) (ss_one (s_ret (e_lc [("k", 5)]  rfl sc_law_groups.nd (i_rng1 fx.range (a_cons (e_var 4) a_nil)) (blkOk_by (N := ["state", "signs", "top", "size", "many", "k"]) (sc := defScope (top 21)) (by decide +kernel)) (fun Y hY => by obtain ⟨s9, H9, P9, cl9, fp9, rfl⟩ := hY; exact (g_name 5 sc_law_groups.nd)) (in_name (by decide)) mg_name (fun Y hY => by obtain ⟨s9, H9, P9, cl9, fp9, rfl⟩ := hY; exact (e_call 1 h_law_word (hr.mono (by decide)) takes0 (a_cons (e_var 0) (a_cons (e_var 1) (a_cons e_int (a_cons (e_var 3) a_nil))))))))))) ?_
  intro ds μ Q R hl h
  obtain ⟨p, cells, i, a, b, c, signs, t, z, rfl, rfl, h1, h2, h3, h4, h5, hq⟩ := h
  simp only [List.map_cons, List.map_nil, List.length_cons, List.length_nil, Nat.reduceSub, Nat.reduceAdd, Nat.zero_add, Nat.sub_self, List.replicate, List.cons_append, List.nil_append, List.append_nil, List.set_cons_zero, List.set_cons_succ, List.take_succ_cons, List.take_zero, List.drop_zero, List.drop_succ_cons, List.drop_nil, List.take_nil, Nat.reduceLeDiff, ↓DL.z_var0, ↓DL.z_varS, ↓DL.z_name0, ↓DL.z_nameS, ↓DL.z_c, ↓DL.z_seq, ↓DL.z_next, ↓DL.z_if, ↓DL.z_asg, ↓DL.z_ret, ↓DL.z_drop, ↓DL.z_val, ↓DL.z_bl, ↓DL.z_and, ↓DL.z_or, ↓DL.z_not, ↓DL.z_bin, ↓DL.z_cb, ↓DL.z_nil, ↓DL.z_cons, ↓DL.z_i0, ↓DL.z_i, ↓DL.z_mul, ↓DL.z_add, ↓DL.z_lt, ↓DL.z_le, ↓DL.z_gt, ↓DL.z_ge, ↓DL.z_eq, ↓DL.z_ne, ↓DL.z_len, ↓DL.z_lens, ↓DL.z_int, ↓DL.z_intb, ↓DL.z_ixO, ↓DL.z_ix0, ↓DL.z_ix1, ↓DL.z_ix2, ↓DL.z_ix3, ↓DL.z_ix4, ↓DL.z_gsub, ↓DL.z_sub1, ↓DL.z_sub2, ↓DL.z_sub3, ↓DL.z_sub4, ↓DL.z_for, ↓DL.z_itA, ↓DL.z_any, ↓DL.z_itl, ↓DL.z_itt, ↓DL.z_its, ↓DL.z_lcg, ↓DL.z_yes, ↓DL.z_ifx, ↓DL.z_tup, ↓DL.z_lst, ↓DL.z_lstO, ↓DL.z_nop, ↓DL.z_part, ↓DL.z_pa, ↓DL.z_slx, ↓DL.z_sll, ↓DL.z_slt, ↓DL.z_sls, ↓DL.z_chain, ↓DL.z_ch, ↓DL.z_andv, ↓DL.z_orv, ↓DL.z_fnot, ↓DL.z_un, ↓DL.z_neg, ↓DL.z_call, ↓DL.z_prop, ↓DL.z_meth, ↓DL.z_make, ↓DL.z_obj, ↓DL.z_fl, ↓DL.z_flt, ↓DL.z_flf, ↓DL.z_ft, ↓DL.z_ftt, ↓DL.z_lent, ↓DL.z_adds, ↓DL.z_addl, ↓DL.z_addt, ↓DL.z_eqs, ↓DL.z_nes, ↓DL.z_eqb, ↓DL.z_eqn, ↓DL.z_eql, ↓DL.z_nel, ↓DL.z_isn, ↓DL.z_isnn, ↓DL.z_ins, ↓DL.z_nins, ↓DL.z_ixt, ↓DL.z_l0, ↓DL.z_l1, ↓DL.z_l2, ↓DL.z_rng, ↓DL.z_enl, ↓DL.z_ent, ↓DL.z_gtup, ↓DL.z_gcons, ↓DL.z_gnil, ↓DL.z_wipe0, ↓DL.z_wipe, ↓DL.z_mt, ↓DL.z_ty0, ↓DL.z_ty1, ↓DL.z_app0, ↓DL.z_app1, ↓DL.z_raise, ↓DL.z_ra, ↓DL.z_is_i_bool, ↓DL.z_is_i_int, ↓DL.z_is_i_str, ↓DL.z_is_i_tuple, ↓DL.z_is_i_list, ↓DL.z_is_b_bool, ↓DL.z_is_b_int, ↓DL.z_is_b_str, ↓DL.z_is_b_tuple, ↓DL.z_is_b_list, ↓DL.z_is_s_bool, ↓DL.z_is_s_int, ↓DL.z_is_s_str, ↓DL.z_is_s_tuple, ↓DL.z_is_s_list, ↓DL.z_is_l_bool, ↓DL.z_is_l_int, ↓DL.z_is_l_str, ↓DL.z_is_l_tuple, ↓DL.z_is_l_list, ↓DL.z_is_t_bool, ↓DL.z_is_t_int, ↓DL.z_is_t_str, ↓DL.z_is_t_tuple, ↓DL.z_is_t_list, ↓DL.z_is_n_bool, ↓DL.z_is_n_int, ↓DL.z_is_n_str, ↓DL.z_is_n_tuple, ↓DL.z_is_n_list, ↓DL.z_gslc, ↓DL.z_sc0, ↓DL.z_listO, ↓DL.z_lol, ↓DL.z_lot, ↓DL.z_fsum, ↓DL.z_own1, ↓DL.z_glen, ↓DL.z_gall, ↓DL.z_ixown, ↓DL.z_listG, ↓DL.z_ownit, ↓DL.z_fld, ↓DL.z_fz, ↓DL.z_fzs, ↓DL.z_xisi, ↓DL.z_xi, ↓DL.z_xval, ↓DL.z_xv, ↓DL.z_ixm, ↓DL.z_lm, ↓dTrim, ↓dLc, ↓dLcO, ↓dEnds, ↓z_gd1, ↓z_gd2, ↓z_gd3, ↓z_gdi, ↓z_gdo, slots, ↓reduceIte, decide_eq_true_eq, Bool.false_eq_true, Bool.not_true, Bool.not_false, decide_true, decide_false, Int.reduceEq, Int.reduceSub, Int.reduceAdd, Int.reduceLT, Int.reduceNeg, and_self, true_and, and_true]
  refine ⟨p, cells, i, a, b, c, _, rfl, rfl, by omega, log9 (by omega), fun r i' a' b' c' r0 r1 => ?_⟩
  obtain ⟨n, hn⟩ : ∃ n : Nat, (r + 1) % ((t : Int) + 1) = n := ⟨((r + 1) % ((t : Int) + 1)).toNat, (Int.toNat_of_nonneg (Int.emod_nonneg _ (by omega))).symm⟩
  have hnt : (n : Int) < t + 1 := by rw [← hn]; exact Int.emod_lt_of_pos _ (by omega)
  simp only [List.map_cons, List.map_nil, List.length_cons, List.length_nil, Nat.reduceSub, Nat.reduceAdd, Nat.zero_add, Nat.sub_self, List.replicate, List.cons_append, List.nil_append, List.append_nil, List.set_cons_zero, List.set_cons_succ, List.take_succ_cons, List.take_zero, List.drop_zero, List.drop_succ_cons, List.drop_nil, List.take_nil, Nat.reduceLeDiff, ↓DL.z_var0, ↓DL.z_varS, ↓DL.z_name0, ↓DL.z_nameS, ↓DL.z_c, ↓DL.z_seq, ↓DL.z_next, ↓DL.z_if, ↓DL.z_asg, ↓DL.z_ret, ↓DL.z_drop, ↓DL.z_val, ↓DL.z_bl, ↓DL.z_and, ↓DL.z_or, ↓DL.z_not, ↓DL.z_bin, ↓DL.z_cb, ↓DL.z_nil, ↓DL.z_cons, ↓DL.z_i0, ↓DL.z_i, ↓DL.z_mul, ↓DL.z_add, ↓DL.z_lt, ↓DL.z_le, ↓DL.z_gt, ↓DL.z_ge, ↓DL.z_eq, ↓DL.z_ne, ↓DL.z_len, ↓DL.z_lens, ↓DL.z_int, ↓DL.z_intb, ↓DL.z_ixO, ↓DL.z_ix0, ↓DL.z_ix1, ↓DL.z_ix2, ↓DL.z_ix3, ↓DL.z_ix4, ↓DL.z_gsub, ↓DL.z_sub1, ↓DL.z_sub2, ↓DL.z_sub3, ↓DL.z_sub4, ↓DL.z_for, ↓DL.z_itA, ↓DL.z_any, ↓DL.z_itl, ↓DL.z_itt, ↓DL.z_its, ↓DL.z_lcg, ↓DL.z_yes, ↓DL.z_ifx, ↓DL.z_tup, ↓DL.z_lst, ↓DL.z_lstO, ↓DL.z_nop, ↓DL.z_part, ↓DL.z_pa, ↓DL.z_slx, ↓DL.z_sll, ↓DL.z_slt, ↓DL.z_sls, ↓DL.z_chain, ↓DL.z_ch, ↓DL.z_andv, ↓DL.z_orv, ↓DL.z_fnot, ↓DL.z_un, ↓DL.z_neg, ↓DL.z_call, ↓DL.z_prop, ↓DL.z_meth, ↓DL.z_make, ↓DL.z_obj, ↓DL.z_fl, ↓DL.z_flt, ↓DL.z_flf, ↓DL.z_ft, ↓DL.z_ftt, ↓DL.z_lent, ↓DL.z_adds, ↓DL.z_addl, ↓DL.z_addt, ↓DL.z_eqs, ↓DL.z_nes, ↓DL.z_eqb, ↓DL.z_eqn, ↓DL.z_eql, ↓DL.z_nel, ↓DL.z_isn, ↓DL.z_isnn, ↓DL.z_ins, ↓DL.z_nins, ↓DL.z_ixt, ↓DL.z_l0, ↓DL.z_l1, ↓DL.z_l2, ↓DL.z_rng, ↓DL.z_enl, ↓DL.z_ent, ↓DL.z_gtup, ↓DL.z_gcons, ↓DL.z_gnil, ↓DL.z_wipe0, ↓DL.z_wipe, ↓DL.z_mt, ↓DL.z_ty0, ↓DL.z_ty1, ↓DL.z_app0, ↓DL.z_app1, ↓DL.z_raise, ↓DL.z_ra, ↓DL.z_is_i_bool, ↓DL.z_is_i_int, ↓DL.z_is_i_str, ↓DL.z_is_i_tuple, ↓DL.z_is_i_list, ↓DL.z_is_b_bool, ↓DL.z_is_b_int, ↓DL.z_is_b_str, ↓DL.z_is_b_tuple, ↓DL.z_is_b_list, ↓DL.z_is_s_bool, ↓DL.z_is_s_int, ↓DL.z_is_s_str, ↓DL.z_is_s_tuple, ↓DL.z_is_s_list, ↓DL.z_is_l_bool, ↓DL.z_is_l_int, ↓DL.z_is_l_str, ↓DL.z_is_l_tuple, ↓DL.z_is_l_list, ↓DL.z_is_t_bool, ↓DL.z_is_t_int, ↓DL.z_is_t_str, ↓DL.z_is_t_tuple, ↓DL.z_is_t_list, ↓DL.z_is_n_bool, ↓DL.z_is_n_int, ↓DL.z_is_n_str, ↓DL.z_is_n_tuple, ↓DL.z_is_n_list, ↓DL.z_gslc, ↓DL.z_sc0, ↓DL.z_listO, ↓DL.z_lol, ↓DL.z_lot, ↓DL.z_fsum, ↓DL.z_own1, ↓DL.z_glen, ↓DL.z_gall, ↓DL.z_ixown, ↓DL.z_listG, ↓DL.z_ownit, ↓DL.z_fld, ↓DL.z_fz, ↓DL.z_fzs, ↓DL.z_xisi, ↓DL.z_xi, ↓DL.z_xval, ↓DL.z_xv, ↓DL.z_ixm, ↓DL.z_lm, ↓dTrim, ↓dLc, ↓dLcO, ↓dEnds, ↓z_gd1, ↓z_gd2, ↓z_gd3, ↓z_gdi, ↓z_gdo, slots, ↓reduceIte, decide_eq_true_eq, Bool.false_eq_true, Bool.not_true, Bool.not_false, decide_true, decide_false, Int.reduceEq, Int.reduceSub, Int.reduceAdd, Int.reduceLT, Int.reduceNeg, and_self, true_and, and_true, ↓hn]
  refine ⟨by omega, by omega, by rw [rng_length]; omega, fun k acc μ' => ∃ ws i' a' b' c', μ' = [(p, .lst (stD cells i' a' b' c'))] ∧ acc = ws.map D.str ∧ wordsOf signs 1 z ws ∧ ws.length = k,
    ⟨[], _, _, _, _, rfl, rfl, (fun _ h => by cases h), rfl⟩, ?_, ?_⟩
  · rintro k d acc μ' hd _ ⟨ws, i', a', b', c', rfl, rfl, hw, rfl⟩
    simp only [List.map_cons, List.map_nil, List.length_cons, List.length_nil, Nat.reduceSub, Nat.reduceAdd, Nat.zero_add, Nat.sub_self, List.replicate, List.cons_append, List.nil_append, List.append_nil, List.set_cons_zero, List.set_cons_succ, List.take_succ_cons, List.take_zero, List.drop_zero, List.drop_succ_cons, List.drop_nil, List.take_nil, Nat.reduceLeDiff, ↓DL.z_var0, ↓DL.z_varS, ↓DL.z_name0, ↓DL.z_nameS, ↓DL.z_c, ↓DL.z_seq, ↓DL.z_next, ↓DL.z_if, ↓DL.z_asg, ↓DL.z_ret, ↓DL.z_drop, ↓DL.z_val, ↓DL.z_bl, ↓DL.z_and, ↓DL.z_or, ↓DL.z_not, ↓DL.z_bin, ↓DL.z_cb, ↓DL.z_nil, ↓DL.z_cons, ↓DL.z_i0, ↓DL.z_i, ↓DL.z_mul, ↓DL.z_add, ↓DL.z_lt, ↓DL.z_le, ↓DL.z_gt, ↓DL.z_ge, ↓DL.z_eq, ↓DL.z_ne, ↓DL.z_len, ↓DL.z_lens, ↓DL.z_int, ↓DL.z_intb, ↓DL.z_ixO, ↓DL.z_ix0, ↓DL.z_ix1, ↓DL.z_ix2, ↓DL.z_ix3, ↓DL.z_ix4, ↓DL.z_gsub, ↓DL.z_sub1, ↓DL.z_sub2, ↓DL.z_sub3, ↓DL.z_sub4, ↓DL.z_for, ↓DL.z_itA, ↓DL.z_any, ↓DL.z_itl, ↓DL.z_itt, ↓DL.z_its, ↓DL.z_lcg, ↓DL.z_yes, ↓DL.z_ifx, ↓DL.z_tup, ↓DL.z_lst, ↓DL.z_lstO, ↓DL.z_nop, ↓DL.z_part, ↓DL.z_pa, ↓DL.z_slx, ↓DL.z_sll, ↓DL.z_slt, ↓DL.z_sls, ↓DL.z_chain, ↓DL.z_ch, ↓DL.z_andv, ↓DL.z_orv, ↓DL.z_fnot, ↓DL.z_un, ↓DL.z_neg, ↓DL.z_call, ↓DL.z_prop, ↓DL.z_meth, ↓DL.z_make, ↓DL.z_obj, ↓DL.z_fl, ↓DL.z_flt, ↓DL.z_flf, ↓DL.z_ft, ↓DL.z_ftt, ↓DL.z_lent, ↓DL.z_adds, ↓DL.z_addl, ↓DL.z_addt, ↓DL.z_eqs, ↓DL.z_nes, ↓DL.z_eqb, ↓DL.z_eqn, ↓DL.z_eql, ↓DL.z_nel, ↓DL.z_isn, ↓DL.z_isnn, ↓DL.z_ins, ↓DL.z_nins, ↓DL.z_ixt, ↓DL.z_l0, ↓DL.z_l1, ↓DL.z_l2, ↓DL.z_rng, ↓DL.z_enl, ↓DL.z_ent, ↓DL.z_gtup, ↓DL.z_gcons, ↓DL.z_gnil, ↓DL.z_wipe0, ↓DL.z_wipe, ↓DL.z_mt, ↓DL.z_ty0, ↓DL.z_ty1, ↓DL.z_app0, ↓DL.z_app1, ↓DL.z_raise, ↓DL.z_ra, ↓DL.z_is_i_bool, ↓DL.z_is_i_int, ↓DL.z_is_i_str, ↓DL.z_is_i_tuple, ↓DL.z_is_i_list, ↓DL.z_is_b_bool, ↓DL.z_is_b_int, ↓DL.z_is_b_str, ↓DL.z_is_b_tuple, ↓DL.z_is_b_list, ↓DL.z_is_s_bool, ↓DL.z_is_s_int, ↓DL.z_is_s_str, ↓DL.z_is_s_tuple, ↓DL.z_is_s_list, ↓DL.z_is_l_bool, ↓DL.z_is_l_int, ↓DL.z_is_l_str, ↓DL.z_is_l_tuple, ↓DL.z_is_l_list, ↓DL.z_is_t_bool, ↓DL.z_is_t_int, ↓DL.z_is_t_str, ↓DL.z_is_t_tuple, ↓DL.z_is_t_list, ↓DL.z_is_n_bool, ↓DL.z_is_n_int, ↓DL.z_is_n_str, ↓DL.z_is_n_tuple, ↓DL.z_is_n_list, ↓DL.z_gslc, ↓DL.z_sc0, ↓DL.z_listO, ↓DL.z_lol, ↓DL.z_lot, ↓DL.z_fsum, ↓DL.z_own1, ↓DL.z_glen, ↓DL.z_gall, ↓DL.z_ixown, ↓DL.z_listG, ↓DL.z_ownit, ↓DL.z_fld, ↓DL.z_fz, ↓DL.z_fzs, ↓DL.z_xisi, ↓DL.z_xi, ↓DL.z_xval, ↓DL.z_xv, ↓DL.z_ixm, ↓DL.z_lm, ↓dTrim, ↓dLc, ↓dLcO, ↓dEnds, ↓z_gd1, ↓z_gd2, ↓z_gd3, ↓z_gdi, ↓z_gdo, slots, ↓reduceIte, decide_eq_true_eq, Bool.false_eq_true, Bool.not_true, Bool.not_false, decide_true, decide_false, Int.reduceEq, Int.reduceSub, Int.reduceAdd, Int.reduceLT, Int.reduceNeg, and_self, true_and, and_true]
    refine ⟨p, cells, i', a', b', c', signs, 1, z, rfl, rfl, h1, h2, h3, h4, fun w i' a' b' c' w0 w1 w2 => ?_⟩
    simp only [List.map_cons, List.map_nil, List.length_cons, List.length_nil, Nat.reduceSub, Nat.reduceAdd, Nat.zero_add, Nat.sub_self, List.replicate, List.cons_append, List.nil_append, List.append_nil, List.set_cons_zero, List.set_cons_succ, List.take_succ_cons, List.take_zero, List.drop_zero, List.drop_succ_cons, List.drop_nil, List.take_nil, Nat.reduceLeDiff, ↓DL.z_var0, ↓DL.z_varS, ↓DL.z_name0, ↓DL.z_nameS, ↓DL.z_c, ↓DL.z_seq, ↓DL.z_next, ↓DL.z_if, ↓DL.z_asg, ↓DL.z_ret, ↓DL.z_drop, ↓DL.z_val, ↓DL.z_bl, ↓DL.z_and, ↓DL.z_or, ↓DL.z_not, ↓DL.z_bin, ↓DL.z_cb, ↓DL.z_nil, ↓DL.z_cons, ↓DL.z_i0, ↓DL.z_i, ↓DL.z_mul, ↓DL.z_add, ↓DL.z_lt, ↓DL.z_le, ↓DL.z_gt, ↓DL.z_ge, ↓DL.z_eq, ↓DL.z_ne, ↓DL.z_len, ↓DL.z_lens, ↓DL.z_int, ↓DL.z_intb, ↓DL.z_ixO, ↓DL.z_ix0, ↓DL.z_ix1, ↓DL.z_ix2, ↓DL.z_ix3, ↓DL.z_ix4, ↓DL.z_gsub, ↓DL.z_sub1, ↓DL.z_sub2, ↓DL.z_sub3, ↓DL.z_sub4, ↓DL.z_for, ↓DL.z_itA, ↓DL.z_any, ↓DL.z_itl, ↓DL.z_itt, ↓DL.z_its, ↓DL.z_lcg, ↓DL.z_yes, ↓DL.z_ifx, ↓DL.z_tup, ↓DL.z_lst, ↓DL.z_lstO, ↓DL.z_nop, ↓DL.z_part, ↓DL.z_pa, ↓DL.z_slx, ↓DL.z_sll, ↓DL.z_slt, ↓DL.z_sls, ↓DL.z_chain, ↓DL.z_ch, ↓DL.z_andv, ↓DL.z_orv, ↓DL.z_fnot, ↓DL.z_un, ↓DL.z_neg, ↓DL.z_call, ↓DL.z_prop, ↓DL.z_meth, ↓DL.z_make, ↓DL.z_obj, ↓DL.z_fl, ↓DL.z_flt, ↓DL.z_flf, ↓DL.z_ft, ↓DL.z_ftt, ↓DL.z_lent, ↓DL.z_adds, ↓DL.z_addl, ↓DL.z_addt, ↓DL.z_eqs, ↓DL.z_nes, ↓DL.z_eqb, ↓DL.z_eqn, ↓DL.z_eql, ↓DL.z_nel, ↓DL.z_isn, ↓DL.z_isnn, ↓DL.z_ins, ↓DL.z_nins, ↓DL.z_ixt, ↓DL.z_l0, ↓DL.z_l1, ↓DL.z_l2, ↓DL.z_rng, ↓DL.z_enl, ↓DL.z_ent, ↓DL.z_gtup, ↓DL.z_gcons, ↓DL.z_gnil, ↓DL.z_wipe0, ↓DL.z_wipe, ↓DL.z_mt, ↓DL.z_ty0, ↓DL.z_ty1, ↓DL.z_app0, ↓DL.z_app1, ↓DL.z_raise, ↓DL.z_ra, ↓DL.z_is_i_bool, ↓DL.z_is_i_int, ↓DL.z_is_i_str, ↓DL.z_is_i_tuple, ↓DL.z_is_i_list, ↓DL.z_is_b_bool, ↓DL.z_is_b_int, ↓DL.z_is_b_str, ↓DL.z_is_b_tuple, ↓DL.z_is_b_list, ↓DL.z_is_s_bool, ↓DL.z_is_s_int, ↓DL.z_is_s_str, ↓DL.z_is_s_tuple, ↓DL.z_is_s_list, ↓DL.z_is_l_bool, ↓DL.z_is_l_int, ↓DL.z_is_l_str, ↓DL.z_is_l_tuple, ↓DL.z_is_l_list, ↓DL.z_is_t_bool, ↓DL.z_is_t_int, ↓DL.z_is_t_str, ↓DL.z_is_t_tuple, ↓DL.z_is_t_list, ↓DL.z_is_n_bool, ↓DL.z_is_n_int, ↓DL.z_is_n_str, ↓DL.z_is_n_tuple, ↓DL.z_is_n_list, ↓DL.z_gslc, ↓DL.z_sc0, ↓DL.z_listO, ↓DL.z_lol, ↓DL.z_lot, ↓DL.z_fsum, ↓DL.z_own1, ↓DL.z_glen, ↓DL.z_gall, ↓DL.z_ixown, ↓DL.z_listG, ↓DL.z_ownit, ↓DL.z_fld, ↓DL.z_fz, ↓DL.z_fzs, ↓DL.z_xisi, ↓DL.z_xi, ↓DL.z_xval, ↓DL.z_xv, ↓DL.z_ixm, ↓DL.z_lm, ↓dTrim, ↓dLc, ↓dLcO, ↓dEnds, ↓z_gd1, ↓z_gd2, ↓z_gd3, ↓z_gdi, ↓z_gdo, slots, ↓reduceIte, decide_eq_true_eq, Bool.false_eq_true, Bool.not_true, Bool.not_false, decide_true, decide_false, Int.reduceEq, Int.reduceSub, Int.reduceAdd, Int.reduceLT, Int.reduceNeg, and_self, true_and, and_true]
    refine ⟨ws ++ [w], _, _, _, _, rfl, by simp, ?_, by simp⟩
    intro y hy
    rcases List.mem_append.mp hy with hy | hy
    · exact hw y hy
    · rw [List.mem_singleton.mp hy]; exact ⟨w0, w1, w2⟩
  · rintro acc μ' _ ⟨ws, i', a', b', c', rfl, rfl, hw, h6⟩
    rw [rng_length] at h6
    exact hq ws _ _ _ _ hw (by omega)
theorem sc_law_joins : FnScope ["state", "row", "groups", "top", "joins", "end", "k", "group", "way", "gap", "last", "word"] ["state", "row", "groups", "top"] (defScope (top 22)) := ⟨rfl, rfl, rfl, by decide +kernel, rfl, by decide +kernel, by decide +kernel⟩
theorem ok_law_joins (fx : Fx K mg C Dd) (h_law_draw : FDa P w K mg base C "_law_draw" 1 2 [] (df_law_draw)) (F : FunD K "_law_joins" "_law_joins" (defArgs (top 22)) (defBody (top 22)) (defScope (top 22)) [] [] fa fd) : FnOk P w K mg base (L2.CX P w) (1 + 1) fa fd ["state", "row", "groups", "top"] (spOf C K 4 (df_law_joins)) := by
  refine okD (k := 1) F sc_law_joins (fun cdv A outer s H E hr tk => (ss_cons (s_set 4 sc_law_joins.nd (e_lstO a_nil)) (ss_cons (s_set 5 sc_law_joins.nd (e_var 1)) (ss_cons (s_if (t_cmp (o_eq (un64 hr)) (e_var 2) (e_lst a_nil)) (ss_one (s_ret (e_lst (a_cons (e_fz (e_var 4)) (a_cons (e_var 5) a_nil))))) ss_nil) (ss_cons (s_for PassesOwn.leaving rfl (i_rng1 fx.range (a_cons (e_call 1 h_law_draw (hr.mono (by decide)) tk (a_cons (e_var 0) (a_cons (e_op o_add (e_var 3) e_int) a_nil))) a_nil)) (g_name 6 sc_law_joins.nd) (ss_cons (s_set 7 sc_law_joins.nd (e_ix (e_var 2) (e_call 1 h_law_draw (hr.mono (by decide)) tk (a_cons (e_var 0) (a_cons (e_bi c_len fx.len (by decide +kernel) (a_cons (e_var 2) a_nil)) a_nil))))) (ss_cons (s_set 8 sc_law_joins.nd (e_call 1 h_law_draw (hr.mono (by decide)) tk (a_cons (e_var 0) (a_cons e_int a_nil)))) (ss_cons (s_set 9 sc_law_joins.nd (e_call 1 h_law_draw (hr.mono (by decide)) tk (a_cons (e_var 0) (a_cons (e_op o_add (e_bi c_len fx.len (by decide +kernel) (a_cons (e_var 5) a_nil)) e_int) a_nil)))) (ss_cons (s_if (DPW.t (w_and (t_cmp o_gt (e_var 6) e_int) (w_and1 (t_cmp o_gt (e_var 8) e_int)))) (ss_cons (s_asg (e_ixO 1 (e_var 4) (e_op o_sub (e_var 6) e_int)) (g_tup (n := 2) rfl (gs_cons (g_name 10 sc_law_joins.nd) (gs_cons (g_name 11 sc_law_joins.nd) gs_nil)))) (ss_one (s_if (t_cmp (o_eq (un64 hr)) (e_var 8) e_int) (ss_one (s_set 9 sc_law_joins.nd (e_var 10))) (ss_one (s_if (t_cmp (o_eq (un64 hr)) (e_var 8) e_int) (ss_one (s_set 9 sc_law_joins.nd (e_op o_add (e_var 10) (e_bi c_len fx.len (by decide +kernel) (a_cons (e_var 11) a_nil))))) (ss_one (s_if (t_cmp o_gt (e_bi c_len fx.len (by decide +kernel) (a_cons (e_var 11) a_nil)) e_int) (ss_one (s_set 9 sc_law_joins.nd (e_op o_add (e_op o_add (e_var 10) e_int) (e_op o_mod (e_var 9) (e_op o_sub (e_bi c_len fx.len (by decide +kernel) (a_cons (e_var 11) a_nil)) e_int))))) ss_nil))))))) ss_nil) (ss_cons (s_expr (e_app 1 (e_var 4) (a_cons (e_tup (a_cons (e_var 9) (a_cons (e_var 7) a_nil))) a_nil))) (ss_one (s_set 5 sc_law_joins.nd (e_op o_add (e_op o_add (e_sl (e_var 5) o_none (o_some (e_var 9))) (e_var 7)) (e_sl (e_var 5) (o_some (e_var 9)) o_none)))))))))) (ss_one (s_ret (e_lst (a_cons (e_fz (e_var 4)) (a_cons (e_var 5) a_nil)))))))))) ?_
  intro ds μ Q R hl h
  obtain ⟨p, cells, i, a, b, c, row, gs, t, z, rfl, rfl, h1, h2, h3, h4, h5, h6, hq⟩ := h
  have hl1 : 1 ≤ gs.length := by cases gs with
    | nil => exact absurd rfl h2
    | cons => simp
  simp only [List.map_cons, List.map_nil, List.length_cons, List.length_nil, Nat.reduceSub, Nat.reduceAdd, Nat.zero_add, Nat.sub_self, List.replicate, List.cons_append, List.nil_append, List.append_nil, List.set_cons_zero, List.set_cons_succ, List.take_succ_cons, List.take_zero, List.drop_zero, List.drop_succ_cons, List.drop_nil, List.take_nil, Nat.reduceLeDiff, ↓DL.z_var0, ↓DL.z_varS, ↓DL.z_name0, ↓DL.z_nameS, ↓DL.z_c, ↓DL.z_seq, ↓DL.z_next, ↓DL.z_if, ↓DL.z_asg, ↓DL.z_ret, ↓DL.z_drop, ↓DL.z_val, ↓DL.z_bl, ↓DL.z_and, ↓DL.z_or, ↓DL.z_not, ↓DL.z_bin, ↓DL.z_cb, ↓DL.z_nil, ↓DL.z_cons, ↓DL.z_i0, ↓DL.z_i, ↓DL.z_mul, ↓DL.z_add, ↓DL.z_lt, ↓DL.z_le, ↓DL.z_gt, ↓DL.z_ge, ↓DL.z_eq, ↓DL.z_ne, ↓DL.z_len, ↓DL.z_lens, ↓DL.z_int, ↓DL.z_intb, ↓DL.z_ixO, ↓DL.z_ix0, ↓DL.z_ix1, ↓DL.z_ix2, ↓DL.z_ix3, ↓DL.z_ix4, ↓DL.z_gsub, ↓DL.z_sub1, ↓DL.z_sub2, ↓DL.z_sub3, ↓DL.z_sub4, ↓DL.z_for, ↓DL.z_itA, ↓DL.z_any, ↓DL.z_itl, ↓DL.z_itt, ↓DL.z_its, ↓DL.z_lcg, ↓DL.z_yes, ↓DL.z_ifx, ↓DL.z_tup, ↓DL.z_lst, ↓DL.z_lstO, ↓DL.z_nop, ↓DL.z_part, ↓DL.z_pa, ↓DL.z_slx, ↓DL.z_sll, ↓DL.z_slt, ↓DL.z_sls, ↓DL.z_chain, ↓DL.z_ch, ↓DL.z_andv, ↓DL.z_orv, ↓DL.z_fnot, ↓DL.z_un, ↓DL.z_neg, ↓DL.z_call, ↓DL.z_prop, ↓DL.z_meth, ↓DL.z_make, ↓DL.z_obj, ↓DL.z_fl, ↓DL.z_flt, ↓DL.z_flf, ↓DL.z_ft, ↓DL.z_ftt, ↓DL.z_lent, ↓DL.z_adds, ↓DL.z_addl, ↓DL.z_addt, ↓DL.z_eqs, ↓DL.z_nes, ↓DL.z_eqb, ↓DL.z_eqn, ↓DL.z_eql, ↓DL.z_nel, ↓DL.z_isn, ↓DL.z_isnn, ↓DL.z_ins, ↓DL.z_nins, ↓DL.z_ixt, ↓DL.z_l0, ↓DL.z_l1, ↓DL.z_l2, ↓DL.z_rng, ↓DL.z_enl, ↓DL.z_ent, ↓DL.z_gtup, ↓DL.z_gcons, ↓DL.z_gnil, ↓DL.z_wipe0, ↓DL.z_wipe, ↓DL.z_mt, ↓DL.z_ty0, ↓DL.z_ty1, ↓DL.z_app0, ↓DL.z_app1, ↓DL.z_raise, ↓DL.z_ra, ↓DL.z_is_i_bool, ↓DL.z_is_i_int, ↓DL.z_is_i_str, ↓DL.z_is_i_tuple, ↓DL.z_is_i_list, ↓DL.z_is_b_bool, ↓DL.z_is_b_int, ↓DL.z_is_b_str, ↓DL.z_is_b_tuple, ↓DL.z_is_b_list, ↓DL.z_is_s_bool, ↓DL.z_is_s_int, ↓DL.z_is_s_str, ↓DL.z_is_s_tuple, ↓DL.z_is_s_list, ↓DL.z_is_l_bool, ↓DL.z_is_l_int, ↓DL.z_is_l_str, ↓DL.z_is_l_tuple, ↓DL.z_is_l_list, ↓DL.z_is_t_bool, ↓DL.z_is_t_int, ↓DL.z_is_t_str, ↓DL.z_is_t_tuple, ↓DL.z_is_t_list, ↓DL.z_is_n_bool, ↓DL.z_is_n_int, ↓DL.z_is_n_str, ↓DL.z_is_n_tuple, ↓DL.z_is_n_list, ↓DL.z_gslc, ↓DL.z_sc0, ↓DL.z_listO, ↓DL.z_lol, ↓DL.z_lot, ↓DL.z_fsum, ↓DL.z_own1, ↓DL.z_glen, ↓DL.z_gall, ↓DL.z_ixown, ↓DL.z_listG, ↓DL.z_ownit, ↓DL.z_fld, ↓DL.z_fz, ↓DL.z_fzs, ↓DL.z_xisi, ↓DL.z_xi, ↓DL.z_xval, ↓DL.z_xv, ↓DL.z_ixm, ↓DL.z_lm, ↓dTrim, ↓dLc, ↓dLcO, ↓dEnds, ↓z_gd1, ↓z_gd2, ↓z_gd3, ↓z_gdi, ↓z_gdo, slots, ↓reduceIte, decide_eq_true_eq, Bool.false_eq_true, Bool.not_true, Bool.not_false, decide_true, decide_false, Int.reduceEq, Int.reduceSub, Int.reduceAdd, Int.reduceLT, Int.reduceNeg, and_self, true_and, and_true]
  intro q
  have hne : gs.map D.str ≠ [] := by simpa using h2
  refine ⟨strs_plain id gs, rfl, Nat.le_trans (strs_depth id gs) (by omega), by decide +kernel, ?_⟩
  rw [lst_nil]
  simp only [hne, decide_false, Bool.false_eq_true, if_false]
  refine ⟨p, cells, i, a, b, c, _, rfl, rfl, by omega, log9 (by omega), fun r i' a' b' c' r0 r1 => ?_⟩
  obtain ⟨n, rfl⟩ := Int.eq_ofNat_of_zero_le r0
  simp only [List.map_cons, List.map_nil, List.length_cons, List.length_nil, Nat.reduceSub, Nat.reduceAdd, Nat.zero_add, Nat.sub_self, List.replicate, List.cons_append, List.nil_append, List.append_nil, List.set_cons_zero, List.set_cons_succ, List.take_succ_cons, List.take_zero, List.drop_zero, List.drop_succ_cons, List.drop_nil, List.take_nil, Nat.reduceLeDiff, ↓DL.z_var0, ↓DL.z_varS, ↓DL.z_name0, ↓DL.z_nameS, ↓DL.z_c, ↓DL.z_seq, ↓DL.z_next, ↓DL.z_if, ↓DL.z_asg, ↓DL.z_ret, ↓DL.z_drop, ↓DL.z_val, ↓DL.z_bl, ↓DL.z_and, ↓DL.z_or, ↓DL.z_not, ↓DL.z_bin, ↓DL.z_cb, ↓DL.z_nil, ↓DL.z_cons, ↓DL.z_i0, ↓DL.z_i, ↓DL.z_mul, ↓DL.z_add, ↓DL.z_lt, ↓DL.z_le, ↓DL.z_gt, ↓DL.z_ge, ↓DL.z_eq, ↓DL.z_ne, ↓DL.z_len, ↓DL.z_lens, ↓DL.z_int, ↓DL.z_intb, ↓DL.z_ixO, ↓DL.z_ix0, ↓DL.z_ix1, ↓DL.z_ix2, ↓DL.z_ix3, ↓DL.z_ix4, ↓DL.z_gsub, ↓DL.z_sub1, ↓DL.z_sub2, ↓DL.z_sub3, ↓DL.z_sub4, ↓DL.z_for, ↓DL.z_itA, ↓DL.z_any, ↓DL.z_itl, ↓DL.z_itt, ↓DL.z_its, ↓DL.z_lcg, ↓DL.z_yes, ↓DL.z_ifx, ↓DL.z_tup, ↓DL.z_lst, ↓DL.z_lstO, ↓DL.z_nop, ↓DL.z_part, ↓DL.z_pa, ↓DL.z_slx, ↓DL.z_sll, ↓DL.z_slt, ↓DL.z_sls, ↓DL.z_chain, ↓DL.z_ch, ↓DL.z_andv, ↓DL.z_orv, ↓DL.z_fnot, ↓DL.z_un, ↓DL.z_neg, ↓DL.z_call, ↓DL.z_prop, ↓DL.z_meth, ↓DL.z_make, ↓DL.z_obj, ↓DL.z_fl, ↓DL.z_flt, ↓DL.z_flf, ↓DL.z_ft, ↓DL.z_ftt, ↓DL.z_lent, ↓DL.z_adds, ↓DL.z_addl, ↓DL.z_addt, ↓DL.z_eqs, ↓DL.z_nes, ↓DL.z_eqb, ↓DL.z_eqn, ↓DL.z_eql, ↓DL.z_nel, ↓DL.z_isn, ↓DL.z_isnn, ↓DL.z_ins, ↓DL.z_nins, ↓DL.z_ixt, ↓DL.z_l0, ↓DL.z_l1, ↓DL.z_l2, ↓DL.z_rng, ↓DL.z_enl, ↓DL.z_ent, ↓DL.z_gtup, ↓DL.z_gcons, ↓DL.z_gnil, ↓DL.z_wipe0, ↓DL.z_wipe, ↓DL.z_mt, ↓DL.z_ty0, ↓DL.z_ty1, ↓DL.z_app0, ↓DL.z_app1, ↓DL.z_raise, ↓DL.z_ra, ↓DL.z_is_i_bool, ↓DL.z_is_i_int, ↓DL.z_is_i_str, ↓DL.z_is_i_tuple, ↓DL.z_is_i_list, ↓DL.z_is_b_bool, ↓DL.z_is_b_int, ↓DL.z_is_b_str, ↓DL.z_is_b_tuple, ↓DL.z_is_b_list, ↓DL.z_is_s_bool, ↓DL.z_is_s_int, ↓DL.z_is_s_str, ↓DL.z_is_s_tuple, ↓DL.z_is_s_list, ↓DL.z_is_l_bool, ↓DL.z_is_l_int, ↓DL.z_is_l_str, ↓DL.z_is_l_tuple, ↓DL.z_is_l_list, ↓DL.z_is_t_bool, ↓DL.z_is_t_int, ↓DL.z_is_t_str, ↓DL.z_is_t_tuple, ↓DL.z_is_t_list, ↓DL.z_is_n_bool, ↓DL.z_is_n_int, ↓DL.z_is_n_str, ↓DL.z_is_n_tuple, ↓DL.z_is_n_list, ↓DL.z_gslc, ↓DL.z_sc0, ↓DL.z_listO, ↓DL.z_lol, ↓DL.z_lot, ↓DL.z_fsum, ↓DL.z_own1, ↓DL.z_glen, ↓DL.z_gall, ↓DL.z_ixown, ↓DL.z_listG, ↓DL.z_ownit, ↓DL.z_fld, ↓DL.z_fz, ↓DL.z_fzs, ↓DL.z_xisi, ↓DL.z_xi, ↓DL.z_xval, ↓DL.z_xv, ↓DL.z_ixm, ↓DL.z_lm, ↓dTrim, ↓dLc, ↓dLcO, ↓dEnds, ↓z_gd1, ↓z_gd2, ↓z_gd3, ↓z_gdi, ↓z_gdo, slots, ↓reduceIte, decide_eq_true_eq, Bool.false_eq_true, Bool.not_true, Bool.not_false, decide_true, decide_false, Int.reduceEq, Int.reduceSub, Int.reduceAdd, Int.reduceLT, Int.reduceNeg, and_self, true_and, and_true]
  refine ⟨by omega, fun k δ μ' => ∃ js e u1 u2 u3 u4 u5 u6 i' a' b' c', μ' = [(p, .lst (stD cells i' a' b' c')), (q, .lst (jsD js))] ∧ play row js = .inr e ∧ js.length = k ∧ (∀ j ∈ js, 1 ≤ j.2.length ∧ j.2.length ≤ z ∧ isG j.2 = true) ∧ e.length ≤ row.length + k * 10 ∧
      δ = [some (.adr p), some (.str row), some (.lst (gs.map D.str)), some (.int t), some (.adr q), some (.str e), u1, u2, u3, u4, u5, u6],
    ⟨[], row, _, _, _, _, _, _, _, _, _, _, rfl, rfl, rfl, (fun _ h => by cases h), by omega, rfl⟩, ?_, ?_⟩
  · rintro k d δ μ' hd ⟨js, e, u1, u2, u3, u4, u5, u6, i', a', b', c', rfl, hp, hk, hj, he, rfl⟩
    obtain ⟨h7, rfl⟩ := rng_get hd
    simp only [List.map_cons, List.map_nil, List.length_cons, List.length_nil, Nat.reduceSub, Nat.reduceAdd, Nat.zero_add, Nat.sub_self, List.replicate, List.cons_append, List.nil_append, List.append_nil, List.set_cons_zero, List.set_cons_succ, List.take_succ_cons, List.take_zero, List.drop_zero, List.drop_succ_cons, List.drop_nil, List.take_nil, Nat.reduceLeDiff, ↓DL.z_var0, ↓DL.z_varS, ↓DL.z_name0, ↓DL.z_nameS, ↓DL.z_c, ↓DL.z_seq, ↓DL.z_next, ↓DL.z_if, ↓DL.z_asg, ↓DL.z_ret, ↓DL.z_drop, ↓DL.z_val, ↓DL.z_bl, ↓DL.z_and, ↓DL.z_or, ↓DL.z_not, ↓DL.z_bin, ↓DL.z_cb, ↓DL.z_nil, ↓DL.z_cons, ↓DL.z_i0, ↓DL.z_i, ↓DL.z_mul, ↓DL.z_add, ↓DL.z_lt, ↓DL.z_le, ↓DL.z_gt, ↓DL.z_ge, ↓DL.z_eq, ↓DL.z_ne, ↓DL.z_len, ↓DL.z_lens, ↓DL.z_int, ↓DL.z_intb, ↓DL.z_ixO, ↓DL.z_ix0, ↓DL.z_ix1, ↓DL.z_ix2, ↓DL.z_ix3, ↓DL.z_ix4, ↓DL.z_gsub, ↓DL.z_sub1, ↓DL.z_sub2, ↓DL.z_sub3, ↓DL.z_sub4, ↓DL.z_for, ↓DL.z_itA, ↓DL.z_any, ↓DL.z_itl, ↓DL.z_itt, ↓DL.z_its, ↓DL.z_lcg, ↓DL.z_yes, ↓DL.z_ifx, ↓DL.z_tup, ↓DL.z_lst, ↓DL.z_lstO, ↓DL.z_nop, ↓DL.z_part, ↓DL.z_pa, ↓DL.z_slx, ↓DL.z_sll, ↓DL.z_slt, ↓DL.z_sls, ↓DL.z_chain, ↓DL.z_ch, ↓DL.z_andv, ↓DL.z_orv, ↓DL.z_fnot, ↓DL.z_un, ↓DL.z_neg, ↓DL.z_call, ↓DL.z_prop, ↓DL.z_meth, ↓DL.z_make, ↓DL.z_obj, ↓DL.z_fl, ↓DL.z_flt, ↓DL.z_flf, ↓DL.z_ft, ↓DL.z_ftt, ↓DL.z_lent, ↓DL.z_adds, ↓DL.z_addl, ↓DL.z_addt, ↓DL.z_eqs, ↓DL.z_nes, ↓DL.z_eqb, ↓DL.z_eqn, ↓DL.z_eql, ↓DL.z_nel, ↓DL.z_isn, ↓DL.z_isnn, ↓DL.z_ins, ↓DL.z_nins, ↓DL.z_ixt, ↓DL.z_l0, ↓DL.z_l1, ↓DL.z_l2, ↓DL.z_rng, ↓DL.z_enl, ↓DL.z_ent, ↓DL.z_gtup, ↓DL.z_gcons, ↓DL.z_gnil, ↓DL.z_wipe0, ↓DL.z_wipe, ↓DL.z_mt, ↓DL.z_ty0, ↓DL.z_ty1, ↓DL.z_app0, ↓DL.z_app1, ↓DL.z_raise, ↓DL.z_ra, ↓DL.z_is_i_bool, ↓DL.z_is_i_int, ↓DL.z_is_i_str, ↓DL.z_is_i_tuple, ↓DL.z_is_i_list, ↓DL.z_is_b_bool, ↓DL.z_is_b_int, ↓DL.z_is_b_str, ↓DL.z_is_b_tuple, ↓DL.z_is_b_list, ↓DL.z_is_s_bool, ↓DL.z_is_s_int, ↓DL.z_is_s_str, ↓DL.z_is_s_tuple, ↓DL.z_is_s_list, ↓DL.z_is_l_bool, ↓DL.z_is_l_int, ↓DL.z_is_l_str, ↓DL.z_is_l_tuple, ↓DL.z_is_l_list, ↓DL.z_is_t_bool, ↓DL.z_is_t_int, ↓DL.z_is_t_str, ↓DL.z_is_t_tuple, ↓DL.z_is_t_list, ↓DL.z_is_n_bool, ↓DL.z_is_n_int, ↓DL.z_is_n_str, ↓DL.z_is_n_tuple, ↓DL.z_is_n_list, ↓DL.z_gslc, ↓DL.z_sc0, ↓DL.z_listO, ↓DL.z_lol, ↓DL.z_lot, ↓DL.z_fsum, ↓DL.z_own1, ↓DL.z_glen, ↓DL.z_gall, ↓DL.z_ixown, ↓DL.z_listG, ↓DL.z_ownit, ↓DL.z_fld, ↓DL.z_fz, ↓DL.z_fzs, ↓DL.z_xisi, ↓DL.z_xi, ↓DL.z_xval, ↓DL.z_xv, ↓DL.z_ixm, ↓DL.z_lm, ↓dTrim, ↓dLc, ↓dLcO, ↓dEnds, ↓z_gd1, ↓z_gd2, ↓z_gd3, ↓z_gdi, ↓z_gdo, slots, ↓reduceIte, decide_eq_true_eq, Bool.false_eq_true, Bool.not_true, Bool.not_false, decide_true, decide_false, Int.reduceEq, Int.reduceSub, Int.reduceAdd, Int.reduceLT, Int.reduceNeg, and_self, true_and, and_true]
    refine ⟨p, cells, i', a', b', c', _, rfl, rfl, by simp; omega, log9 (by simp; omega), fun r i' a' b' c' r0 r1 => ?_⟩
    obtain ⟨m, rfl⟩ := Int.eq_ofNat_of_zero_le r0
    obtain ⟨w, hw⟩ := ge_ (l := gs) (k := m) (by simpa using r1)
    have hw2 : (gs.map D.str)[m]? = some (.str w) := by simp [hw]
    simp only [List.map_cons, List.map_nil, List.length_cons, List.length_nil, Nat.reduceSub, Nat.reduceAdd, Nat.zero_add, Nat.sub_self, List.replicate, List.cons_append, List.nil_append, List.append_nil, List.set_cons_zero, List.set_cons_succ, List.take_succ_cons, List.take_zero, List.drop_zero, List.drop_succ_cons, List.drop_nil, List.take_nil, Nat.reduceLeDiff, ↓DL.z_var0, ↓DL.z_varS, ↓DL.z_name0, ↓DL.z_nameS, ↓DL.z_c, ↓DL.z_seq, ↓DL.z_next, ↓DL.z_if, ↓DL.z_asg, ↓DL.z_ret, ↓DL.z_drop, ↓DL.z_val, ↓DL.z_bl, ↓DL.z_and, ↓DL.z_or, ↓DL.z_not, ↓DL.z_bin, ↓DL.z_cb, ↓DL.z_nil, ↓DL.z_cons, ↓DL.z_i0, ↓DL.z_i, ↓DL.z_mul, ↓DL.z_add, ↓DL.z_lt, ↓DL.z_le, ↓DL.z_gt, ↓DL.z_ge, ↓DL.z_eq, ↓DL.z_ne, ↓DL.z_len, ↓DL.z_lens, ↓DL.z_int, ↓DL.z_intb, ↓DL.z_ixO, ↓DL.z_ix0, ↓DL.z_ix1, ↓DL.z_ix2, ↓DL.z_ix3, ↓DL.z_ix4, ↓DL.z_gsub, ↓DL.z_sub1, ↓DL.z_sub2, ↓DL.z_sub3, ↓DL.z_sub4, ↓DL.z_for, ↓DL.z_itA, ↓DL.z_any, ↓DL.z_itl, ↓DL.z_itt, ↓DL.z_its, ↓DL.z_lcg, ↓DL.z_yes, ↓DL.z_ifx, ↓DL.z_tup, ↓DL.z_lst, ↓DL.z_lstO, ↓DL.z_nop, ↓DL.z_part, ↓DL.z_pa, ↓DL.z_slx, ↓DL.z_sll, ↓DL.z_slt, ↓DL.z_sls, ↓DL.z_chain, ↓DL.z_ch, ↓DL.z_andv, ↓DL.z_orv, ↓DL.z_fnot, ↓DL.z_un, ↓DL.z_neg, ↓DL.z_call, ↓DL.z_prop, ↓DL.z_meth, ↓DL.z_make, ↓DL.z_obj, ↓DL.z_fl, ↓DL.z_flt, ↓DL.z_flf, ↓DL.z_ft, ↓DL.z_ftt, ↓DL.z_lent, ↓DL.z_adds, ↓DL.z_addl, ↓DL.z_addt, ↓DL.z_eqs, ↓DL.z_nes, ↓DL.z_eqb, ↓DL.z_eqn, ↓DL.z_eql, ↓DL.z_nel, ↓DL.z_isn, ↓DL.z_isnn, ↓DL.z_ins, ↓DL.z_nins, ↓DL.z_ixt, ↓DL.z_l0, ↓DL.z_l1, ↓DL.z_l2, ↓DL.z_rng, ↓DL.z_enl, ↓DL.z_ent, ↓DL.z_gtup, ↓DL.z_gcons, ↓DL.z_gnil, ↓DL.z_wipe0, ↓DL.z_wipe, ↓DL.z_mt, ↓DL.z_ty0, ↓DL.z_ty1, ↓DL.z_app0, ↓DL.z_app1, ↓DL.z_raise, ↓DL.z_ra, ↓DL.z_is_i_bool, ↓DL.z_is_i_int, ↓DL.z_is_i_str, ↓DL.z_is_i_tuple, ↓DL.z_is_i_list, ↓DL.z_is_b_bool, ↓DL.z_is_b_int, ↓DL.z_is_b_str, ↓DL.z_is_b_tuple, ↓DL.z_is_b_list, ↓DL.z_is_s_bool, ↓DL.z_is_s_int, ↓DL.z_is_s_str, ↓DL.z_is_s_tuple, ↓DL.z_is_s_list, ↓DL.z_is_l_bool, ↓DL.z_is_l_int, ↓DL.z_is_l_str, ↓DL.z_is_l_tuple, ↓DL.z_is_l_list, ↓DL.z_is_t_bool, ↓DL.z_is_t_int, ↓DL.z_is_t_str, ↓DL.z_is_t_tuple, ↓DL.z_is_t_list, ↓DL.z_is_n_bool, ↓DL.z_is_n_int, ↓DL.z_is_n_str, ↓DL.z_is_n_tuple, ↓DL.z_is_n_list, ↓DL.z_gslc, ↓DL.z_sc0, ↓DL.z_listO, ↓DL.z_lol, ↓DL.z_lot, ↓DL.z_fsum, ↓DL.z_own1, ↓DL.z_glen, ↓DL.z_gall, ↓DL.z_ixown, ↓DL.z_listG, ↓DL.z_ownit, ↓DL.z_fld, ↓DL.z_fz, ↓DL.z_fzs, ↓DL.z_xisi, ↓DL.z_xi, ↓DL.z_xval, ↓DL.z_xv, ↓DL.z_ixm, ↓DL.z_lm, ↓dTrim, ↓dLc, ↓dLcO, ↓dEnds, ↓z_gd1, ↓z_gd2, ↓z_gd3, ↓z_gdi, ↓z_gdo, slots, ↓reduceIte, decide_eq_true_eq, Bool.false_eq_true, Bool.not_true, Bool.not_false, decide_true, decide_false, Int.reduceEq, Int.reduceSub, Int.reduceAdd, Int.reduceLT, Int.reduceNeg, and_self, true_and, and_true, ↓z_ixn hw2]
    refine ⟨p, cells, i', a', b', c', _, rfl, rfl, by omega, log9 (by omega), fun y i' a' b' c' y0 y1 => ?_⟩
    simp only [List.map_cons, List.map_nil, List.length_cons, List.length_nil, Nat.reduceSub, Nat.reduceAdd, Nat.zero_add, Nat.sub_self, List.replicate, List.cons_append, List.nil_append, List.append_nil, List.set_cons_zero, List.set_cons_succ, List.take_succ_cons, List.take_zero, List.drop_zero, List.drop_succ_cons, List.drop_nil, List.take_nil, Nat.reduceLeDiff, ↓DL.z_var0, ↓DL.z_varS, ↓DL.z_name0, ↓DL.z_nameS, ↓DL.z_c, ↓DL.z_seq, ↓DL.z_next, ↓DL.z_if, ↓DL.z_asg, ↓DL.z_ret, ↓DL.z_drop, ↓DL.z_val, ↓DL.z_bl, ↓DL.z_and, ↓DL.z_or, ↓DL.z_not, ↓DL.z_bin, ↓DL.z_cb, ↓DL.z_nil, ↓DL.z_cons, ↓DL.z_i0, ↓DL.z_i, ↓DL.z_mul, ↓DL.z_add, ↓DL.z_lt, ↓DL.z_le, ↓DL.z_gt, ↓DL.z_ge, ↓DL.z_eq, ↓DL.z_ne, ↓DL.z_len, ↓DL.z_lens, ↓DL.z_int, ↓DL.z_intb, ↓DL.z_ixO, ↓DL.z_ix0, ↓DL.z_ix1, ↓DL.z_ix2, ↓DL.z_ix3, ↓DL.z_ix4, ↓DL.z_gsub, ↓DL.z_sub1, ↓DL.z_sub2, ↓DL.z_sub3, ↓DL.z_sub4, ↓DL.z_for, ↓DL.z_itA, ↓DL.z_any, ↓DL.z_itl, ↓DL.z_itt, ↓DL.z_its, ↓DL.z_lcg, ↓DL.z_yes, ↓DL.z_ifx, ↓DL.z_tup, ↓DL.z_lst, ↓DL.z_lstO, ↓DL.z_nop, ↓DL.z_part, ↓DL.z_pa, ↓DL.z_slx, ↓DL.z_sll, ↓DL.z_slt, ↓DL.z_sls, ↓DL.z_chain, ↓DL.z_ch, ↓DL.z_andv, ↓DL.z_orv, ↓DL.z_fnot, ↓DL.z_un, ↓DL.z_neg, ↓DL.z_call, ↓DL.z_prop, ↓DL.z_meth, ↓DL.z_make, ↓DL.z_obj, ↓DL.z_fl, ↓DL.z_flt, ↓DL.z_flf, ↓DL.z_ft, ↓DL.z_ftt, ↓DL.z_lent, ↓DL.z_adds, ↓DL.z_addl, ↓DL.z_addt, ↓DL.z_eqs, ↓DL.z_nes, ↓DL.z_eqb, ↓DL.z_eqn, ↓DL.z_eql, ↓DL.z_nel, ↓DL.z_isn, ↓DL.z_isnn, ↓DL.z_ins, ↓DL.z_nins, ↓DL.z_ixt, ↓DL.z_l0, ↓DL.z_l1, ↓DL.z_l2, ↓DL.z_rng, ↓DL.z_enl, ↓DL.z_ent, ↓DL.z_gtup, ↓DL.z_gcons, ↓DL.z_gnil, ↓DL.z_wipe0, ↓DL.z_wipe, ↓DL.z_mt, ↓DL.z_ty0, ↓DL.z_ty1, ↓DL.z_app0, ↓DL.z_app1, ↓DL.z_raise, ↓DL.z_ra, ↓DL.z_is_i_bool, ↓DL.z_is_i_int, ↓DL.z_is_i_str, ↓DL.z_is_i_tuple, ↓DL.z_is_i_list, ↓DL.z_is_b_bool, ↓DL.z_is_b_int, ↓DL.z_is_b_str, ↓DL.z_is_b_tuple, ↓DL.z_is_b_list, ↓DL.z_is_s_bool, ↓DL.z_is_s_int, ↓DL.z_is_s_str, ↓DL.z_is_s_tuple, ↓DL.z_is_s_list, ↓DL.z_is_l_bool, ↓DL.z_is_l_int, ↓DL.z_is_l_str, ↓DL.z_is_l_tuple, ↓DL.z_is_l_list, ↓DL.z_is_t_bool, ↓DL.z_is_t_int, ↓DL.z_is_t_str, ↓DL.z_is_t_tuple, ↓DL.z_is_t_list, ↓DL.z_is_n_bool, ↓DL.z_is_n_int, ↓DL.z_is_n_str, ↓DL.z_is_n_tuple, ↓DL.z_is_n_list, ↓DL.z_gslc, ↓DL.z_sc0, ↓DL.z_listO, ↓DL.z_lol, ↓DL.z_lot, ↓DL.z_fsum, ↓DL.z_own1, ↓DL.z_glen, ↓DL.z_gall, ↓DL.z_ixown, ↓DL.z_listG, ↓DL.z_ownit, ↓DL.z_fld, ↓DL.z_fz, ↓DL.z_fzs, ↓DL.z_xisi, ↓DL.z_xi, ↓DL.z_xval, ↓DL.z_xv, ↓DL.z_ixm, ↓DL.z_lm, ↓dTrim, ↓dLc, ↓dLcO, ↓dEnds, ↓z_gd1, ↓z_gd2, ↓z_gd3, ↓z_gdi, ↓z_gdo, slots, ↓reduceIte, decide_eq_true_eq, Bool.false_eq_true, Bool.not_true, Bool.not_false, decide_true, decide_false, Int.reduceEq, Int.reduceSub, Int.reduceAdd, Int.reduceLT, Int.reduceNeg, and_self, true_and, and_true]
    refine ⟨p, cells, i', a', b', c', _, rfl, rfl, by omega, log9 (by omega), fun g i' a' b' c' g0 g1 => ?_⟩
    obtain ⟨g, rfl⟩ := Int.eq_ofNat_of_zero_le g0
    have hwm := h1 w (mem_ hw)
    have hwg : isG w = true := by
      simp only [isG, Bool.and_eq_true, List.all_eq_true, decide_eq_true_eq, Bool.not_eq_true', decide_eq_false_iff_not]
      refine ⟨hwm.1, ?_⟩
      rintro rfl
      simp at hwm
    have fin : ∀ g : Nat, g ≤ e.length → ∀ i' a' b' c', ∀ v1 v2 v3 v4 v5 v6, (jsD js).length < 16777216 ∧ (cut e none (some ↑g)).length + w.length ≤ 16777216 ∧ (cut e none (some ↑g) ++ w).length + (cut e (some ↑g) none).length ≤ 16777216 ∧
        ∃ js' e' u1 u2 u3 u4 u5 u6 i'' a'' b'' c'', [(p, O.lst (stD cells i' a' b' c')), (q, O.lst (jsD js ++ [D.tup [D.int g, D.str w]]))] = [(p, .lst (stD cells i'' a'' b'' c'')), (q, .lst (jsD js'))] ∧ play row js' = .inr e' ∧ js'.length = k + 1 ∧
          (∀ j ∈ js', 1 ≤ j.2.length ∧ j.2.length ≤ z ∧ isG j.2 = true) ∧ e'.length ≤ row.length + (k + 1) * 10 ∧ [some (D.adr p), some (D.str row), some (D.lst (gs.map D.str)), some (D.int t), some (D.adr q), some (D.str (cut e none (some ↑g) ++ w ++ cut e (some ↑g) none)), v1, v2, v3, v4, v5, v6] =
            [some (D.adr p), some (D.str row), some (D.lst (gs.map D.str)), some (D.int t), some (D.adr q), some (D.str e'), u1, u2, u3, u4, u5, u6] := by
      intro g hg i' a' b' c' v1 v2 v3 v4 v5 v6
      rw [cut_to _ _ hg, cut_from _ _ hg]
      refine ⟨by rw [jsD_len]; omega, by rw [List.length_take]; omega, by simp only [List.length_append, List.length_take, List.length_drop]; omega, js ++ [((g : Int), w)], ins e g w, _, _, _, _, _, _, i', a', b', c', ?_, ?_, by simp [hk], ?_, by rw [ins_len _ _ _ hg]; omega, rfl⟩
      · rw [jsD_app]; rfl
      · rw [play_app, hp]
        simp only [play, show (0 ≤ (g : Int) ∧ (g : Int) ≤ (e.length : Int)) from by omega, hwg, and_self, if_true, Int.toNat_natCast]
      · intro j hj2
        rcases List.mem_append.mp hj2 with hj2 | hj2
        · exact hj j hj2
        · rw [List.mem_singleton.mp hj2]; exact ⟨hwm.2.1, hwm.2.2, hwg⟩
    by_cases c1 : 0 < (k : Int)
    · by_cases c2 : 3 < y
      · obtain ⟨⟨g2, w2⟩, hl2⟩ := ge_ (l := js) (k := k - 1) (by omega)
        obtain ⟨r2, s1, s2, s3, s4, s5, s6⟩ := step_ hp hl2
        rw [show k - 1 + 1 = js.length from by omega, List.take_length, hp] at s5
        have s7 := congrArg List.length (Sum.inr.inj s5)
        rw [ins_len _ _ _ (by omega)] at s7
        obtain ⟨g2, rfl⟩ := Int.eq_ofNat_of_zero_le s2
        have s8 := (hj _ (mem_ hl2)).1
        have e1 : (0 : Int) + (k : Int) - 1 = ((k - 1 : Nat) : Int) := by omega
        have e2 : (jsD js)[k - 1]? = some (.tup [.int g2, .str w2]) := by simp [jsD, hl2, jD]
        by_cases c3 : y = 4
        · subst c3
          simp only [List.map_cons, List.map_nil, List.length_cons, List.length_nil, Nat.reduceSub, Nat.reduceAdd, Nat.zero_add, Nat.sub_self, List.replicate, List.cons_append, List.nil_append, List.append_nil, List.set_cons_zero, List.set_cons_succ, List.take_succ_cons, List.take_zero, List.drop_zero, List.drop_succ_cons, List.drop_nil, List.take_nil, Nat.reduceLeDiff, ↓DL.z_var0, ↓DL.z_varS, ↓DL.z_name0, ↓DL.z_nameS, ↓DL.z_c, ↓DL.z_seq, ↓DL.z_next, ↓DL.z_if, ↓DL.z_asg, ↓DL.z_ret, ↓DL.z_drop, ↓DL.z_val, ↓DL.z_bl, ↓DL.z_and, ↓DL.z_or, ↓DL.z_not, ↓DL.z_bin, ↓DL.z_cb, ↓DL.z_nil, ↓DL.z_cons, ↓DL.z_i0, ↓DL.z_i, ↓DL.z_mul, ↓DL.z_add, ↓DL.z_lt, ↓DL.z_le, ↓DL.z_gt, ↓DL.z_ge, ↓DL.z_eq, ↓DL.z_ne, ↓DL.z_len, ↓DL.z_lens, ↓DL.z_int, ↓DL.z_intb, ↓DL.z_ixO, ↓DL.z_ix0, ↓DL.z_ix1, ↓DL.z_ix2, ↓DL.z_ix3, ↓DL.z_ix4, ↓DL.z_gsub, ↓DL.z_sub1, ↓DL.z_sub2, ↓DL.z_sub3, ↓DL.z_sub4, ↓DL.z_for, ↓DL.z_itA, ↓DL.z_any, ↓DL.z_itl, ↓DL.z_itt, ↓DL.z_its, ↓DL.z_lcg, ↓DL.z_yes, ↓DL.z_ifx, ↓DL.z_tup, ↓DL.z_lst, ↓DL.z_lstO, ↓DL.z_nop, ↓DL.z_part, ↓DL.z_pa, ↓DL.z_slx, ↓DL.z_sll, ↓DL.z_slt, ↓DL.z_sls, ↓DL.z_chain, ↓DL.z_ch, ↓DL.z_andv, ↓DL.z_orv, ↓DL.z_fnot, ↓DL.z_un, ↓DL.z_neg, ↓DL.z_call, ↓DL.z_prop, ↓DL.z_meth, ↓DL.z_make, ↓DL.z_obj, ↓DL.z_fl, ↓DL.z_flt, ↓DL.z_flf, ↓DL.z_ft, ↓DL.z_ftt, ↓DL.z_lent, ↓DL.z_adds, ↓DL.z_addl, ↓DL.z_addt, ↓DL.z_eqs, ↓DL.z_nes, ↓DL.z_eqb, ↓DL.z_eqn, ↓DL.z_eql, ↓DL.z_nel, ↓DL.z_isn, ↓DL.z_isnn, ↓DL.z_ins, ↓DL.z_nins, ↓DL.z_ixt, ↓DL.z_l0, ↓DL.z_l1, ↓DL.z_l2, ↓DL.z_rng, ↓DL.z_enl, ↓DL.z_ent, ↓DL.z_gtup, ↓DL.z_gcons, ↓DL.z_gnil, ↓DL.z_wipe0, ↓DL.z_wipe, ↓DL.z_mt, ↓DL.z_ty0, ↓DL.z_ty1, ↓DL.z_app0, ↓DL.z_app1, ↓DL.z_raise, ↓DL.z_ra, ↓DL.z_is_i_bool, ↓DL.z_is_i_int, ↓DL.z_is_i_str, ↓DL.z_is_i_tuple, ↓DL.z_is_i_list, ↓DL.z_is_b_bool, ↓DL.z_is_b_int, ↓DL.z_is_b_str, ↓DL.z_is_b_tuple, ↓DL.z_is_b_list, ↓DL.z_is_s_bool, ↓DL.z_is_s_int, ↓DL.z_is_s_str, ↓DL.z_is_s_tuple, ↓DL.z_is_s_list, ↓DL.z_is_l_bool, ↓DL.z_is_l_int, ↓DL.z_is_l_str, ↓DL.z_is_l_tuple, ↓DL.z_is_l_list, ↓DL.z_is_t_bool, ↓DL.z_is_t_int, ↓DL.z_is_t_str, ↓DL.z_is_t_tuple, ↓DL.z_is_t_list, ↓DL.z_is_n_bool, ↓DL.z_is_n_int, ↓DL.z_is_n_str, ↓DL.z_is_n_tuple, ↓DL.z_is_n_list, ↓DL.z_gslc, ↓DL.z_sc0, ↓DL.z_listO, ↓DL.z_lol, ↓DL.z_lot, ↓DL.z_fsum, ↓DL.z_own1, ↓DL.z_glen, ↓DL.z_gall, ↓DL.z_ixown, ↓DL.z_listG, ↓DL.z_ownit, ↓DL.z_fld, ↓DL.z_fz, ↓DL.z_fzs, ↓DL.z_xisi, ↓DL.z_xi, ↓DL.z_xval, ↓DL.z_xv, ↓DL.z_ixm, ↓DL.z_lm, ↓dTrim, ↓dLc, ↓dLcO, ↓dEnds, ↓z_gd1, ↓z_gd2, ↓z_gd3, ↓z_gdi, ↓z_gdo, slots, ↓reduceIte, decide_eq_true_eq, Bool.false_eq_true, Bool.not_true, Bool.not_false, decide_true, decide_false, Int.reduceEq, Int.reduceSub, Int.reduceAdd, Int.reduceLT, Int.reduceNeg, and_self, true_and, and_true, Int.zero_add, c1, ↓e1, ↓z_jx e2]
          exact fin g2 (by omega) _ _ _ _ _ _ _ _ _ _
        · by_cases c4 : y = 5
          · subst c4
            simp only [List.map_cons, List.map_nil, List.length_cons, List.length_nil, Nat.reduceSub, Nat.reduceAdd, Nat.zero_add, Nat.sub_self, List.replicate, List.cons_append, List.nil_append, List.append_nil, List.set_cons_zero, List.set_cons_succ, List.take_succ_cons, List.take_zero, List.drop_zero, List.drop_succ_cons, List.drop_nil, List.take_nil, Nat.reduceLeDiff, ↓DL.z_var0, ↓DL.z_varS, ↓DL.z_name0, ↓DL.z_nameS, ↓DL.z_c, ↓DL.z_seq, ↓DL.z_next, ↓DL.z_if, ↓DL.z_asg, ↓DL.z_ret, ↓DL.z_drop, ↓DL.z_val, ↓DL.z_bl, ↓DL.z_and, ↓DL.z_or, ↓DL.z_not, ↓DL.z_bin, ↓DL.z_cb, ↓DL.z_nil, ↓DL.z_cons, ↓DL.z_i0, ↓DL.z_i, ↓DL.z_mul, ↓DL.z_add, ↓DL.z_lt, ↓DL.z_le, ↓DL.z_gt, ↓DL.z_ge, ↓DL.z_eq, ↓DL.z_ne, ↓DL.z_len, ↓DL.z_lens, ↓DL.z_int, ↓DL.z_intb, ↓DL.z_ixO, ↓DL.z_ix0, ↓DL.z_ix1, ↓DL.z_ix2, ↓DL.z_ix3, ↓DL.z_ix4, ↓DL.z_gsub, ↓DL.z_sub1, ↓DL.z_sub2, ↓DL.z_sub3, ↓DL.z_sub4, ↓DL.z_for, ↓DL.z_itA, ↓DL.z_any, ↓DL.z_itl, ↓DL.z_itt, ↓DL.z_its, ↓DL.z_lcg, ↓DL.z_yes, ↓DL.z_ifx, ↓DL.z_tup, ↓DL.z_lst, ↓DL.z_lstO, ↓DL.z_nop, ↓DL.z_part, ↓DL.z_pa, ↓DL.z_slx, ↓DL.z_sll, ↓DL.z_slt, ↓DL.z_sls, ↓DL.z_chain, ↓DL.z_ch, ↓DL.z_andv, ↓DL.z_orv, ↓DL.z_fnot, ↓DL.z_un, ↓DL.z_neg, ↓DL.z_call, ↓DL.z_prop, ↓DL.z_meth, ↓DL.z_make, ↓DL.z_obj, ↓DL.z_fl, ↓DL.z_flt, ↓DL.z_flf, ↓DL.z_ft, ↓DL.z_ftt, ↓DL.z_lent, ↓DL.z_adds, ↓DL.z_addl, ↓DL.z_addt, ↓DL.z_eqs, ↓DL.z_nes, ↓DL.z_eqb, ↓DL.z_eqn, ↓DL.z_eql, ↓DL.z_nel, ↓DL.z_isn, ↓DL.z_isnn, ↓DL.z_ins, ↓DL.z_nins, ↓DL.z_ixt, ↓DL.z_l0, ↓DL.z_l1, ↓DL.z_l2, ↓DL.z_rng, ↓DL.z_enl, ↓DL.z_ent, ↓DL.z_gtup, ↓DL.z_gcons, ↓DL.z_gnil, ↓DL.z_wipe0, ↓DL.z_wipe, ↓DL.z_mt, ↓DL.z_ty0, ↓DL.z_ty1, ↓DL.z_app0, ↓DL.z_app1, ↓DL.z_raise, ↓DL.z_ra, ↓DL.z_is_i_bool, ↓DL.z_is_i_int, ↓DL.z_is_i_str, ↓DL.z_is_i_tuple, ↓DL.z_is_i_list, ↓DL.z_is_b_bool, ↓DL.z_is_b_int, ↓DL.z_is_b_str, ↓DL.z_is_b_tuple, ↓DL.z_is_b_list, ↓DL.z_is_s_bool, ↓DL.z_is_s_int, ↓DL.z_is_s_str, ↓DL.z_is_s_tuple, ↓DL.z_is_s_list, ↓DL.z_is_l_bool, ↓DL.z_is_l_int, ↓DL.z_is_l_str, ↓DL.z_is_l_tuple, ↓DL.z_is_l_list, ↓DL.z_is_t_bool, ↓DL.z_is_t_int, ↓DL.z_is_t_str, ↓DL.z_is_t_tuple, ↓DL.z_is_t_list, ↓DL.z_is_n_bool, ↓DL.z_is_n_int, ↓DL.z_is_n_str, ↓DL.z_is_n_tuple, ↓DL.z_is_n_list, ↓DL.z_gslc, ↓DL.z_sc0, ↓DL.z_listO, ↓DL.z_lol, ↓DL.z_lot, ↓DL.z_fsum, ↓DL.z_own1, ↓DL.z_glen, ↓DL.z_gall, ↓DL.z_ixown, ↓DL.z_listG, ↓DL.z_ownit, ↓DL.z_fld, ↓DL.z_fz, ↓DL.z_fzs, ↓DL.z_xisi, ↓DL.z_xi, ↓DL.z_xval, ↓DL.z_xv, ↓DL.z_ixm, ↓DL.z_lm, ↓dTrim, ↓dLc, ↓dLcO, ↓dEnds, ↓z_gd1, ↓z_gd2, ↓z_gd3, ↓z_gdi, ↓z_gdo, slots, ↓reduceIte, decide_eq_true_eq, Bool.false_eq_true, Bool.not_true, Bool.not_false, decide_true, decide_false, Int.reduceEq, Int.reduceSub, Int.reduceAdd, Int.reduceLT, Int.reduceNeg, and_self, true_and, and_true, Int.zero_add, c1, ↓e1, ↓z_jx e2]
            exact fin (g2 + w2.length) (by omega) _ _ _ _ _ _ _ _ _ _
          · by_cases c5 : (1 : Int) < (w2.length : Int)
            · have e3 : (g2 : Int) + 1 + (g : Int) % ((w2.length : Int) - 1) = ((g2 + 1 + g % (w2.length - 1) : Nat) : Int) := by
                rw [show (w2.length : Int) - 1 = ((w2.length - 1 : Nat) : Int) from by omega]
                omega
              have e4 : g % (w2.length - 1) < w2.length - 1 := Nat.mod_lt _ (by omega)
              simp only [List.map_cons, List.map_nil, List.length_cons, List.length_nil, Nat.reduceSub, Nat.reduceAdd, Nat.zero_add, Nat.sub_self, List.replicate, List.cons_append, List.nil_append, List.append_nil, List.set_cons_zero, List.set_cons_succ, List.take_succ_cons, List.take_zero, List.drop_zero, List.drop_succ_cons, List.drop_nil, List.take_nil, Nat.reduceLeDiff, ↓DL.z_var0, ↓DL.z_varS, ↓DL.z_name0, ↓DL.z_nameS, ↓DL.z_c, ↓DL.z_seq, ↓DL.z_next, ↓DL.z_if, ↓DL.z_asg, ↓DL.z_ret, ↓DL.z_drop, ↓DL.z_val, ↓DL.z_bl, ↓DL.z_and, ↓DL.z_or, ↓DL.z_not, ↓DL.z_bin, ↓DL.z_cb, ↓DL.z_nil, ↓DL.z_cons, ↓DL.z_i0, ↓DL.z_i, ↓DL.z_mul, ↓DL.z_add, ↓DL.z_lt, ↓DL.z_le, ↓DL.z_gt, ↓DL.z_ge, ↓DL.z_eq, ↓DL.z_ne, ↓DL.z_len, ↓DL.z_lens, ↓DL.z_int, ↓DL.z_intb, ↓DL.z_ixO, ↓DL.z_ix0, ↓DL.z_ix1, ↓DL.z_ix2, ↓DL.z_ix3, ↓DL.z_ix4, ↓DL.z_gsub, ↓DL.z_sub1, ↓DL.z_sub2, ↓DL.z_sub3, ↓DL.z_sub4, ↓DL.z_for, ↓DL.z_itA, ↓DL.z_any, ↓DL.z_itl, ↓DL.z_itt, ↓DL.z_its, ↓DL.z_lcg, ↓DL.z_yes, ↓DL.z_ifx, ↓DL.z_tup, ↓DL.z_lst, ↓DL.z_lstO, ↓DL.z_nop, ↓DL.z_part, ↓DL.z_pa, ↓DL.z_slx, ↓DL.z_sll, ↓DL.z_slt, ↓DL.z_sls, ↓DL.z_chain, ↓DL.z_ch, ↓DL.z_andv, ↓DL.z_orv, ↓DL.z_fnot, ↓DL.z_un, ↓DL.z_neg, ↓DL.z_call, ↓DL.z_prop, ↓DL.z_meth, ↓DL.z_make, ↓DL.z_obj, ↓DL.z_fl, ↓DL.z_flt, ↓DL.z_flf, ↓DL.z_ft, ↓DL.z_ftt, ↓DL.z_lent, ↓DL.z_adds, ↓DL.z_addl, ↓DL.z_addt, ↓DL.z_eqs, ↓DL.z_nes, ↓DL.z_eqb, ↓DL.z_eqn, ↓DL.z_eql, ↓DL.z_nel, ↓DL.z_isn, ↓DL.z_isnn, ↓DL.z_ins, ↓DL.z_nins, ↓DL.z_ixt, ↓DL.z_l0, ↓DL.z_l1, ↓DL.z_l2, ↓DL.z_rng, ↓DL.z_enl, ↓DL.z_ent, ↓DL.z_gtup, ↓DL.z_gcons, ↓DL.z_gnil, ↓DL.z_wipe0, ↓DL.z_wipe, ↓DL.z_mt, ↓DL.z_ty0, ↓DL.z_ty1, ↓DL.z_app0, ↓DL.z_app1, ↓DL.z_raise, ↓DL.z_ra, ↓DL.z_is_i_bool, ↓DL.z_is_i_int, ↓DL.z_is_i_str, ↓DL.z_is_i_tuple, ↓DL.z_is_i_list, ↓DL.z_is_b_bool, ↓DL.z_is_b_int, ↓DL.z_is_b_str, ↓DL.z_is_b_tuple, ↓DL.z_is_b_list, ↓DL.z_is_s_bool, ↓DL.z_is_s_int, ↓DL.z_is_s_str, ↓DL.z_is_s_tuple, ↓DL.z_is_s_list, ↓DL.z_is_l_bool, ↓DL.z_is_l_int, ↓DL.z_is_l_str, ↓DL.z_is_l_tuple, ↓DL.z_is_l_list, ↓DL.z_is_t_bool, ↓DL.z_is_t_int, ↓DL.z_is_t_str, ↓DL.z_is_t_tuple, ↓DL.z_is_t_list, ↓DL.z_is_n_bool, ↓DL.z_is_n_int, ↓DL.z_is_n_str, ↓DL.z_is_n_tuple, ↓DL.z_is_n_list, ↓DL.z_gslc, ↓DL.z_sc0, ↓DL.z_listO, ↓DL.z_lol, ↓DL.z_lot, ↓DL.z_fsum, ↓DL.z_own1, ↓DL.z_glen, ↓DL.z_gall, ↓DL.z_ixown, ↓DL.z_listG, ↓DL.z_ownit, ↓DL.z_fld, ↓DL.z_fz, ↓DL.z_fzs, ↓DL.z_xisi, ↓DL.z_xi, ↓DL.z_xval, ↓DL.z_xv, ↓DL.z_ixm, ↓DL.z_lm, ↓dTrim, ↓dLc, ↓dLcO, ↓dEnds, ↓z_gd1, ↓z_gd2, ↓z_gd3, ↓z_gdi, ↓z_gdo, slots, ↓reduceIte, decide_eq_true_eq, Bool.false_eq_true, Bool.not_true, Bool.not_false, decide_true, decide_false, Int.reduceEq, Int.reduceSub, Int.reduceAdd, Int.reduceLT, Int.reduceNeg, and_self, true_and, and_true, Int.zero_add, c1, c2, c3, c4, c5, ↓e1, ↓z_jx e2]
              rw [e3]
              exact ⟨by omega, fin (g2 + 1 + g % (w2.length - 1)) (by omega) _ _ _ _ _ _ _ _ _ _⟩
            · simp only [List.map_cons, List.map_nil, List.length_cons, List.length_nil, Nat.reduceSub, Nat.reduceAdd, Nat.zero_add, Nat.sub_self, List.replicate, List.cons_append, List.nil_append, List.append_nil, List.set_cons_zero, List.set_cons_succ, List.take_succ_cons, List.take_zero, List.drop_zero, List.drop_succ_cons, List.drop_nil, List.take_nil, Nat.reduceLeDiff, ↓DL.z_var0, ↓DL.z_varS, ↓DL.z_name0, ↓DL.z_nameS, ↓DL.z_c, ↓DL.z_seq, ↓DL.z_next, ↓DL.z_if, ↓DL.z_asg, ↓DL.z_ret, ↓DL.z_drop, ↓DL.z_val, ↓DL.z_bl, ↓DL.z_and, ↓DL.z_or, ↓DL.z_not, ↓DL.z_bin, ↓DL.z_cb, ↓DL.z_nil, ↓DL.z_cons, ↓DL.z_i0, ↓DL.z_i, ↓DL.z_mul, ↓DL.z_add, ↓DL.z_lt, ↓DL.z_le, ↓DL.z_gt, ↓DL.z_ge, ↓DL.z_eq, ↓DL.z_ne, ↓DL.z_len, ↓DL.z_lens, ↓DL.z_int, ↓DL.z_intb, ↓DL.z_ixO, ↓DL.z_ix0, ↓DL.z_ix1, ↓DL.z_ix2, ↓DL.z_ix3, ↓DL.z_ix4, ↓DL.z_gsub, ↓DL.z_sub1, ↓DL.z_sub2, ↓DL.z_sub3, ↓DL.z_sub4, ↓DL.z_for, ↓DL.z_itA, ↓DL.z_any, ↓DL.z_itl, ↓DL.z_itt, ↓DL.z_its, ↓DL.z_lcg, ↓DL.z_yes, ↓DL.z_ifx, ↓DL.z_tup, ↓DL.z_lst, ↓DL.z_lstO, ↓DL.z_nop, ↓DL.z_part, ↓DL.z_pa, ↓DL.z_slx, ↓DL.z_sll, ↓DL.z_slt, ↓DL.z_sls, ↓DL.z_chain, ↓DL.z_ch, ↓DL.z_andv, ↓DL.z_orv, ↓DL.z_fnot, ↓DL.z_un, ↓DL.z_neg, ↓DL.z_call, ↓DL.z_prop, ↓DL.z_meth, ↓DL.z_make, ↓DL.z_obj, ↓DL.z_fl, ↓DL.z_flt, ↓DL.z_flf, ↓DL.z_ft, ↓DL.z_ftt, ↓DL.z_lent, ↓DL.z_adds, ↓DL.z_addl, ↓DL.z_addt, ↓DL.z_eqs, ↓DL.z_nes, ↓DL.z_eqb, ↓DL.z_eqn, ↓DL.z_eql, ↓DL.z_nel, ↓DL.z_isn, ↓DL.z_isnn, ↓DL.z_ins, ↓DL.z_nins, ↓DL.z_ixt, ↓DL.z_l0, ↓DL.z_l1, ↓DL.z_l2, ↓DL.z_rng, ↓DL.z_enl, ↓DL.z_ent, ↓DL.z_gtup, ↓DL.z_gcons, ↓DL.z_gnil, ↓DL.z_wipe0, ↓DL.z_wipe, ↓DL.z_mt, ↓DL.z_ty0, ↓DL.z_ty1, ↓DL.z_app0, ↓DL.z_app1, ↓DL.z_raise, ↓DL.z_ra, ↓DL.z_is_i_bool, ↓DL.z_is_i_int, ↓DL.z_is_i_str, ↓DL.z_is_i_tuple, ↓DL.z_is_i_list, ↓DL.z_is_b_bool, ↓DL.z_is_b_int, ↓DL.z_is_b_str, ↓DL.z_is_b_tuple, ↓DL.z_is_b_list, ↓DL.z_is_s_bool, ↓DL.z_is_s_int, ↓DL.z_is_s_str, ↓DL.z_is_s_tuple, ↓DL.z_is_s_list, ↓DL.z_is_l_bool, ↓DL.z_is_l_int, ↓DL.z_is_l_str, ↓DL.z_is_l_tuple, ↓DL.z_is_l_list, ↓DL.z_is_t_bool, ↓DL.z_is_t_int, ↓DL.z_is_t_str, ↓DL.z_is_t_tuple, ↓DL.z_is_t_list, ↓DL.z_is_n_bool, ↓DL.z_is_n_int, ↓DL.z_is_n_str, ↓DL.z_is_n_tuple, ↓DL.z_is_n_list, ↓DL.z_gslc, ↓DL.z_sc0, ↓DL.z_listO, ↓DL.z_lol, ↓DL.z_lot, ↓DL.z_fsum, ↓DL.z_own1, ↓DL.z_glen, ↓DL.z_gall, ↓DL.z_ixown, ↓DL.z_listG, ↓DL.z_ownit, ↓DL.z_fld, ↓DL.z_fz, ↓DL.z_fzs, ↓DL.z_xisi, ↓DL.z_xi, ↓DL.z_xval, ↓DL.z_xv, ↓DL.z_ixm, ↓DL.z_lm, ↓dTrim, ↓dLc, ↓dLcO, ↓dEnds, ↓z_gd1, ↓z_gd2, ↓z_gd3, ↓z_gdi, ↓z_gdo, slots, ↓reduceIte, decide_eq_true_eq, Bool.false_eq_true, Bool.not_true, Bool.not_false, decide_true, decide_false, Int.reduceEq, Int.reduceSub, Int.reduceAdd, Int.reduceLT, Int.reduceNeg, and_self, true_and, and_true, Int.zero_add, c1, c2, c3, c4, c5, ↓e1, ↓z_jx e2]
              exact fin g (by omega) _ _ _ _ _ _ _ _ _ _
      · simp only [List.map_cons, List.map_nil, List.length_cons, List.length_nil, Nat.reduceSub, Nat.reduceAdd, Nat.zero_add, Nat.sub_self, List.replicate, List.cons_append, List.nil_append, List.append_nil, List.set_cons_zero, List.set_cons_succ, List.take_succ_cons, List.take_zero, List.drop_zero, List.drop_succ_cons, List.drop_nil, List.take_nil, Nat.reduceLeDiff, ↓DL.z_var0, ↓DL.z_varS, ↓DL.z_name0, ↓DL.z_nameS, ↓DL.z_c, ↓DL.z_seq, ↓DL.z_next, ↓DL.z_if, ↓DL.z_asg, ↓DL.z_ret, ↓DL.z_drop, ↓DL.z_val, ↓DL.z_bl, ↓DL.z_and, ↓DL.z_or, ↓DL.z_not, ↓DL.z_bin, ↓DL.z_cb, ↓DL.z_nil, ↓DL.z_cons, ↓DL.z_i0, ↓DL.z_i, ↓DL.z_mul, ↓DL.z_add, ↓DL.z_lt, ↓DL.z_le, ↓DL.z_gt, ↓DL.z_ge, ↓DL.z_eq, ↓DL.z_ne, ↓DL.z_len, ↓DL.z_lens, ↓DL.z_int, ↓DL.z_intb, ↓DL.z_ixO, ↓DL.z_ix0, ↓DL.z_ix1, ↓DL.z_ix2, ↓DL.z_ix3, ↓DL.z_ix4, ↓DL.z_gsub, ↓DL.z_sub1, ↓DL.z_sub2, ↓DL.z_sub3, ↓DL.z_sub4, ↓DL.z_for, ↓DL.z_itA, ↓DL.z_any, ↓DL.z_itl, ↓DL.z_itt, ↓DL.z_its, ↓DL.z_lcg, ↓DL.z_yes, ↓DL.z_ifx, ↓DL.z_tup, ↓DL.z_lst, ↓DL.z_lstO, ↓DL.z_nop, ↓DL.z_part, ↓DL.z_pa, ↓DL.z_slx, ↓DL.z_sll, ↓DL.z_slt, ↓DL.z_sls, ↓DL.z_chain, ↓DL.z_ch, ↓DL.z_andv, ↓DL.z_orv, ↓DL.z_fnot, ↓DL.z_un, ↓DL.z_neg, ↓DL.z_call, ↓DL.z_prop, ↓DL.z_meth, ↓DL.z_make, ↓DL.z_obj, ↓DL.z_fl, ↓DL.z_flt, ↓DL.z_flf, ↓DL.z_ft, ↓DL.z_ftt, ↓DL.z_lent, ↓DL.z_adds, ↓DL.z_addl, ↓DL.z_addt, ↓DL.z_eqs, ↓DL.z_nes, ↓DL.z_eqb, ↓DL.z_eqn, ↓DL.z_eql, ↓DL.z_nel, ↓DL.z_isn, ↓DL.z_isnn, ↓DL.z_ins, ↓DL.z_nins, ↓DL.z_ixt, ↓DL.z_l0, ↓DL.z_l1, ↓DL.z_l2, ↓DL.z_rng, ↓DL.z_enl, ↓DL.z_ent, ↓DL.z_gtup, ↓DL.z_gcons, ↓DL.z_gnil, ↓DL.z_wipe0, ↓DL.z_wipe, ↓DL.z_mt, ↓DL.z_ty0, ↓DL.z_ty1, ↓DL.z_app0, ↓DL.z_app1, ↓DL.z_raise, ↓DL.z_ra, ↓DL.z_is_i_bool, ↓DL.z_is_i_int, ↓DL.z_is_i_str, ↓DL.z_is_i_tuple, ↓DL.z_is_i_list, ↓DL.z_is_b_bool, ↓DL.z_is_b_int, ↓DL.z_is_b_str, ↓DL.z_is_b_tuple, ↓DL.z_is_b_list, ↓DL.z_is_s_bool, ↓DL.z_is_s_int, ↓DL.z_is_s_str, ↓DL.z_is_s_tuple, ↓DL.z_is_s_list, ↓DL.z_is_l_bool, ↓DL.z_is_l_int, ↓DL.z_is_l_str, ↓DL.z_is_l_tuple, ↓DL.z_is_l_list, ↓DL.z_is_t_bool, ↓DL.z_is_t_int, ↓DL.z_is_t_str, ↓DL.z_is_t_tuple, ↓DL.z_is_t_list, ↓DL.z_is_n_bool, ↓DL.z_is_n_int, ↓DL.z_is_n_str, ↓DL.z_is_n_tuple, ↓DL.z_is_n_list, ↓DL.z_gslc, ↓DL.z_sc0, ↓DL.z_listO, ↓DL.z_lol, ↓DL.z_lot, ↓DL.z_fsum, ↓DL.z_own1, ↓DL.z_glen, ↓DL.z_gall, ↓DL.z_ixown, ↓DL.z_listG, ↓DL.z_ownit, ↓DL.z_fld, ↓DL.z_fz, ↓DL.z_fzs, ↓DL.z_xisi, ↓DL.z_xi, ↓DL.z_xval, ↓DL.z_xv, ↓DL.z_ixm, ↓DL.z_lm, ↓dTrim, ↓dLc, ↓dLcO, ↓dEnds, ↓z_gd1, ↓z_gd2, ↓z_gd3, ↓z_gdi, ↓z_gdo, slots, ↓reduceIte, decide_eq_true_eq, Bool.false_eq_true, Bool.not_true, Bool.not_false, decide_true, decide_false, Int.reduceEq, Int.reduceSub, Int.reduceAdd, Int.reduceLT, Int.reduceNeg, and_self, true_and, and_true, Int.zero_add, c1, c2]
        exact fin g (by omega) _ _ _ _ _ _ _ _ _ _
    · simp only [List.map_cons, List.map_nil, List.length_cons, List.length_nil, Nat.reduceSub, Nat.reduceAdd, Nat.zero_add, Nat.sub_self, List.replicate, List.cons_append, List.nil_append, List.append_nil, List.set_cons_zero, List.set_cons_succ, List.take_succ_cons, List.take_zero, List.drop_zero, List.drop_succ_cons, List.drop_nil, List.take_nil, Nat.reduceLeDiff, ↓DL.z_var0, ↓DL.z_varS, ↓DL.z_name0, ↓DL.z_nameS, ↓DL.z_c, ↓DL.z_seq, ↓DL.z_next, ↓DL.z_if, ↓DL.z_asg, ↓DL.z_ret, ↓DL.z_drop, ↓DL.z_val, ↓DL.z_bl, ↓DL.z_and, ↓DL.z_or, ↓DL.z_not, ↓DL.z_bin, ↓DL.z_cb, ↓DL.z_nil, ↓DL.z_cons, ↓DL.z_i0, ↓DL.z_i, ↓DL.z_mul, ↓DL.z_add, ↓DL.z_lt, ↓DL.z_le, ↓DL.z_gt, ↓DL.z_ge, ↓DL.z_eq, ↓DL.z_ne, ↓DL.z_len, ↓DL.z_lens, ↓DL.z_int, ↓DL.z_intb, ↓DL.z_ixO, ↓DL.z_ix0, ↓DL.z_ix1, ↓DL.z_ix2, ↓DL.z_ix3, ↓DL.z_ix4, ↓DL.z_gsub, ↓DL.z_sub1, ↓DL.z_sub2, ↓DL.z_sub3, ↓DL.z_sub4, ↓DL.z_for, ↓DL.z_itA, ↓DL.z_any, ↓DL.z_itl, ↓DL.z_itt, ↓DL.z_its, ↓DL.z_lcg, ↓DL.z_yes, ↓DL.z_ifx, ↓DL.z_tup, ↓DL.z_lst, ↓DL.z_lstO, ↓DL.z_nop, ↓DL.z_part, ↓DL.z_pa, ↓DL.z_slx, ↓DL.z_sll, ↓DL.z_slt, ↓DL.z_sls, ↓DL.z_chain, ↓DL.z_ch, ↓DL.z_andv, ↓DL.z_orv, ↓DL.z_fnot, ↓DL.z_un, ↓DL.z_neg, ↓DL.z_call, ↓DL.z_prop, ↓DL.z_meth, ↓DL.z_make, ↓DL.z_obj, ↓DL.z_fl, ↓DL.z_flt, ↓DL.z_flf, ↓DL.z_ft, ↓DL.z_ftt, ↓DL.z_lent, ↓DL.z_adds, ↓DL.z_addl, ↓DL.z_addt, ↓DL.z_eqs, ↓DL.z_nes, ↓DL.z_eqb, ↓DL.z_eqn, ↓DL.z_eql, ↓DL.z_nel, ↓DL.z_isn, ↓DL.z_isnn, ↓DL.z_ins, ↓DL.z_nins, ↓DL.z_ixt, ↓DL.z_l0, ↓DL.z_l1, ↓DL.z_l2, ↓DL.z_rng, ↓DL.z_enl, ↓DL.z_ent, ↓DL.z_gtup, ↓DL.z_gcons, ↓DL.z_gnil, ↓DL.z_wipe0, ↓DL.z_wipe, ↓DL.z_mt, ↓DL.z_ty0, ↓DL.z_ty1, ↓DL.z_app0, ↓DL.z_app1, ↓DL.z_raise, ↓DL.z_ra, ↓DL.z_is_i_bool, ↓DL.z_is_i_int, ↓DL.z_is_i_str, ↓DL.z_is_i_tuple, ↓DL.z_is_i_list, ↓DL.z_is_b_bool, ↓DL.z_is_b_int, ↓DL.z_is_b_str, ↓DL.z_is_b_tuple, ↓DL.z_is_b_list, ↓DL.z_is_s_bool, ↓DL.z_is_s_int, ↓DL.z_is_s_str, ↓DL.z_is_s_tuple, ↓DL.z_is_s_list, ↓DL.z_is_l_bool, ↓DL.z_is_l_int, ↓DL.z_is_l_str, ↓DL.z_is_l_tuple, ↓DL.z_is_l_list, ↓DL.z_is_t_bool, ↓DL.z_is_t_int, ↓DL.z_is_t_str, ↓DL.z_is_t_tuple, ↓DL.z_is_t_list, ↓DL.z_is_n_bool, ↓DL.z_is_n_int, ↓DL.z_is_n_str, ↓DL.z_is_n_tuple, ↓DL.z_is_n_list, ↓DL.z_gslc, ↓DL.z_sc0, ↓DL.z_listO, ↓DL.z_lol, ↓DL.z_lot, ↓DL.z_fsum, ↓DL.z_own1, ↓DL.z_glen, ↓DL.z_gall, ↓DL.z_ixown, ↓DL.z_listG, ↓DL.z_ownit, ↓DL.z_fld, ↓DL.z_fz, ↓DL.z_fzs, ↓DL.z_xisi, ↓DL.z_xi, ↓DL.z_xval, ↓DL.z_xv, ↓DL.z_ixm, ↓DL.z_lm, ↓dTrim, ↓dLc, ↓dLcO, ↓dEnds, ↓z_gd1, ↓z_gd2, ↓z_gd3, ↓z_gdi, ↓z_gdo, slots, ↓reduceIte, decide_eq_true_eq, Bool.false_eq_true, Bool.not_true, Bool.not_false, decide_true, decide_false, Int.reduceEq, Int.reduceSub, Int.reduceAdd, Int.reduceLT, Int.reduceNeg, and_self, true_and, and_true, Int.zero_add, c1]
      exact fin g (by omega) _ _ _ _ _ _ _ _ _ _
  · rintro δ μ' ⟨js, e, u1, u2, u3, u4, u5, u6, i', a', b', c', rfl, hp, hk, hj, he, rfl⟩
    rw [rng_length] at hk
    simp only [List.map_cons, List.map_nil, List.length_cons, List.length_nil, Nat.reduceSub, Nat.reduceAdd, Nat.zero_add, Nat.sub_self, List.replicate, List.cons_append, List.nil_append, List.append_nil, List.set_cons_zero, List.set_cons_succ, List.take_succ_cons, List.take_zero, List.drop_zero, List.drop_succ_cons, List.drop_nil, List.take_nil, Nat.reduceLeDiff, ↓DL.z_var0, ↓DL.z_varS, ↓DL.z_name0, ↓DL.z_nameS, ↓DL.z_c, ↓DL.z_seq, ↓DL.z_next, ↓DL.z_if, ↓DL.z_asg, ↓DL.z_ret, ↓DL.z_drop, ↓DL.z_val, ↓DL.z_bl, ↓DL.z_and, ↓DL.z_or, ↓DL.z_not, ↓DL.z_bin, ↓DL.z_cb, ↓DL.z_nil, ↓DL.z_cons, ↓DL.z_i0, ↓DL.z_i, ↓DL.z_mul, ↓DL.z_add, ↓DL.z_lt, ↓DL.z_le, ↓DL.z_gt, ↓DL.z_ge, ↓DL.z_eq, ↓DL.z_ne, ↓DL.z_len, ↓DL.z_lens, ↓DL.z_int, ↓DL.z_intb, ↓DL.z_ixO, ↓DL.z_ix0, ↓DL.z_ix1, ↓DL.z_ix2, ↓DL.z_ix3, ↓DL.z_ix4, ↓DL.z_gsub, ↓DL.z_sub1, ↓DL.z_sub2, ↓DL.z_sub3, ↓DL.z_sub4, ↓DL.z_for, ↓DL.z_itA, ↓DL.z_any, ↓DL.z_itl, ↓DL.z_itt, ↓DL.z_its, ↓DL.z_lcg, ↓DL.z_yes, ↓DL.z_ifx, ↓DL.z_tup, ↓DL.z_lst, ↓DL.z_lstO, ↓DL.z_nop, ↓DL.z_part, ↓DL.z_pa, ↓DL.z_slx, ↓DL.z_sll, ↓DL.z_slt, ↓DL.z_sls, ↓DL.z_chain, ↓DL.z_ch, ↓DL.z_andv, ↓DL.z_orv, ↓DL.z_fnot, ↓DL.z_un, ↓DL.z_neg, ↓DL.z_call, ↓DL.z_prop, ↓DL.z_meth, ↓DL.z_make, ↓DL.z_obj, ↓DL.z_fl, ↓DL.z_flt, ↓DL.z_flf, ↓DL.z_ft, ↓DL.z_ftt, ↓DL.z_lent, ↓DL.z_adds, ↓DL.z_addl, ↓DL.z_addt, ↓DL.z_eqs, ↓DL.z_nes, ↓DL.z_eqb, ↓DL.z_eqn, ↓DL.z_eql, ↓DL.z_nel, ↓DL.z_isn, ↓DL.z_isnn, ↓DL.z_ins, ↓DL.z_nins, ↓DL.z_ixt, ↓DL.z_l0, ↓DL.z_l1, ↓DL.z_l2, ↓DL.z_rng, ↓DL.z_enl, ↓DL.z_ent, ↓DL.z_gtup, ↓DL.z_gcons, ↓DL.z_gnil, ↓DL.z_wipe0, ↓DL.z_wipe, ↓DL.z_mt, ↓DL.z_ty0, ↓DL.z_ty1, ↓DL.z_app0, ↓DL.z_app1, ↓DL.z_raise, ↓DL.z_ra, ↓DL.z_is_i_bool, ↓DL.z_is_i_int, ↓DL.z_is_i_str, ↓DL.z_is_i_tuple, ↓DL.z_is_i_list, ↓DL.z_is_b_bool, ↓DL.z_is_b_int, ↓DL.z_is_b_str, ↓DL.z_is_b_tuple, ↓DL.z_is_b_list, ↓DL.z_is_s_bool, ↓DL.z_is_s_int, ↓DL.z_is_s_str, ↓DL.z_is_s_tuple, ↓DL.z_is_s_list, ↓DL.z_is_l_bool, ↓DL.z_is_l_int, ↓DL.z_is_l_str, ↓DL.z_is_l_tuple, ↓DL.z_is_l_list, ↓DL.z_is_t_bool, ↓DL.z_is_t_int, ↓DL.z_is_t_str, ↓DL.z_is_t_tuple, ↓DL.z_is_t_list, ↓DL.z_is_n_bool, ↓DL.z_is_n_int, ↓DL.z_is_n_str, ↓DL.z_is_n_tuple, ↓DL.z_is_n_list, ↓DL.z_gslc, ↓DL.z_sc0, ↓DL.z_listO, ↓DL.z_lol, ↓DL.z_lot, ↓DL.z_fsum, ↓DL.z_own1, ↓DL.z_glen, ↓DL.z_gall, ↓DL.z_ixown, ↓DL.z_listG, ↓DL.z_ownit, ↓DL.z_fld, ↓DL.z_fz, ↓DL.z_fzs, ↓DL.z_xisi, ↓DL.z_xi, ↓DL.z_xval, ↓DL.z_xv, ↓DL.z_ixm, ↓DL.z_lm, ↓dTrim, ↓dLc, ↓dLcO, ↓dEnds, ↓z_gd1, ↓z_gd2, ↓z_gd3, ↓z_gdi, ↓z_gdo, slots, ↓reduceIte, decide_eq_true_eq, Bool.false_eq_true, Bool.not_true, Bool.not_false, decide_true, decide_false, Int.reduceEq, Int.reduceSub, Int.reduceAdd, Int.reduceLT, Int.reduceNeg, and_self, true_and, and_true]
    refine ⟨[_], _, rfl, ?_⟩
    simp only [List.map_cons, List.map_nil, List.length_cons, List.length_nil, Nat.reduceSub, Nat.reduceAdd, Nat.zero_add, Nat.sub_self, List.replicate, List.cons_append, List.nil_append, List.append_nil, List.set_cons_zero, List.set_cons_succ, List.take_succ_cons, List.take_zero, List.drop_zero, List.drop_succ_cons, List.drop_nil, List.take_nil, Nat.reduceLeDiff, ↓DL.z_var0, ↓DL.z_varS, ↓DL.z_name0, ↓DL.z_nameS, ↓DL.z_c, ↓DL.z_seq, ↓DL.z_next, ↓DL.z_if, ↓DL.z_asg, ↓DL.z_ret, ↓DL.z_drop, ↓DL.z_val, ↓DL.z_bl, ↓DL.z_and, ↓DL.z_or, ↓DL.z_not, ↓DL.z_bin, ↓DL.z_cb, ↓DL.z_nil, ↓DL.z_cons, ↓DL.z_i0, ↓DL.z_i, ↓DL.z_mul, ↓DL.z_add, ↓DL.z_lt, ↓DL.z_le, ↓DL.z_gt, ↓DL.z_ge, ↓DL.z_eq, ↓DL.z_ne, ↓DL.z_len, ↓DL.z_lens, ↓DL.z_int, ↓DL.z_intb, ↓DL.z_ixO, ↓DL.z_ix0, ↓DL.z_ix1, ↓DL.z_ix2, ↓DL.z_ix3, ↓DL.z_ix4, ↓DL.z_gsub, ↓DL.z_sub1, ↓DL.z_sub2, ↓DL.z_sub3, ↓DL.z_sub4, ↓DL.z_for, ↓DL.z_itA, ↓DL.z_any, ↓DL.z_itl, ↓DL.z_itt, ↓DL.z_its, ↓DL.z_lcg, ↓DL.z_yes, ↓DL.z_ifx, ↓DL.z_tup, ↓DL.z_lst, ↓DL.z_lstO, ↓DL.z_nop, ↓DL.z_part, ↓DL.z_pa, ↓DL.z_slx, ↓DL.z_sll, ↓DL.z_slt, ↓DL.z_sls, ↓DL.z_chain, ↓DL.z_ch, ↓DL.z_andv, ↓DL.z_orv, ↓DL.z_fnot, ↓DL.z_un, ↓DL.z_neg, ↓DL.z_call, ↓DL.z_prop, ↓DL.z_meth, ↓DL.z_make, ↓DL.z_obj, ↓DL.z_fl, ↓DL.z_flt, ↓DL.z_flf, ↓DL.z_ft, ↓DL.z_ftt, ↓DL.z_lent, ↓DL.z_adds, ↓DL.z_addl, ↓DL.z_addt, ↓DL.z_eqs, ↓DL.z_nes, ↓DL.z_eqb, ↓DL.z_eqn, ↓DL.z_eql, ↓DL.z_nel, ↓DL.z_isn, ↓DL.z_isnn, ↓DL.z_ins, ↓DL.z_nins, ↓DL.z_ixt, ↓DL.z_l0, ↓DL.z_l1, ↓DL.z_l2, ↓DL.z_rng, ↓DL.z_enl, ↓DL.z_ent, ↓DL.z_gtup, ↓DL.z_gcons, ↓DL.z_gnil, ↓DL.z_wipe0, ↓DL.z_wipe, ↓DL.z_mt, ↓DL.z_ty0, ↓DL.z_ty1, ↓DL.z_app0, ↓DL.z_app1, ↓DL.z_raise, ↓DL.z_ra, ↓DL.z_is_i_bool, ↓DL.z_is_i_int, ↓DL.z_is_i_str, ↓DL.z_is_i_tuple, ↓DL.z_is_i_list, ↓DL.z_is_b_bool, ↓DL.z_is_b_int, ↓DL.z_is_b_str, ↓DL.z_is_b_tuple, ↓DL.z_is_b_list, ↓DL.z_is_s_bool, ↓DL.z_is_s_int, ↓DL.z_is_s_str, ↓DL.z_is_s_tuple, ↓DL.z_is_s_list, ↓DL.z_is_l_bool, ↓DL.z_is_l_int, ↓DL.z_is_l_str, ↓DL.z_is_l_tuple, ↓DL.z_is_l_list, ↓DL.z_is_t_bool, ↓DL.z_is_t_int, ↓DL.z_is_t_str, ↓DL.z_is_t_tuple, ↓DL.z_is_t_list, ↓DL.z_is_n_bool, ↓DL.z_is_n_int, ↓DL.z_is_n_str, ↓DL.z_is_n_tuple, ↓DL.z_is_n_list, ↓DL.z_gslc, ↓DL.z_sc0, ↓DL.z_listO, ↓DL.z_lol, ↓DL.z_lot, ↓DL.z_fsum, ↓DL.z_own1, ↓DL.z_glen, ↓DL.z_gall, ↓DL.z_ixown, ↓DL.z_listG, ↓DL.z_ownit, ↓DL.z_fld, ↓DL.z_fz, ↓DL.z_fzs, ↓DL.z_xisi, ↓DL.z_xi, ↓DL.z_xval, ↓DL.z_xv, ↓DL.z_ixm, ↓DL.z_lm, ↓dTrim, ↓dLc, ↓dLcO, ↓dEnds, ↓z_gd1, ↓z_gd2, ↓z_gd3, ↓z_gdi, ↓z_gdo, slots, ↓reduceIte, decide_eq_true_eq, Bool.false_eq_true, Bool.not_true, Bool.not_false, decide_true, decide_false, Int.reduceEq, Int.reduceSub, Int.reduceAdd, Int.reduceLT, Int.reduceNeg, and_self, true_and, and_true]
    exact hq js e _ _ _ _ hp (by omega) fun j h => ⟨(hj j h).1, (hj j h).2.1⟩
theorem sc_law_line : FnScope ["start", "joins", "line", "k", "gap", "group", "j"] ["start", "joins"] (defScope (top 23)) := ⟨rfl, rfl, rfl, by decide +kernel, rfl, by decide +kernel, by decide +kernel⟩
theorem ok_law_line (fx : Fx K mg C Dd)  (F : FunD K "_law_line" "_law_line" (defArgs (top 23)) (defBody (top 23)) (defScope (top 23)) [] [] fa fd) : FnOk P w K mg base (L2.CX P w) (0 + 1) fa fd ["start", "joins"] (spOf C K 2 (df_law_line)) := by
  refine okD (k := 0) F sc_law_line (fun cdv A outer s H E hr tk => (ss_cons (s_setLc [("k", 3)] 2 rfl sc_law_line.nd (i_rng1 fx.range (a_cons (e_bi c_len fx.len (by decide +kernel) (a_cons (e_var 0) a_nil)) a_nil)) (blkOk_by (N := ["start", "joins", "line", "k", "gap", "group", "j"]) (sc := defScope (top 23)) (by decide +kernel)) (fun Y hY => by obtain ⟨s9, H9, P9, cl9, fp9, rfl⟩ := hY; exact (g_name 3 sc_law_line.nd)) (in_name (by decide)) mg_name (fun Y hY => by obtain ⟨s9, H9, P9, cl9, fp9, rfl⟩ := hY; exact (e_lst (a_cons e_int (a_cons (e_op o_add (e_var 3) e_int) (a_cons (e_ix (e_var 0) (e_var 3)) a_nil)))))) (ss_cons (s_for PassesOwn.leaving rfl (i_rng1 fx.range (a_cons (e_bi c_len fx.len (by decide +kernel) (a_cons (e_var 1) a_nil)) a_nil)) (g_name 3 sc_law_line.nd) (ss_cons (s_asg (e_ix (e_var 1) (e_var 3)) (g_tup (n := 2) rfl (gs_cons (g_name 4 sc_law_line.nd) (gs_cons (g_name 5 sc_law_line.nd) gs_nil)))) (ss_one (s_set 2 sc_law_line.nd (e_op o_add (e_op o_add (e_sl (e_var 2) o_none (o_some (e_var 4))) (e_lc [("j", 6)]  rfl sc_law_line.nd (i_rng1 fx.range (a_cons (e_bi c_len fx.len (by decide +kernel) (a_cons (e_var 5) a_nil)) a_nil)) (blkOk_by (N := ["start", "joins", "line", "k", "gap", "group", "j"]) (sc := defScope (top 23)) (by decide +kernel)) (fun Y hY => by obtain ⟨s9, H9, P9, cl9, fp9, rfl⟩ := hY; exact (g_name 6 sc_law_line.nd)) (in_name (by decide)) mg_name (fun Y hY => by obtain ⟨s9, H9, P9, cl9, fp9, rfl⟩ := hY; exact (e_lst (a_cons (e_op o_add (e_var 3) e_int) (a_cons (e_op o_add (e_var 6) e_int) (a_cons (e_ix (e_var 5) (e_var 6)) a_nil))))))) (e_sl (e_var 2) (o_some (e_var 4)) o_none)))))) (ss_one (s_ret (e_var 2)))))) ?_
  intro ds μ Q R hl h
  obtain ⟨s, js, e, rfl, hp, ht, hn, hq⟩ := h
  have hsl : s.length ≤ 100000 := by simp only [tot] at ht; omega
  simp only [List.map_cons, List.map_nil, List.length_cons, List.length_nil, Nat.reduceSub, Nat.reduceAdd, Nat.zero_add, Nat.sub_self, List.replicate, List.cons_append, List.nil_append, List.append_nil, List.set_cons_zero, List.set_cons_succ, List.take_succ_cons, List.take_zero, List.drop_zero, List.drop_succ_cons, List.drop_nil, List.take_nil, Nat.reduceLeDiff, ↓DL.z_var0, ↓DL.z_varS, ↓DL.z_name0, ↓DL.z_nameS, ↓DL.z_c, ↓DL.z_seq, ↓DL.z_next, ↓DL.z_if, ↓DL.z_asg, ↓DL.z_ret, ↓DL.z_drop, ↓DL.z_val, ↓DL.z_bl, ↓DL.z_and, ↓DL.z_or, ↓DL.z_not, ↓DL.z_bin, ↓DL.z_cb, ↓DL.z_nil, ↓DL.z_cons, ↓DL.z_i0, ↓DL.z_i, ↓DL.z_mul, ↓DL.z_add, ↓DL.z_lt, ↓DL.z_le, ↓DL.z_gt, ↓DL.z_ge, ↓DL.z_eq, ↓DL.z_ne, ↓DL.z_len, ↓DL.z_lens, ↓DL.z_int, ↓DL.z_intb, ↓DL.z_ixO, ↓DL.z_ix0, ↓DL.z_ix1, ↓DL.z_ix2, ↓DL.z_ix3, ↓DL.z_ix4, ↓DL.z_gsub, ↓DL.z_sub1, ↓DL.z_sub2, ↓DL.z_sub3, ↓DL.z_sub4, ↓DL.z_for, ↓DL.z_itA, ↓DL.z_any, ↓DL.z_itl, ↓DL.z_itt, ↓DL.z_its, ↓DL.z_lcg, ↓DL.z_yes, ↓DL.z_ifx, ↓DL.z_tup, ↓DL.z_lst, ↓DL.z_lstO, ↓DL.z_nop, ↓DL.z_part, ↓DL.z_pa, ↓DL.z_slx, ↓DL.z_sll, ↓DL.z_slt, ↓DL.z_sls, ↓DL.z_chain, ↓DL.z_ch, ↓DL.z_andv, ↓DL.z_orv, ↓DL.z_fnot, ↓DL.z_un, ↓DL.z_neg, ↓DL.z_call, ↓DL.z_prop, ↓DL.z_meth, ↓DL.z_make, ↓DL.z_obj, ↓DL.z_fl, ↓DL.z_flt, ↓DL.z_flf, ↓DL.z_ft, ↓DL.z_ftt, ↓DL.z_lent, ↓DL.z_adds, ↓DL.z_addl, ↓DL.z_addt, ↓DL.z_eqs, ↓DL.z_nes, ↓DL.z_eqb, ↓DL.z_eqn, ↓DL.z_eql, ↓DL.z_nel, ↓DL.z_isn, ↓DL.z_isnn, ↓DL.z_ins, ↓DL.z_nins, ↓DL.z_ixt, ↓DL.z_l0, ↓DL.z_l1, ↓DL.z_l2, ↓DL.z_rng, ↓DL.z_enl, ↓DL.z_ent, ↓DL.z_gtup, ↓DL.z_gcons, ↓DL.z_gnil, ↓DL.z_wipe0, ↓DL.z_wipe, ↓DL.z_mt, ↓DL.z_ty0, ↓DL.z_ty1, ↓DL.z_app0, ↓DL.z_app1, ↓DL.z_raise, ↓DL.z_ra, ↓DL.z_is_i_bool, ↓DL.z_is_i_int, ↓DL.z_is_i_str, ↓DL.z_is_i_tuple, ↓DL.z_is_i_list, ↓DL.z_is_b_bool, ↓DL.z_is_b_int, ↓DL.z_is_b_str, ↓DL.z_is_b_tuple, ↓DL.z_is_b_list, ↓DL.z_is_s_bool, ↓DL.z_is_s_int, ↓DL.z_is_s_str, ↓DL.z_is_s_tuple, ↓DL.z_is_s_list, ↓DL.z_is_l_bool, ↓DL.z_is_l_int, ↓DL.z_is_l_str, ↓DL.z_is_l_tuple, ↓DL.z_is_l_list, ↓DL.z_is_t_bool, ↓DL.z_is_t_int, ↓DL.z_is_t_str, ↓DL.z_is_t_tuple, ↓DL.z_is_t_list, ↓DL.z_is_n_bool, ↓DL.z_is_n_int, ↓DL.z_is_n_str, ↓DL.z_is_n_tuple, ↓DL.z_is_n_list, ↓DL.z_gslc, ↓DL.z_sc0, ↓DL.z_listO, ↓DL.z_lol, ↓DL.z_lot, ↓DL.z_fsum, ↓DL.z_own1, ↓DL.z_glen, ↓DL.z_gall, ↓DL.z_ixown, ↓DL.z_listG, ↓DL.z_ownit, ↓DL.z_fld, ↓DL.z_fz, ↓DL.z_fzs, ↓DL.z_xisi, ↓DL.z_xi, ↓DL.z_xval, ↓DL.z_xv, ↓DL.z_ixm, ↓DL.z_lm, ↓dTrim, ↓dLc, ↓dLcO, ↓dEnds, ↓z_gd1, ↓z_gd2, ↓z_gd3, ↓z_gdi, ↓z_gdo, slots, ↓reduceIte, decide_eq_true_eq, Bool.false_eq_true, Bool.not_true, Bool.not_false, decide_true, decide_false, Int.reduceEq, Int.reduceSub, Int.reduceAdd, Int.reduceLT, Int.reduceNeg, and_self, true_and, and_true]
  refine ⟨by omega, by rw [rng_length]; omega, fun k acc μ' => μ' = μ ∧ acc = (List.range k).map (fun k => .lst [.int 0, .int ((k : Nat) + 1), .str [s.getD k 0]]), ⟨rfl, rfl⟩, ?_, ?_⟩
  · rintro k d acc μ' hd _ ⟨rfl, rfl⟩
    obtain ⟨h1, rfl⟩ := rng_get hd
    obtain ⟨x, hx⟩ := ge_ h1
    simp only [Int.zero_add, List.map_cons, List.map_nil, List.length_cons, List.length_nil, Nat.reduceSub, Nat.reduceAdd, Nat.zero_add, Nat.sub_self, List.replicate, List.cons_append, List.nil_append, List.append_nil, List.set_cons_zero, List.set_cons_succ, List.take_succ_cons, List.take_zero, List.drop_zero, List.drop_succ_cons, List.drop_nil, List.take_nil, Nat.reduceLeDiff, ↓DL.z_var0, ↓DL.z_varS, ↓DL.z_name0, ↓DL.z_nameS, ↓DL.z_c, ↓DL.z_seq, ↓DL.z_next, ↓DL.z_if, ↓DL.z_asg, ↓DL.z_ret, ↓DL.z_drop, ↓DL.z_val, ↓DL.z_bl, ↓DL.z_and, ↓DL.z_or, ↓DL.z_not, ↓DL.z_bin, ↓DL.z_cb, ↓DL.z_nil, ↓DL.z_cons, ↓DL.z_i0, ↓DL.z_i, ↓DL.z_mul, ↓DL.z_add, ↓DL.z_lt, ↓DL.z_le, ↓DL.z_gt, ↓DL.z_ge, ↓DL.z_eq, ↓DL.z_ne, ↓DL.z_len, ↓DL.z_lens, ↓DL.z_int, ↓DL.z_intb, ↓DL.z_ixO, ↓DL.z_ix0, ↓DL.z_ix1, ↓DL.z_ix2, ↓DL.z_ix3, ↓DL.z_ix4, ↓DL.z_gsub, ↓DL.z_sub1, ↓DL.z_sub2, ↓DL.z_sub3, ↓DL.z_sub4, ↓DL.z_for, ↓DL.z_itA, ↓DL.z_any, ↓DL.z_itl, ↓DL.z_itt, ↓DL.z_its, ↓DL.z_lcg, ↓DL.z_yes, ↓DL.z_ifx, ↓DL.z_tup, ↓DL.z_lst, ↓DL.z_lstO, ↓DL.z_nop, ↓DL.z_part, ↓DL.z_pa, ↓DL.z_slx, ↓DL.z_sll, ↓DL.z_slt, ↓DL.z_sls, ↓DL.z_chain, ↓DL.z_ch, ↓DL.z_andv, ↓DL.z_orv, ↓DL.z_fnot, ↓DL.z_un, ↓DL.z_neg, ↓DL.z_call, ↓DL.z_prop, ↓DL.z_meth, ↓DL.z_make, ↓DL.z_obj, ↓DL.z_fl, ↓DL.z_flt, ↓DL.z_flf, ↓DL.z_ft, ↓DL.z_ftt, ↓DL.z_lent, ↓DL.z_adds, ↓DL.z_addl, ↓DL.z_addt, ↓DL.z_eqs, ↓DL.z_nes, ↓DL.z_eqb, ↓DL.z_eqn, ↓DL.z_eql, ↓DL.z_nel, ↓DL.z_isn, ↓DL.z_isnn, ↓DL.z_ins, ↓DL.z_nins, ↓DL.z_ixt, ↓DL.z_l0, ↓DL.z_l1, ↓DL.z_l2, ↓DL.z_rng, ↓DL.z_enl, ↓DL.z_ent, ↓DL.z_gtup, ↓DL.z_gcons, ↓DL.z_gnil, ↓DL.z_wipe0, ↓DL.z_wipe, ↓DL.z_mt, ↓DL.z_ty0, ↓DL.z_ty1, ↓DL.z_app0, ↓DL.z_app1, ↓DL.z_raise, ↓DL.z_ra, ↓DL.z_is_i_bool, ↓DL.z_is_i_int, ↓DL.z_is_i_str, ↓DL.z_is_i_tuple, ↓DL.z_is_i_list, ↓DL.z_is_b_bool, ↓DL.z_is_b_int, ↓DL.z_is_b_str, ↓DL.z_is_b_tuple, ↓DL.z_is_b_list, ↓DL.z_is_s_bool, ↓DL.z_is_s_int, ↓DL.z_is_s_str, ↓DL.z_is_s_tuple, ↓DL.z_is_s_list, ↓DL.z_is_l_bool, ↓DL.z_is_l_int, ↓DL.z_is_l_str, ↓DL.z_is_l_tuple, ↓DL.z_is_l_list, ↓DL.z_is_t_bool, ↓DL.z_is_t_int, ↓DL.z_is_t_str, ↓DL.z_is_t_tuple, ↓DL.z_is_t_list, ↓DL.z_is_n_bool, ↓DL.z_is_n_int, ↓DL.z_is_n_str, ↓DL.z_is_n_tuple, ↓DL.z_is_n_list, ↓DL.z_gslc, ↓DL.z_sc0, ↓DL.z_listO, ↓DL.z_lol, ↓DL.z_lot, ↓DL.z_fsum, ↓DL.z_own1, ↓DL.z_glen, ↓DL.z_gall, ↓DL.z_ixown, ↓DL.z_listG, ↓DL.z_ownit, ↓DL.z_fld, ↓DL.z_fz, ↓DL.z_fzs, ↓DL.z_xisi, ↓DL.z_xi, ↓DL.z_xval, ↓DL.z_xv, ↓DL.z_ixm, ↓DL.z_lm, ↓dTrim, ↓dLc, ↓dLcO, ↓dEnds, ↓z_gd1, ↓z_gd2, ↓z_gd3, ↓z_gdi, ↓z_gdo, slots, ↓reduceIte, decide_eq_true_eq, Bool.false_eq_true, Bool.not_true, Bool.not_false, decide_true, decide_false, Int.reduceEq, Int.reduceSub, Int.reduceAdd, Int.reduceLT, Int.reduceNeg, and_self, true_and, and_true, ↓z_ixs hx]
    simp [List.range_succ, List.getD, hx]
  rintro acc μ' _ ⟨rfl, rfl⟩
  rw [rng_length, jsD_len]
  refine ⟨by omega, fun k δ μ'' => ∃ f a b c d, μ'' = μ' ∧ f.length = tot s (js.take k) ∧ lin k f (js.drop k) = lin 0 (lin0 s) js ∧ δ = [some (.str s), some (.lst (jsD js)), some (.lst f), a, b, c, d],
    ⟨lin0 s, _, _, _, _, rfl, by simp [lin0, tot], rfl, rfl⟩, ?_, ?_⟩
  · rintro k d δ μ'' hd ⟨f, a, b, c, v, rfl, hf, ho, rfl⟩
    obtain ⟨h1, rfl⟩ := rng_get hd
    obtain ⟨⟨g, w⟩, hj⟩ := ge_ h1
    have hj2 : (jsD js)[k]? = some (.tup [.int g, .str w]) := by simp [jsD, hj, jD]
    obtain ⟨r, h1, h2, h3, h4, h5, h6⟩ := step_ hp hj
    obtain ⟨g, rfl⟩ := Int.eq_ofNat_of_zero_le h2
    have hr := play_len h1
    simp only [Int.zero_add, List.map_cons, List.map_nil, List.length_cons, List.length_nil, Nat.reduceSub, Nat.reduceAdd, Nat.zero_add, Nat.sub_self, List.replicate, List.cons_append, List.nil_append, List.append_nil, List.set_cons_zero, List.set_cons_succ, List.take_succ_cons, List.take_zero, List.drop_zero, List.drop_succ_cons, List.drop_nil, List.take_nil, Nat.reduceLeDiff, ↓DL.z_var0, ↓DL.z_varS, ↓DL.z_name0, ↓DL.z_nameS, ↓DL.z_c, ↓DL.z_seq, ↓DL.z_next, ↓DL.z_if, ↓DL.z_asg, ↓DL.z_ret, ↓DL.z_drop, ↓DL.z_val, ↓DL.z_bl, ↓DL.z_and, ↓DL.z_or, ↓DL.z_not, ↓DL.z_bin, ↓DL.z_cb, ↓DL.z_nil, ↓DL.z_cons, ↓DL.z_i0, ↓DL.z_i, ↓DL.z_mul, ↓DL.z_add, ↓DL.z_lt, ↓DL.z_le, ↓DL.z_gt, ↓DL.z_ge, ↓DL.z_eq, ↓DL.z_ne, ↓DL.z_len, ↓DL.z_lens, ↓DL.z_int, ↓DL.z_intb, ↓DL.z_ixO, ↓DL.z_ix0, ↓DL.z_ix1, ↓DL.z_ix2, ↓DL.z_ix3, ↓DL.z_ix4, ↓DL.z_gsub, ↓DL.z_sub1, ↓DL.z_sub2, ↓DL.z_sub3, ↓DL.z_sub4, ↓DL.z_for, ↓DL.z_itA, ↓DL.z_any, ↓DL.z_itl, ↓DL.z_itt, ↓DL.z_its, ↓DL.z_lcg, ↓DL.z_yes, ↓DL.z_ifx, ↓DL.z_tup, ↓DL.z_lst, ↓DL.z_lstO, ↓DL.z_nop, ↓DL.z_part, ↓DL.z_pa, ↓DL.z_slx, ↓DL.z_sll, ↓DL.z_slt, ↓DL.z_sls, ↓DL.z_chain, ↓DL.z_ch, ↓DL.z_andv, ↓DL.z_orv, ↓DL.z_fnot, ↓DL.z_un, ↓DL.z_neg, ↓DL.z_call, ↓DL.z_prop, ↓DL.z_meth, ↓DL.z_make, ↓DL.z_obj, ↓DL.z_fl, ↓DL.z_flt, ↓DL.z_flf, ↓DL.z_ft, ↓DL.z_ftt, ↓DL.z_lent, ↓DL.z_adds, ↓DL.z_addl, ↓DL.z_addt, ↓DL.z_eqs, ↓DL.z_nes, ↓DL.z_eqb, ↓DL.z_eqn, ↓DL.z_eql, ↓DL.z_nel, ↓DL.z_isn, ↓DL.z_isnn, ↓DL.z_ins, ↓DL.z_nins, ↓DL.z_ixt, ↓DL.z_l0, ↓DL.z_l1, ↓DL.z_l2, ↓DL.z_rng, ↓DL.z_enl, ↓DL.z_ent, ↓DL.z_gtup, ↓DL.z_gcons, ↓DL.z_gnil, ↓DL.z_wipe0, ↓DL.z_wipe, ↓DL.z_mt, ↓DL.z_ty0, ↓DL.z_ty1, ↓DL.z_app0, ↓DL.z_app1, ↓DL.z_raise, ↓DL.z_ra, ↓DL.z_is_i_bool, ↓DL.z_is_i_int, ↓DL.z_is_i_str, ↓DL.z_is_i_tuple, ↓DL.z_is_i_list, ↓DL.z_is_b_bool, ↓DL.z_is_b_int, ↓DL.z_is_b_str, ↓DL.z_is_b_tuple, ↓DL.z_is_b_list, ↓DL.z_is_s_bool, ↓DL.z_is_s_int, ↓DL.z_is_s_str, ↓DL.z_is_s_tuple, ↓DL.z_is_s_list, ↓DL.z_is_l_bool, ↓DL.z_is_l_int, ↓DL.z_is_l_str, ↓DL.z_is_l_tuple, ↓DL.z_is_l_list, ↓DL.z_is_t_bool, ↓DL.z_is_t_int, ↓DL.z_is_t_str, ↓DL.z_is_t_tuple, ↓DL.z_is_t_list, ↓DL.z_is_n_bool, ↓DL.z_is_n_int, ↓DL.z_is_n_str, ↓DL.z_is_n_tuple, ↓DL.z_is_n_list, ↓DL.z_gslc, ↓DL.z_sc0, ↓DL.z_listO, ↓DL.z_lol, ↓DL.z_lot, ↓DL.z_fsum, ↓DL.z_own1, ↓DL.z_glen, ↓DL.z_gall, ↓DL.z_ixown, ↓DL.z_listG, ↓DL.z_ownit, ↓DL.z_fld, ↓DL.z_fz, ↓DL.z_fzs, ↓DL.z_xisi, ↓DL.z_xi, ↓DL.z_xval, ↓DL.z_xv, ↓DL.z_ixm, ↓DL.z_lm, ↓dTrim, ↓dLc, ↓dLcO, ↓dEnds, ↓z_gd1, ↓z_gd2, ↓z_gd3, ↓z_gdi, ↓z_gdo, slots, ↓reduceIte, decide_eq_true_eq, Bool.false_eq_true, Bool.not_true, Bool.not_false, decide_true, decide_false, Int.reduceEq, Int.reduceSub, Int.reduceAdd, Int.reduceLT, Int.reduceNeg, and_self, true_and, and_true, ↓z_ixn hj2]
    refine ⟨by omega, by rw [rng_length]; omega, fun i acc μ3 => μ3 = μ'' ∧ acc = (List.range i).map (fun i => .lst [.int ((k : Nat) + 1), .int ((i : Nat) + 1), .str [w.getD i 0]]), ⟨rfl, rfl⟩, ?_, ?_⟩
    · rintro i d acc μ3 hd _ ⟨rfl, rfl⟩
      obtain ⟨h7, rfl⟩ := rng_get hd
      obtain ⟨x, hx⟩ := ge_ h7
      simp only [Int.zero_add, List.map_cons, List.map_nil, List.length_cons, List.length_nil, Nat.reduceSub, Nat.reduceAdd, Nat.zero_add, Nat.sub_self, List.replicate, List.cons_append, List.nil_append, List.append_nil, List.set_cons_zero, List.set_cons_succ, List.take_succ_cons, List.take_zero, List.drop_zero, List.drop_succ_cons, List.drop_nil, List.take_nil, Nat.reduceLeDiff, ↓DL.z_var0, ↓DL.z_varS, ↓DL.z_name0, ↓DL.z_nameS, ↓DL.z_c, ↓DL.z_seq, ↓DL.z_next, ↓DL.z_if, ↓DL.z_asg, ↓DL.z_ret, ↓DL.z_drop, ↓DL.z_val, ↓DL.z_bl, ↓DL.z_and, ↓DL.z_or, ↓DL.z_not, ↓DL.z_bin, ↓DL.z_cb, ↓DL.z_nil, ↓DL.z_cons, ↓DL.z_i0, ↓DL.z_i, ↓DL.z_mul, ↓DL.z_add, ↓DL.z_lt, ↓DL.z_le, ↓DL.z_gt, ↓DL.z_ge, ↓DL.z_eq, ↓DL.z_ne, ↓DL.z_len, ↓DL.z_lens, ↓DL.z_int, ↓DL.z_intb, ↓DL.z_ixO, ↓DL.z_ix0, ↓DL.z_ix1, ↓DL.z_ix2, ↓DL.z_ix3, ↓DL.z_ix4, ↓DL.z_gsub, ↓DL.z_sub1, ↓DL.z_sub2, ↓DL.z_sub3, ↓DL.z_sub4, ↓DL.z_for, ↓DL.z_itA, ↓DL.z_any, ↓DL.z_itl, ↓DL.z_itt, ↓DL.z_its, ↓DL.z_lcg, ↓DL.z_yes, ↓DL.z_ifx, ↓DL.z_tup, ↓DL.z_lst, ↓DL.z_lstO, ↓DL.z_nop, ↓DL.z_part, ↓DL.z_pa, ↓DL.z_slx, ↓DL.z_sll, ↓DL.z_slt, ↓DL.z_sls, ↓DL.z_chain, ↓DL.z_ch, ↓DL.z_andv, ↓DL.z_orv, ↓DL.z_fnot, ↓DL.z_un, ↓DL.z_neg, ↓DL.z_call, ↓DL.z_prop, ↓DL.z_meth, ↓DL.z_make, ↓DL.z_obj, ↓DL.z_fl, ↓DL.z_flt, ↓DL.z_flf, ↓DL.z_ft, ↓DL.z_ftt, ↓DL.z_lent, ↓DL.z_adds, ↓DL.z_addl, ↓DL.z_addt, ↓DL.z_eqs, ↓DL.z_nes, ↓DL.z_eqb, ↓DL.z_eqn, ↓DL.z_eql, ↓DL.z_nel, ↓DL.z_isn, ↓DL.z_isnn, ↓DL.z_ins, ↓DL.z_nins, ↓DL.z_ixt, ↓DL.z_l0, ↓DL.z_l1, ↓DL.z_l2, ↓DL.z_rng, ↓DL.z_enl, ↓DL.z_ent, ↓DL.z_gtup, ↓DL.z_gcons, ↓DL.z_gnil, ↓DL.z_wipe0, ↓DL.z_wipe, ↓DL.z_mt, ↓DL.z_ty0, ↓DL.z_ty1, ↓DL.z_app0, ↓DL.z_app1, ↓DL.z_raise, ↓DL.z_ra, ↓DL.z_is_i_bool, ↓DL.z_is_i_int, ↓DL.z_is_i_str, ↓DL.z_is_i_tuple, ↓DL.z_is_i_list, ↓DL.z_is_b_bool, ↓DL.z_is_b_int, ↓DL.z_is_b_str, ↓DL.z_is_b_tuple, ↓DL.z_is_b_list, ↓DL.z_is_s_bool, ↓DL.z_is_s_int, ↓DL.z_is_s_str, ↓DL.z_is_s_tuple, ↓DL.z_is_s_list, ↓DL.z_is_l_bool, ↓DL.z_is_l_int, ↓DL.z_is_l_str, ↓DL.z_is_l_tuple, ↓DL.z_is_l_list, ↓DL.z_is_t_bool, ↓DL.z_is_t_int, ↓DL.z_is_t_str, ↓DL.z_is_t_tuple, ↓DL.z_is_t_list, ↓DL.z_is_n_bool, ↓DL.z_is_n_int, ↓DL.z_is_n_str, ↓DL.z_is_n_tuple, ↓DL.z_is_n_list, ↓DL.z_gslc, ↓DL.z_sc0, ↓DL.z_listO, ↓DL.z_lol, ↓DL.z_lot, ↓DL.z_fsum, ↓DL.z_own1, ↓DL.z_glen, ↓DL.z_gall, ↓DL.z_ixown, ↓DL.z_listG, ↓DL.z_ownit, ↓DL.z_fld, ↓DL.z_fz, ↓DL.z_fzs, ↓DL.z_xisi, ↓DL.z_xi, ↓DL.z_xval, ↓DL.z_xv, ↓DL.z_ixm, ↓DL.z_lm, ↓dTrim, ↓dLc, ↓dLcO, ↓dEnds, ↓z_gd1, ↓z_gd2, ↓z_gd3, ↓z_gdi, ↓z_gdo, slots, ↓reduceIte, decide_eq_true_eq, Bool.false_eq_true, Bool.not_true, Bool.not_false, decide_true, decide_false, Int.reduceEq, Int.reduceSub, Int.reduceAdd, Int.reduceLT, Int.reduceNeg, and_self, true_and, and_true, ↓z_ixs hx]
      simp [List.range_succ, List.getD, hx]
    rintro acc μ3 _ ⟨rfl, rfl⟩
    rw [rng_length, cut_to _ _ (by omega), cut_from _ _ (by omega)]
    refine ⟨by simp; omega, by simp; omega, _, _, _, _, _, rfl, ?_, ?_, rfl⟩
    · rw [← play_len h5, ins_len _ _ _ (by omega)]; simp; omega
    · rw [← ho, drop1 hj]; rfl
  · rintro δ μ'' ⟨f, a, b, c, v, rfl, hf, ho, rfl⟩
    simp only [rng_length, List.drop_length, lin] at ho
    simp only [List.map_cons, List.map_nil, List.length_cons, List.length_nil, Nat.reduceSub, Nat.reduceAdd, Nat.zero_add, Nat.sub_self, List.replicate, List.cons_append, List.nil_append, List.append_nil, List.set_cons_zero, List.set_cons_succ, List.take_succ_cons, List.take_zero, List.drop_zero, List.drop_succ_cons, List.drop_nil, List.take_nil, Nat.reduceLeDiff, ↓DL.z_var0, ↓DL.z_varS, ↓DL.z_name0, ↓DL.z_nameS, ↓DL.z_c, ↓DL.z_seq, ↓DL.z_next, ↓DL.z_if, ↓DL.z_asg, ↓DL.z_ret, ↓DL.z_drop, ↓DL.z_val, ↓DL.z_bl, ↓DL.z_and, ↓DL.z_or, ↓DL.z_not, ↓DL.z_bin, ↓DL.z_cb, ↓DL.z_nil, ↓DL.z_cons, ↓DL.z_i0, ↓DL.z_i, ↓DL.z_mul, ↓DL.z_add, ↓DL.z_lt, ↓DL.z_le, ↓DL.z_gt, ↓DL.z_ge, ↓DL.z_eq, ↓DL.z_ne, ↓DL.z_len, ↓DL.z_lens, ↓DL.z_int, ↓DL.z_intb, ↓DL.z_ixO, ↓DL.z_ix0, ↓DL.z_ix1, ↓DL.z_ix2, ↓DL.z_ix3, ↓DL.z_ix4, ↓DL.z_gsub, ↓DL.z_sub1, ↓DL.z_sub2, ↓DL.z_sub3, ↓DL.z_sub4, ↓DL.z_for, ↓DL.z_itA, ↓DL.z_any, ↓DL.z_itl, ↓DL.z_itt, ↓DL.z_its, ↓DL.z_lcg, ↓DL.z_yes, ↓DL.z_ifx, ↓DL.z_tup, ↓DL.z_lst, ↓DL.z_lstO, ↓DL.z_nop, ↓DL.z_part, ↓DL.z_pa, ↓DL.z_slx, ↓DL.z_sll, ↓DL.z_slt, ↓DL.z_sls, ↓DL.z_chain, ↓DL.z_ch, ↓DL.z_andv, ↓DL.z_orv, ↓DL.z_fnot, ↓DL.z_un, ↓DL.z_neg, ↓DL.z_call, ↓DL.z_prop, ↓DL.z_meth, ↓DL.z_make, ↓DL.z_obj, ↓DL.z_fl, ↓DL.z_flt, ↓DL.z_flf, ↓DL.z_ft, ↓DL.z_ftt, ↓DL.z_lent, ↓DL.z_adds, ↓DL.z_addl, ↓DL.z_addt, ↓DL.z_eqs, ↓DL.z_nes, ↓DL.z_eqb, ↓DL.z_eqn, ↓DL.z_eql, ↓DL.z_nel, ↓DL.z_isn, ↓DL.z_isnn, ↓DL.z_ins, ↓DL.z_nins, ↓DL.z_ixt, ↓DL.z_l0, ↓DL.z_l1, ↓DL.z_l2, ↓DL.z_rng, ↓DL.z_enl, ↓DL.z_ent, ↓DL.z_gtup, ↓DL.z_gcons, ↓DL.z_gnil, ↓DL.z_wipe0, ↓DL.z_wipe, ↓DL.z_mt, ↓DL.z_ty0, ↓DL.z_ty1, ↓DL.z_app0, ↓DL.z_app1, ↓DL.z_raise, ↓DL.z_ra, ↓DL.z_is_i_bool, ↓DL.z_is_i_int, ↓DL.z_is_i_str, ↓DL.z_is_i_tuple, ↓DL.z_is_i_list, ↓DL.z_is_b_bool, ↓DL.z_is_b_int, ↓DL.z_is_b_str, ↓DL.z_is_b_tuple, ↓DL.z_is_b_list, ↓DL.z_is_s_bool, ↓DL.z_is_s_int, ↓DL.z_is_s_str, ↓DL.z_is_s_tuple, ↓DL.z_is_s_list, ↓DL.z_is_l_bool, ↓DL.z_is_l_int, ↓DL.z_is_l_str, ↓DL.z_is_l_tuple, ↓DL.z_is_l_list, ↓DL.z_is_t_bool, ↓DL.z_is_t_int, ↓DL.z_is_t_str, ↓DL.z_is_t_tuple, ↓DL.z_is_t_list, ↓DL.z_is_n_bool, ↓DL.z_is_n_int, ↓DL.z_is_n_str, ↓DL.z_is_n_tuple, ↓DL.z_is_n_list, ↓DL.z_gslc, ↓DL.z_sc0, ↓DL.z_listO, ↓DL.z_lol, ↓DL.z_lot, ↓DL.z_fsum, ↓DL.z_own1, ↓DL.z_glen, ↓DL.z_gall, ↓DL.z_ixown, ↓DL.z_listG, ↓DL.z_ownit, ↓DL.z_fld, ↓DL.z_fz, ↓DL.z_fzs, ↓DL.z_xisi, ↓DL.z_xi, ↓DL.z_xval, ↓DL.z_xv, ↓DL.z_ixm, ↓DL.z_lm, ↓dTrim, ↓dLc, ↓dLcO, ↓dEnds, ↓z_gd1, ↓z_gd2, ↓z_gd3, ↓z_gdi, ↓z_gdo, slots, ↓reduceIte, decide_eq_true_eq, Bool.false_eq_true, Bool.not_true, Bool.not_false, decide_true, decide_false, Int.reduceEq, Int.reduceSub, Int.reduceAdd, Int.reduceLT, Int.reduceNeg, and_self, true_and, and_true]
    rw [ho]
    exact hq
theorem sc_law_tells : FnScope ["growth", "start", "joins", "rows", "gap", "group", "row", "owners", "one", "turn", "told", "join", "k"] ["growth", "start", "joins"] (defScope (top 24)) := ⟨rfl, rfl, rfl, by decide +kernel, rfl, by decide +kernel, by decide +kernel⟩
theorem ok_law_tells (fx : Fx K mg C Dd) (h_law_line : FDa P w K mg base C "_law_line" 1 2 [] (df_law_line)) (h_law_same : FDa P w K mg base C "_law_same" 4 2 [] (df_law_same 4)) (h_p_row : PDa P w K mg base C 0 "row" 1 df_Growth_row) (h_g_stages : GDa P w K mg base C 0 "stages" 2 df_Growth_stages) (h_me_owners : MDa P w K mg base C 0 "owners" 1 0 [] df_Growth_owners) (h_o_iter : ItOwn P w K mg base (C.cls 0) "joins" 1) (h_o_getitem : ODa P w K mg base C 0 "__getitem__" 1 2 df_Growth_getitem) (h_o_abs : ODa P w K mg base C 0 "__abs__" 1 1 df_Growth_abs) (h_o_len : ODa P w K mg base C 0 "__len__" 1 1 df_Growth_len) (F : FunD K "_law_tells" "_law_tells" (defArgs (top 24)) (defBody (top 24)) (defScope (top 24)) [] [] fa fd) : FnOk P w K mg base (L2.CX P w) (5 + 1) fa fd ["growth", "start", "joins"] (spOf C K 3 (df_law_tells)) := by
  refine okD (k := 5) F sc_law_tells (fun cdv A outer s H E hr tk => (ss_cons (s_set 3 sc_law_tells.nd (e_lstO (a_cons (e_var 1) a_nil))) (ss_cons (s_for PassesOwn.leaving rfl (i_any (e_var 2)) (g_tup (n := 2) rfl (gs_cons (g_name 4 sc_law_tells.nd) (gs_cons (g_name 5 sc_law_tells.nd) gs_nil))) (ss_cons (s_set 6 sc_law_tells.nd (e_ixO 0 (e_var 3) (e_neg e_int))) (ss_one (s_expr (e_app 0 (e_var 3) (a_cons (e_op o_add (e_op o_add (e_sl (e_var 6) o_none (o_some (e_var 4))) (e_var 5)) (e_sl (e_var 6) (o_some (e_var 4)) o_none)) a_nil)))))) (ss_fz 3 (ss_cons (s_setLc [("one", 8)] 7 rfl sc_law_tells.nd (i_any (e_call 0 h_law_line (hr.mono (by decide)) tk (a_cons (e_var 1) (a_cons (e_var 2) a_nil)))) (blkOk_by (N := ["growth", "start", "joins", "rows", "gap", "group", "row", "owners", "one", "turn", "told", "join", "k"]) (sc := defScope (top 24)) (by decide +kernel)) (fun Y hY => by obtain ⟨s9, H9, P9, cl9, fp9, rfl⟩ := hY; exact (g_name 8 sc_law_tells.nd)) (in_name (by decide)) mg_name (fun Y hY => by obtain ⟨s9, H9, P9, cl9, fp9, rfl⟩ := hY; exact (e_tup (a_cons (e_ix (e_var 8) e_int) (a_cons (e_ix (e_var 8) e_int) a_nil))))) (ss_cons (s_for PassesOwn.leaving rfl (i_rng1 fx.range (a_cons e_int a_nil)) (g_name 9 sc_law_tells.nd) (ss_trim 0 (ss_cons (s_if (t_not (t_val (e_call 0 h_law_same (hr.mono (by decide)) tk (a_cons (e_tup (a_cons (e_fld 1 fx.fn_1 fx.fo_1 (e_var 0)) (a_cons (e_fld 2 fx.fn_2 fx.fo_2 (e_var 0)) (a_cons (e_prop 0 h_p_row (hr.mono (by decide)) (e_var 0)) a_nil)))) (a_cons (e_tup (a_cons (e_var 1) (a_cons (e_bt c_tuple fx.tuple (by decide +kernel) (a_cons (e_var 2) a_nil)) (a_cons (e_ix (e_var 3) (e_neg e_int)) a_nil)))) a_nil))))) (ss_one (s_ret e_bl)) ss_nil) (ss_cons (s_if (t_not (t_val (e_call 0 h_law_same (hr.mono (by decide)) tk (a_cons (e_listG h_g_stages (hr.mono (by decide)) fx.list (e_var 0)) (a_cons (e_var 3) a_nil))))) (ss_one (s_ret e_bl)) ss_nil) (ss_cons (s_set 10 sc_law_tells.nd (e_meth0 0 h_me_owners (hr.mono (by decide)) tk (e_var 0))) (ss_cons (s_if (t_not (t_val (e_lend 10 (e_call 0 h_law_same (hr.mono (by decide)) tk (a_cons (e_var 10) (a_cons (e_var 7) a_nil)))))) (ss_one (s_ret e_bl)) ss_nil) (ss_cons (s_expr (e_app 0 (e_var 10) (a_cons (e_tup (a_cons e_int (a_cons e_int a_nil))) a_nil))) (ss_one (s_asg (e_tup (a_cons e_int (a_cons e_int a_nil))) (g_sub (W := noW) 0 (e_var 10) e_int)))))))))) (ss_cons (s_set 10 sc_law_tells.nd (e_lstO a_nil)) (ss_cons (s_for PassesOwn.leaving rfl (i_own fx.fn_2 h_o_iter (hr.mono (by decide)) (e_var 0)) (g_name 11 sc_law_tells.nd) (ss_one (s_expr (e_app 0 (e_var 10) (a_cons (e_var 11) a_nil))))) (ss_fz 10 (ss_cons (s_if (DPW.t (w_or (t_not (t_val (e_call 0 h_law_same (hr.mono (by decide)) tk (a_cons (e_var 10) (a_cons (e_bt c_list fx.list (by decide +kernel) (a_cons (e_var 2) a_nil)) a_nil))))) (w_or1 (t_not (t_val (e_call 0 h_law_same (hr.mono (by decide)) tk (a_cons (e_lc [("k", 12)]  rfl sc_law_tells.nd (i_rng1 fx.range (a_cons (e_bi c_len fx.len (by decide +kernel) (a_cons (e_var 2) a_nil)) a_nil)) (blkOk_by (N := ["growth", "start", "joins", "rows", "gap", "group", "row", "owners", "one", "turn", "told", "join", "k"]) (sc := defScope (top 24)) (by decide +kernel)) (fun Y hY => by obtain ⟨s9, H9, P9, cl9, fp9, rfl⟩ := hY; exact (g_name 12 sc_law_tells.nd)) (in_name (by decide)) mg_name (fun Y hY => by obtain ⟨s9, H9, P9, cl9, fp9, rfl⟩ := hY; exact (e_ixOwn h_o_getitem fx.f_getitem (hr.mono (by decide)) (e_var 0) (e_var 12)))) (a_cons (e_bt c_list fx.list (by decide +kernel) (a_cons (e_var 2) a_nil)) a_nil)))))))) (ss_one (s_ret e_bl)) ss_nil) (ss_one (s_ret (e_and (e_call 0 h_law_same (hr.mono (by decide)) tk (a_cons (e_lenO h_o_len (hr.mono (by decide)) fx.len (e_var 0)) (a_cons (e_bi c_len fx.len (by decide +kernel) (a_cons (e_var 2) a_nil)) a_nil))) (e_one (e_call 0 h_law_same (hr.mono (by decide)) tk (a_cons (e_absO h_o_abs (hr.mono (by decide)) fx.abs (e_var 0)) (a_cons (e_bi (c_sum rfl) fx.sum (by decide +kernel) (a_cons (e_lc [("join", 11)]  rfl sc_law_tells.nd (i_any (e_var 2)) (blkOk_by (N := ["growth", "start", "joins", "rows", "gap", "group", "row", "owners", "one", "turn", "told", "join", "k"]) (sc := defScope (top 24)) (by decide +kernel)) (fun Y hY => by obtain ⟨s9, H9, P9, cl9, fp9, rfl⟩ := hY; exact (g_name 11 sc_law_tells.nd)) (in_name (by decide)) mg_name (fun Y hY => by obtain ⟨s9, H9, P9, cl9, fp9, rfl⟩ := hY; exact (e_bi c_len fx.len (by decide +kernel) (a_cons (e_ix (e_var 11) e_int) a_nil)))) a_nil)) a_nil))))))))))))))))) ?_
  intro ds μ Q R hl h
  obtain ⟨s, js, e, rfl, rfl, hp, ht, hn, hq⟩ := h
  have hsl : s.length ≤ 100000 := by simp only [tot] at ht; omega
  simp only [List.map_cons, List.map_nil, List.length_cons, List.length_nil, Nat.reduceSub, Nat.reduceAdd, Nat.zero_add, Nat.sub_self, List.replicate, List.cons_append, List.nil_append, List.append_nil, List.set_cons_zero, List.set_cons_succ, List.take_succ_cons, List.take_zero, List.drop_zero, List.drop_succ_cons, List.drop_nil, List.take_nil, Nat.reduceLeDiff, ↓DL.z_var0, ↓DL.z_varS, ↓DL.z_name0, ↓DL.z_nameS, ↓DL.z_c, ↓DL.z_seq, ↓DL.z_next, ↓DL.z_if, ↓DL.z_asg, ↓DL.z_ret, ↓DL.z_drop, ↓DL.z_val, ↓DL.z_bl, ↓DL.z_and, ↓DL.z_or, ↓DL.z_not, ↓DL.z_bin, ↓DL.z_cb, ↓DL.z_nil, ↓DL.z_cons, ↓DL.z_i0, ↓DL.z_i, ↓DL.z_mul, ↓DL.z_add, ↓DL.z_lt, ↓DL.z_le, ↓DL.z_gt, ↓DL.z_ge, ↓DL.z_eq, ↓DL.z_ne, ↓DL.z_len, ↓DL.z_lens, ↓DL.z_int, ↓DL.z_intb, ↓DL.z_ixO, ↓DL.z_ix0, ↓DL.z_ix1, ↓DL.z_ix2, ↓DL.z_ix3, ↓DL.z_ix4, ↓DL.z_gsub, ↓DL.z_sub1, ↓DL.z_sub2, ↓DL.z_sub3, ↓DL.z_sub4, ↓DL.z_for, ↓DL.z_itA, ↓DL.z_any, ↓DL.z_itl, ↓DL.z_itt, ↓DL.z_its, ↓DL.z_lcg, ↓DL.z_yes, ↓DL.z_ifx, ↓DL.z_tup, ↓DL.z_lst, ↓DL.z_lstO, ↓DL.z_nop, ↓DL.z_part, ↓DL.z_pa, ↓DL.z_slx, ↓DL.z_sll, ↓DL.z_slt, ↓DL.z_sls, ↓DL.z_chain, ↓DL.z_ch, ↓DL.z_andv, ↓DL.z_orv, ↓DL.z_fnot, ↓DL.z_un, ↓DL.z_neg, ↓DL.z_call, ↓DL.z_prop, ↓DL.z_meth, ↓DL.z_make, ↓DL.z_obj, ↓DL.z_fl, ↓DL.z_flt, ↓DL.z_flf, ↓DL.z_ft, ↓DL.z_ftt, ↓DL.z_lent, ↓DL.z_adds, ↓DL.z_addl, ↓DL.z_addt, ↓DL.z_eqs, ↓DL.z_nes, ↓DL.z_eqb, ↓DL.z_eqn, ↓DL.z_eql, ↓DL.z_nel, ↓DL.z_isn, ↓DL.z_isnn, ↓DL.z_ins, ↓DL.z_nins, ↓DL.z_ixt, ↓DL.z_l0, ↓DL.z_l1, ↓DL.z_l2, ↓DL.z_rng, ↓DL.z_enl, ↓DL.z_ent, ↓DL.z_gtup, ↓DL.z_gcons, ↓DL.z_gnil, ↓DL.z_wipe0, ↓DL.z_wipe, ↓DL.z_mt, ↓DL.z_ty0, ↓DL.z_ty1, ↓DL.z_app0, ↓DL.z_app1, ↓DL.z_raise, ↓DL.z_ra, ↓DL.z_is_i_bool, ↓DL.z_is_i_int, ↓DL.z_is_i_str, ↓DL.z_is_i_tuple, ↓DL.z_is_i_list, ↓DL.z_is_b_bool, ↓DL.z_is_b_int, ↓DL.z_is_b_str, ↓DL.z_is_b_tuple, ↓DL.z_is_b_list, ↓DL.z_is_s_bool, ↓DL.z_is_s_int, ↓DL.z_is_s_str, ↓DL.z_is_s_tuple, ↓DL.z_is_s_list, ↓DL.z_is_l_bool, ↓DL.z_is_l_int, ↓DL.z_is_l_str, ↓DL.z_is_l_tuple, ↓DL.z_is_l_list, ↓DL.z_is_t_bool, ↓DL.z_is_t_int, ↓DL.z_is_t_str, ↓DL.z_is_t_tuple, ↓DL.z_is_t_list, ↓DL.z_is_n_bool, ↓DL.z_is_n_int, ↓DL.z_is_n_str, ↓DL.z_is_n_tuple, ↓DL.z_is_n_list, ↓DL.z_gslc, ↓DL.z_sc0, ↓DL.z_listO, ↓DL.z_lol, ↓DL.z_lot, ↓DL.z_fsum, ↓DL.z_own1, ↓DL.z_glen, ↓DL.z_gall, ↓DL.z_ixown, ↓DL.z_listG, ↓DL.z_ownit, ↓DL.z_fld, ↓DL.z_fz, ↓DL.z_fzs, ↓DL.z_xisi, ↓DL.z_xi, ↓DL.z_xval, ↓DL.z_xv, ↓DL.z_ixm, ↓DL.z_lm, ↓dTrim, ↓dLc, ↓dLcO, ↓dEnds, ↓z_gd1, ↓z_gd2, ↓z_gd3, ↓z_gdi, ↓z_gdo, slots, ↓reduceIte, decide_eq_true_eq, Bool.false_eq_true, Bool.not_true, Bool.not_false, decide_true, decide_false, Int.reduceEq, Int.reduceSub, Int.reduceAdd, Int.reduceLT, Int.reduceNeg, and_self, true_and, and_true]
  intro p
  refine ⟨fun k δ μ' => ∃ a b c, μ' = [(p, .lst ((stg s (js.take k)).map D.str))] ∧ δ = [some (gD s js e), some (.str s), some (.lst (jsD js)), some (.adr p), a, b, c, none, none, none, none, none, none],
    ⟨_, _, _, rfl, rfl⟩, ?_, ?_⟩
  · rintro k d δ μ' hd ⟨a, b, c, rfl, rfl⟩
    obtain ⟨⟨g, w⟩, hj, rfl⟩ := jsD_get hd
    obtain ⟨r, h1, h2, h3, h4, h5, h6⟩ := step_ hp hj
    obtain ⟨g, rfl⟩ := Int.eq_ofNat_of_zero_le h2
    obtain ⟨l, hl⟩ := stg_last h1
    have hk := lt_ hj
    have hll := stg_len s (js.take k)
    have e1 : (stg s (js.take (k + 1))).map D.str = l.map D.str ++ [D.str r] ++ [D.str (r.take g ++ w ++ r.drop g)] := by
      rw [take1 hj, stg_snoc h1, hl]
      simp only [List.map_append, List.map_cons, List.map_nil, ins, Int.toNat_natCast]
    rw [hl, List.map_append, List.map_cons, List.map_nil]
    simp only [List.map_cons, List.map_nil, List.length_cons, List.length_nil, Nat.reduceSub, Nat.reduceAdd, Nat.zero_add, Nat.sub_self, List.replicate, List.cons_append, List.nil_append, List.append_nil, List.set_cons_zero, List.set_cons_succ, List.take_succ_cons, List.take_zero, List.drop_zero, List.drop_succ_cons, List.drop_nil, List.take_nil, Nat.reduceLeDiff, ↓DL.z_var0, ↓DL.z_varS, ↓DL.z_name0, ↓DL.z_nameS, ↓DL.z_c, ↓DL.z_seq, ↓DL.z_next, ↓DL.z_if, ↓DL.z_asg, ↓DL.z_ret, ↓DL.z_drop, ↓DL.z_val, ↓DL.z_bl, ↓DL.z_and, ↓DL.z_or, ↓DL.z_not, ↓DL.z_bin, ↓DL.z_cb, ↓DL.z_nil, ↓DL.z_cons, ↓DL.z_i0, ↓DL.z_i, ↓DL.z_mul, ↓DL.z_add, ↓DL.z_lt, ↓DL.z_le, ↓DL.z_gt, ↓DL.z_ge, ↓DL.z_eq, ↓DL.z_ne, ↓DL.z_len, ↓DL.z_lens, ↓DL.z_int, ↓DL.z_intb, ↓DL.z_ixO, ↓DL.z_ix0, ↓DL.z_ix1, ↓DL.z_ix2, ↓DL.z_ix3, ↓DL.z_ix4, ↓DL.z_gsub, ↓DL.z_sub1, ↓DL.z_sub2, ↓DL.z_sub3, ↓DL.z_sub4, ↓DL.z_for, ↓DL.z_itA, ↓DL.z_any, ↓DL.z_itl, ↓DL.z_itt, ↓DL.z_its, ↓DL.z_lcg, ↓DL.z_yes, ↓DL.z_ifx, ↓DL.z_tup, ↓DL.z_lst, ↓DL.z_lstO, ↓DL.z_nop, ↓DL.z_part, ↓DL.z_pa, ↓DL.z_slx, ↓DL.z_sll, ↓DL.z_slt, ↓DL.z_sls, ↓DL.z_chain, ↓DL.z_ch, ↓DL.z_andv, ↓DL.z_orv, ↓DL.z_fnot, ↓DL.z_un, ↓DL.z_neg, ↓DL.z_call, ↓DL.z_prop, ↓DL.z_meth, ↓DL.z_make, ↓DL.z_obj, ↓DL.z_fl, ↓DL.z_flt, ↓DL.z_flf, ↓DL.z_ft, ↓DL.z_ftt, ↓DL.z_lent, ↓DL.z_adds, ↓DL.z_addl, ↓DL.z_addt, ↓DL.z_eqs, ↓DL.z_nes, ↓DL.z_eqb, ↓DL.z_eqn, ↓DL.z_eql, ↓DL.z_nel, ↓DL.z_isn, ↓DL.z_isnn, ↓DL.z_ins, ↓DL.z_nins, ↓DL.z_ixt, ↓DL.z_l0, ↓DL.z_l1, ↓DL.z_l2, ↓DL.z_rng, ↓DL.z_enl, ↓DL.z_ent, ↓DL.z_gtup, ↓DL.z_gcons, ↓DL.z_gnil, ↓DL.z_wipe0, ↓DL.z_wipe, ↓DL.z_mt, ↓DL.z_ty0, ↓DL.z_ty1, ↓DL.z_app0, ↓DL.z_app1, ↓DL.z_raise, ↓DL.z_ra, ↓DL.z_is_i_bool, ↓DL.z_is_i_int, ↓DL.z_is_i_str, ↓DL.z_is_i_tuple, ↓DL.z_is_i_list, ↓DL.z_is_b_bool, ↓DL.z_is_b_int, ↓DL.z_is_b_str, ↓DL.z_is_b_tuple, ↓DL.z_is_b_list, ↓DL.z_is_s_bool, ↓DL.z_is_s_int, ↓DL.z_is_s_str, ↓DL.z_is_s_tuple, ↓DL.z_is_s_list, ↓DL.z_is_l_bool, ↓DL.z_is_l_int, ↓DL.z_is_l_str, ↓DL.z_is_l_tuple, ↓DL.z_is_l_list, ↓DL.z_is_t_bool, ↓DL.z_is_t_int, ↓DL.z_is_t_str, ↓DL.z_is_t_tuple, ↓DL.z_is_t_list, ↓DL.z_is_n_bool, ↓DL.z_is_n_int, ↓DL.z_is_n_str, ↓DL.z_is_n_tuple, ↓DL.z_is_n_list, ↓DL.z_gslc, ↓DL.z_sc0, ↓DL.z_listO, ↓DL.z_lol, ↓DL.z_lot, ↓DL.z_fsum, ↓DL.z_own1, ↓DL.z_glen, ↓DL.z_gall, ↓DL.z_ixown, ↓DL.z_listG, ↓DL.z_ownit, ↓DL.z_fld, ↓DL.z_fz, ↓DL.z_fzs, ↓DL.z_xisi, ↓DL.z_xi, ↓DL.z_xval, ↓DL.z_xv, ↓DL.z_ixm, ↓DL.z_lm, ↓dTrim, ↓dLc, ↓dLcO, ↓dEnds, ↓z_gd1, ↓z_gd2, ↓z_gd3, ↓z_gdi, ↓z_gdo, slots, ↓reduceIte, decide_eq_true_eq, Bool.false_eq_true, Bool.not_true, Bool.not_false, decide_true, decide_false, Int.reduceEq, Int.reduceSub, Int.reduceAdd, Int.reduceLT, Int.reduceNeg, and_self, true_and, and_true, jD]
    rw [cut_to _ _ (by omega), cut_from _ _ (by omega)]
    refine ⟨by rw [List.length_take]; omega, by simp only [List.length_append, List.length_take, List.length_drop]; omega, ?_, _, _, _, by rw [e1], rfl⟩
    rw [hl, List.length_append, List.length_take] at hll
    simp only [List.length_append, List.length_map]; simp at hll ⊢; omega
  · rintro δ μ' ⟨a, b, c, rfl, rfl⟩
    refine ⟨p, [], _, rfl, rfl, ?_⟩
    rw [jsD_len, List.take_length]
    simp only [List.map_cons, List.map_nil, List.length_cons, List.length_nil, Nat.reduceSub, Nat.reduceAdd, Nat.zero_add, Nat.sub_self, List.replicate, List.cons_append, List.nil_append, List.append_nil, List.set_cons_zero, List.set_cons_succ, List.take_succ_cons, List.take_zero, List.drop_zero, List.drop_succ_cons, List.drop_nil, List.take_nil, Nat.reduceLeDiff, ↓DL.z_var0, ↓DL.z_varS, ↓DL.z_name0, ↓DL.z_nameS, ↓DL.z_c, ↓DL.z_seq, ↓DL.z_next, ↓DL.z_if, ↓DL.z_asg, ↓DL.z_ret, ↓DL.z_drop, ↓DL.z_val, ↓DL.z_bl, ↓DL.z_and, ↓DL.z_or, ↓DL.z_not, ↓DL.z_bin, ↓DL.z_cb, ↓DL.z_nil, ↓DL.z_cons, ↓DL.z_i0, ↓DL.z_i, ↓DL.z_mul, ↓DL.z_add, ↓DL.z_lt, ↓DL.z_le, ↓DL.z_gt, ↓DL.z_ge, ↓DL.z_eq, ↓DL.z_ne, ↓DL.z_len, ↓DL.z_lens, ↓DL.z_int, ↓DL.z_intb, ↓DL.z_ixO, ↓DL.z_ix0, ↓DL.z_ix1, ↓DL.z_ix2, ↓DL.z_ix3, ↓DL.z_ix4, ↓DL.z_gsub, ↓DL.z_sub1, ↓DL.z_sub2, ↓DL.z_sub3, ↓DL.z_sub4, ↓DL.z_for, ↓DL.z_itA, ↓DL.z_any, ↓DL.z_itl, ↓DL.z_itt, ↓DL.z_its, ↓DL.z_lcg, ↓DL.z_yes, ↓DL.z_ifx, ↓DL.z_tup, ↓DL.z_lst, ↓DL.z_lstO, ↓DL.z_nop, ↓DL.z_part, ↓DL.z_pa, ↓DL.z_slx, ↓DL.z_sll, ↓DL.z_slt, ↓DL.z_sls, ↓DL.z_chain, ↓DL.z_ch, ↓DL.z_andv, ↓DL.z_orv, ↓DL.z_fnot, ↓DL.z_un, ↓DL.z_neg, ↓DL.z_call, ↓DL.z_prop, ↓DL.z_meth, ↓DL.z_make, ↓DL.z_obj, ↓DL.z_fl, ↓DL.z_flt, ↓DL.z_flf, ↓DL.z_ft, ↓DL.z_ftt, ↓DL.z_lent, ↓DL.z_adds, ↓DL.z_addl, ↓DL.z_addt, ↓DL.z_eqs, ↓DL.z_nes, ↓DL.z_eqb, ↓DL.z_eqn, ↓DL.z_eql, ↓DL.z_nel, ↓DL.z_isn, ↓DL.z_isnn, ↓DL.z_ins, ↓DL.z_nins, ↓DL.z_ixt, ↓DL.z_l0, ↓DL.z_l1, ↓DL.z_l2, ↓DL.z_rng, ↓DL.z_enl, ↓DL.z_ent, ↓DL.z_gtup, ↓DL.z_gcons, ↓DL.z_gnil, ↓DL.z_wipe0, ↓DL.z_wipe, ↓DL.z_mt, ↓DL.z_ty0, ↓DL.z_ty1, ↓DL.z_app0, ↓DL.z_app1, ↓DL.z_raise, ↓DL.z_ra, ↓DL.z_is_i_bool, ↓DL.z_is_i_int, ↓DL.z_is_i_str, ↓DL.z_is_i_tuple, ↓DL.z_is_i_list, ↓DL.z_is_b_bool, ↓DL.z_is_b_int, ↓DL.z_is_b_str, ↓DL.z_is_b_tuple, ↓DL.z_is_b_list, ↓DL.z_is_s_bool, ↓DL.z_is_s_int, ↓DL.z_is_s_str, ↓DL.z_is_s_tuple, ↓DL.z_is_s_list, ↓DL.z_is_l_bool, ↓DL.z_is_l_int, ↓DL.z_is_l_str, ↓DL.z_is_l_tuple, ↓DL.z_is_l_list, ↓DL.z_is_t_bool, ↓DL.z_is_t_int, ↓DL.z_is_t_str, ↓DL.z_is_t_tuple, ↓DL.z_is_t_list, ↓DL.z_is_n_bool, ↓DL.z_is_n_int, ↓DL.z_is_n_str, ↓DL.z_is_n_tuple, ↓DL.z_is_n_list, ↓DL.z_gslc, ↓DL.z_sc0, ↓DL.z_listO, ↓DL.z_lol, ↓DL.z_lot, ↓DL.z_fsum, ↓DL.z_own1, ↓DL.z_glen, ↓DL.z_gall, ↓DL.z_ixown, ↓DL.z_listG, ↓DL.z_ownit, ↓DL.z_fld, ↓DL.z_fz, ↓DL.z_fzs, ↓DL.z_xisi, ↓DL.z_xi, ↓DL.z_xval, ↓DL.z_xv, ↓DL.z_ixm, ↓DL.z_lm, ↓dTrim, ↓dLc, ↓dLcO, ↓dEnds, ↓z_gd1, ↓z_gd2, ↓z_gd3, ↓z_gdi, ↓z_gdo, slots, ↓reduceIte, decide_eq_true_eq, Bool.false_eq_true, Bool.not_true, Bool.not_false, decide_true, decide_false, Int.reduceEq, Int.reduceSub, Int.reduceAdd, Int.reduceLT, Int.reduceNeg, and_self, true_and, and_true]
    refine ⟨s, js, e, rfl, hp, ht, hn, ?_⟩
    simp only [List.map_cons, List.map_nil, List.length_cons, List.length_nil, Nat.reduceSub, Nat.reduceAdd, Nat.zero_add, Nat.sub_self, List.replicate, List.cons_append, List.nil_append, List.append_nil, List.set_cons_zero, List.set_cons_succ, List.take_succ_cons, List.take_zero, List.drop_zero, List.drop_succ_cons, List.drop_nil, List.take_nil, Nat.reduceLeDiff, ↓DL.z_var0, ↓DL.z_varS, ↓DL.z_name0, ↓DL.z_nameS, ↓DL.z_c, ↓DL.z_seq, ↓DL.z_next, ↓DL.z_if, ↓DL.z_asg, ↓DL.z_ret, ↓DL.z_drop, ↓DL.z_val, ↓DL.z_bl, ↓DL.z_and, ↓DL.z_or, ↓DL.z_not, ↓DL.z_bin, ↓DL.z_cb, ↓DL.z_nil, ↓DL.z_cons, ↓DL.z_i0, ↓DL.z_i, ↓DL.z_mul, ↓DL.z_add, ↓DL.z_lt, ↓DL.z_le, ↓DL.z_gt, ↓DL.z_ge, ↓DL.z_eq, ↓DL.z_ne, ↓DL.z_len, ↓DL.z_lens, ↓DL.z_int, ↓DL.z_intb, ↓DL.z_ixO, ↓DL.z_ix0, ↓DL.z_ix1, ↓DL.z_ix2, ↓DL.z_ix3, ↓DL.z_ix4, ↓DL.z_gsub, ↓DL.z_sub1, ↓DL.z_sub2, ↓DL.z_sub3, ↓DL.z_sub4, ↓DL.z_for, ↓DL.z_itA, ↓DL.z_any, ↓DL.z_itl, ↓DL.z_itt, ↓DL.z_its, ↓DL.z_lcg, ↓DL.z_yes, ↓DL.z_ifx, ↓DL.z_tup, ↓DL.z_lst, ↓DL.z_lstO, ↓DL.z_nop, ↓DL.z_part, ↓DL.z_pa, ↓DL.z_slx, ↓DL.z_sll, ↓DL.z_slt, ↓DL.z_sls, ↓DL.z_chain, ↓DL.z_ch, ↓DL.z_andv, ↓DL.z_orv, ↓DL.z_fnot, ↓DL.z_un, ↓DL.z_neg, ↓DL.z_call, ↓DL.z_prop, ↓DL.z_meth, ↓DL.z_make, ↓DL.z_obj, ↓DL.z_fl, ↓DL.z_flt, ↓DL.z_flf, ↓DL.z_ft, ↓DL.z_ftt, ↓DL.z_lent, ↓DL.z_adds, ↓DL.z_addl, ↓DL.z_addt, ↓DL.z_eqs, ↓DL.z_nes, ↓DL.z_eqb, ↓DL.z_eqn, ↓DL.z_eql, ↓DL.z_nel, ↓DL.z_isn, ↓DL.z_isnn, ↓DL.z_ins, ↓DL.z_nins, ↓DL.z_ixt, ↓DL.z_l0, ↓DL.z_l1, ↓DL.z_l2, ↓DL.z_rng, ↓DL.z_enl, ↓DL.z_ent, ↓DL.z_gtup, ↓DL.z_gcons, ↓DL.z_gnil, ↓DL.z_wipe0, ↓DL.z_wipe, ↓DL.z_mt, ↓DL.z_ty0, ↓DL.z_ty1, ↓DL.z_app0, ↓DL.z_app1, ↓DL.z_raise, ↓DL.z_ra, ↓DL.z_is_i_bool, ↓DL.z_is_i_int, ↓DL.z_is_i_str, ↓DL.z_is_i_tuple, ↓DL.z_is_i_list, ↓DL.z_is_b_bool, ↓DL.z_is_b_int, ↓DL.z_is_b_str, ↓DL.z_is_b_tuple, ↓DL.z_is_b_list, ↓DL.z_is_s_bool, ↓DL.z_is_s_int, ↓DL.z_is_s_str, ↓DL.z_is_s_tuple, ↓DL.z_is_s_list, ↓DL.z_is_l_bool, ↓DL.z_is_l_int, ↓DL.z_is_l_str, ↓DL.z_is_l_tuple, ↓DL.z_is_l_list, ↓DL.z_is_t_bool, ↓DL.z_is_t_int, ↓DL.z_is_t_str, ↓DL.z_is_t_tuple, ↓DL.z_is_t_list, ↓DL.z_is_n_bool, ↓DL.z_is_n_int, ↓DL.z_is_n_str, ↓DL.z_is_n_tuple, ↓DL.z_is_n_list, ↓DL.z_gslc, ↓DL.z_sc0, ↓DL.z_listO, ↓DL.z_lol, ↓DL.z_lot, ↓DL.z_fsum, ↓DL.z_own1, ↓DL.z_glen, ↓DL.z_gall, ↓DL.z_ixown, ↓DL.z_listG, ↓DL.z_ownit, ↓DL.z_fld, ↓DL.z_fz, ↓DL.z_fzs, ↓DL.z_xisi, ↓DL.z_xi, ↓DL.z_xval, ↓DL.z_xv, ↓DL.z_ixm, ↓DL.z_lm, ↓dTrim, ↓dLc, ↓dLcO, ↓dEnds, ↓z_gd1, ↓z_gd2, ↓z_gd3, ↓z_gdi, ↓z_gdo, slots, ↓reduceIte, decide_eq_true_eq, Bool.false_eq_true, Bool.not_true, Bool.not_false, decide_true, decide_false, Int.reduceEq, Int.reduceSub, Int.reduceAdd, Int.reduceLT, Int.reduceNeg, and_self, true_and, and_true]
    have hlen := lin_len 0 (lin0 s) js
    refine ⟨by rw [hlen]; simp only [tot, lin0, List.length_map, List.length_range] at *; omega, fun k acc μ' => μ' = [] ∧ acc = ((lin 0 (lin0 s) js).take k).map pr, ⟨rfl, rfl⟩, ?_, ?_⟩
    · rintro k d acc μ' hd _ ⟨rfl, rfl⟩
      obtain ⟨x, y, z, rfl⟩ := lin_sh 0 (lin0 s) js (lin0_sh s) _ (mem_ hd)
      simp only [List.map_cons, List.map_nil, List.length_cons, List.length_nil, Nat.reduceSub, Nat.reduceAdd, Nat.zero_add, Nat.sub_self, List.replicate, List.cons_append, List.nil_append, List.append_nil, List.set_cons_zero, List.set_cons_succ, List.take_succ_cons, List.take_zero, List.drop_zero, List.drop_succ_cons, List.drop_nil, List.take_nil, Nat.reduceLeDiff, ↓DL.z_var0, ↓DL.z_varS, ↓DL.z_name0, ↓DL.z_nameS, ↓DL.z_c, ↓DL.z_seq, ↓DL.z_next, ↓DL.z_if, ↓DL.z_asg, ↓DL.z_ret, ↓DL.z_drop, ↓DL.z_val, ↓DL.z_bl, ↓DL.z_and, ↓DL.z_or, ↓DL.z_not, ↓DL.z_bin, ↓DL.z_cb, ↓DL.z_nil, ↓DL.z_cons, ↓DL.z_i0, ↓DL.z_i, ↓DL.z_mul, ↓DL.z_add, ↓DL.z_lt, ↓DL.z_le, ↓DL.z_gt, ↓DL.z_ge, ↓DL.z_eq, ↓DL.z_ne, ↓DL.z_len, ↓DL.z_lens, ↓DL.z_int, ↓DL.z_intb, ↓DL.z_ixO, ↓DL.z_ix0, ↓DL.z_ix1, ↓DL.z_ix2, ↓DL.z_ix3, ↓DL.z_ix4, ↓DL.z_gsub, ↓DL.z_sub1, ↓DL.z_sub2, ↓DL.z_sub3, ↓DL.z_sub4, ↓DL.z_for, ↓DL.z_itA, ↓DL.z_any, ↓DL.z_itl, ↓DL.z_itt, ↓DL.z_its, ↓DL.z_lcg, ↓DL.z_yes, ↓DL.z_ifx, ↓DL.z_tup, ↓DL.z_lst, ↓DL.z_lstO, ↓DL.z_nop, ↓DL.z_part, ↓DL.z_pa, ↓DL.z_slx, ↓DL.z_sll, ↓DL.z_slt, ↓DL.z_sls, ↓DL.z_chain, ↓DL.z_ch, ↓DL.z_andv, ↓DL.z_orv, ↓DL.z_fnot, ↓DL.z_un, ↓DL.z_neg, ↓DL.z_call, ↓DL.z_prop, ↓DL.z_meth, ↓DL.z_make, ↓DL.z_obj, ↓DL.z_fl, ↓DL.z_flt, ↓DL.z_flf, ↓DL.z_ft, ↓DL.z_ftt, ↓DL.z_lent, ↓DL.z_adds, ↓DL.z_addl, ↓DL.z_addt, ↓DL.z_eqs, ↓DL.z_nes, ↓DL.z_eqb, ↓DL.z_eqn, ↓DL.z_eql, ↓DL.z_nel, ↓DL.z_isn, ↓DL.z_isnn, ↓DL.z_ins, ↓DL.z_nins, ↓DL.z_ixt, ↓DL.z_l0, ↓DL.z_l1, ↓DL.z_l2, ↓DL.z_rng, ↓DL.z_enl, ↓DL.z_ent, ↓DL.z_gtup, ↓DL.z_gcons, ↓DL.z_gnil, ↓DL.z_wipe0, ↓DL.z_wipe, ↓DL.z_mt, ↓DL.z_ty0, ↓DL.z_ty1, ↓DL.z_app0, ↓DL.z_app1, ↓DL.z_raise, ↓DL.z_ra, ↓DL.z_is_i_bool, ↓DL.z_is_i_int, ↓DL.z_is_i_str, ↓DL.z_is_i_tuple, ↓DL.z_is_i_list, ↓DL.z_is_b_bool, ↓DL.z_is_b_int, ↓DL.z_is_b_str, ↓DL.z_is_b_tuple, ↓DL.z_is_b_list, ↓DL.z_is_s_bool, ↓DL.z_is_s_int, ↓DL.z_is_s_str, ↓DL.z_is_s_tuple, ↓DL.z_is_s_list, ↓DL.z_is_l_bool, ↓DL.z_is_l_int, ↓DL.z_is_l_str, ↓DL.z_is_l_tuple, ↓DL.z_is_l_list, ↓DL.z_is_t_bool, ↓DL.z_is_t_int, ↓DL.z_is_t_str, ↓DL.z_is_t_tuple, ↓DL.z_is_t_list, ↓DL.z_is_n_bool, ↓DL.z_is_n_int, ↓DL.z_is_n_str, ↓DL.z_is_n_tuple, ↓DL.z_is_n_list, ↓DL.z_gslc, ↓DL.z_sc0, ↓DL.z_listO, ↓DL.z_lol, ↓DL.z_lot, ↓DL.z_fsum, ↓DL.z_own1, ↓DL.z_glen, ↓DL.z_gall, ↓DL.z_ixown, ↓DL.z_listG, ↓DL.z_ownit, ↓DL.z_fld, ↓DL.z_fz, ↓DL.z_fzs, ↓DL.z_xisi, ↓DL.z_xi, ↓DL.z_xval, ↓DL.z_xv, ↓DL.z_ixm, ↓DL.z_lm, ↓dTrim, ↓dLc, ↓dLcO, ↓dEnds, ↓z_gd1, ↓z_gd2, ↓z_gd3, ↓z_gdi, ↓z_gdo, slots, ↓reduceIte, decide_eq_true_eq, Bool.false_eq_true, Bool.not_true, Bool.not_false, decide_true, decide_false, Int.reduceEq, Int.reduceSub, Int.reduceAdd, Int.reduceLT, Int.reduceNeg, and_self, true_and, and_true]
      rw [take1 hd, List.map_append]
      rfl
    rintro acc μ' _ ⟨rfl, rfl⟩
    rw [List.take_length, lin_pr, lin0_pr]
    refine (z_rng (m := 2)).mpr ⟨by omega, ?_⟩
    obtain ⟨l, hl⟩ := stg_last hp
    refine ⟨fun k δ μ' => ∃ a b c e8 e9 e10, μ' = [] ∧ δ = [some (gD s js e), some (.str s), some (.lst (jsD js)), some (.lst ((stg s js).map D.str)), a, b, c, some (.lst (own 0 (bro 0 s.length) js)), e8, e9, e10, none, none],
      ⟨_, _, _, _, _, _, rfl, rfl⟩, ?_, ?_⟩
    · rintro k d δ μ' hd ⟨a, b, c, e8, e9, e10, rfl, rfl⟩
      have e1 : ∀ F, fIx (.lst ((stg s js).map D.str)) (.int (-1)) F = F (.str e) := fun F => by
        rw [hl, List.map_append, List.map_cons, List.map_nil]; exact z_lm
      simp only [List.map_cons, List.map_nil, List.length_cons, List.length_nil, Nat.reduceSub, Nat.reduceAdd, Nat.zero_add, Nat.sub_self, List.replicate, List.cons_append, List.nil_append, List.append_nil, List.set_cons_zero, List.set_cons_succ, List.take_succ_cons, List.take_zero, List.drop_zero, List.drop_succ_cons, List.drop_nil, List.take_nil, Nat.reduceLeDiff, ↓DL.z_var0, ↓DL.z_varS, ↓DL.z_name0, ↓DL.z_nameS, ↓DL.z_c, ↓DL.z_seq, ↓DL.z_next, ↓DL.z_if, ↓DL.z_asg, ↓DL.z_ret, ↓DL.z_drop, ↓DL.z_val, ↓DL.z_bl, ↓DL.z_and, ↓DL.z_or, ↓DL.z_not, ↓DL.z_bin, ↓DL.z_cb, ↓DL.z_nil, ↓DL.z_cons, ↓DL.z_i0, ↓DL.z_i, ↓DL.z_mul, ↓DL.z_add, ↓DL.z_lt, ↓DL.z_le, ↓DL.z_gt, ↓DL.z_ge, ↓DL.z_eq, ↓DL.z_ne, ↓DL.z_len, ↓DL.z_lens, ↓DL.z_int, ↓DL.z_intb, ↓DL.z_ixO, ↓DL.z_ix0, ↓DL.z_ix1, ↓DL.z_ix2, ↓DL.z_ix3, ↓DL.z_ix4, ↓DL.z_gsub, ↓DL.z_sub1, ↓DL.z_sub2, ↓DL.z_sub3, ↓DL.z_sub4, ↓DL.z_for, ↓DL.z_itA, ↓DL.z_any, ↓DL.z_itl, ↓DL.z_itt, ↓DL.z_its, ↓DL.z_lcg, ↓DL.z_yes, ↓DL.z_ifx, ↓DL.z_tup, ↓DL.z_lst, ↓DL.z_lstO, ↓DL.z_nop, ↓DL.z_part, ↓DL.z_pa, ↓DL.z_slx, ↓DL.z_sll, ↓DL.z_slt, ↓DL.z_sls, ↓DL.z_chain, ↓DL.z_ch, ↓DL.z_andv, ↓DL.z_orv, ↓DL.z_fnot, ↓DL.z_un, ↓DL.z_neg, ↓DL.z_call, ↓DL.z_prop, ↓DL.z_meth, ↓DL.z_make, ↓DL.z_obj, ↓DL.z_fl, ↓DL.z_flt, ↓DL.z_flf, ↓DL.z_ft, ↓DL.z_ftt, ↓DL.z_lent, ↓DL.z_adds, ↓DL.z_addl, ↓DL.z_addt, ↓DL.z_eqs, ↓DL.z_nes, ↓DL.z_eqb, ↓DL.z_eqn, ↓DL.z_eql, ↓DL.z_nel, ↓DL.z_isn, ↓DL.z_isnn, ↓DL.z_ins, ↓DL.z_nins, ↓DL.z_ixt, ↓DL.z_l0, ↓DL.z_l1, ↓DL.z_l2, ↓DL.z_rng, ↓DL.z_enl, ↓DL.z_ent, ↓DL.z_gtup, ↓DL.z_gcons, ↓DL.z_gnil, ↓DL.z_wipe0, ↓DL.z_wipe, ↓DL.z_mt, ↓DL.z_ty0, ↓DL.z_ty1, ↓DL.z_app0, ↓DL.z_app1, ↓DL.z_raise, ↓DL.z_ra, ↓DL.z_is_i_bool, ↓DL.z_is_i_int, ↓DL.z_is_i_str, ↓DL.z_is_i_tuple, ↓DL.z_is_i_list, ↓DL.z_is_b_bool, ↓DL.z_is_b_int, ↓DL.z_is_b_str, ↓DL.z_is_b_tuple, ↓DL.z_is_b_list, ↓DL.z_is_s_bool, ↓DL.z_is_s_int, ↓DL.z_is_s_str, ↓DL.z_is_s_tuple, ↓DL.z_is_s_list, ↓DL.z_is_l_bool, ↓DL.z_is_l_int, ↓DL.z_is_l_str, ↓DL.z_is_l_tuple, ↓DL.z_is_l_list, ↓DL.z_is_t_bool, ↓DL.z_is_t_int, ↓DL.z_is_t_str, ↓DL.z_is_t_tuple, ↓DL.z_is_t_list, ↓DL.z_is_n_bool, ↓DL.z_is_n_int, ↓DL.z_is_n_str, ↓DL.z_is_n_tuple, ↓DL.z_is_n_list, ↓DL.z_gslc, ↓DL.z_sc0, ↓DL.z_listO, ↓DL.z_lol, ↓DL.z_lot, ↓DL.z_fsum, ↓DL.z_own1, ↓DL.z_glen, ↓DL.z_gall, ↓DL.z_ixown, ↓DL.z_listG, ↓DL.z_ownit, ↓DL.z_fld, ↓DL.z_fz, ↓DL.z_fzs, ↓DL.z_xisi, ↓DL.z_xi, ↓DL.z_xval, ↓DL.z_xv, ↓DL.z_ixm, ↓DL.z_lm, ↓dTrim, ↓dLc, ↓dLcO, ↓dEnds, ↓z_gd1, ↓z_gd2, ↓z_gd3, ↓z_gdi, ↓z_gdo, slots, ↓reduceIte, decide_eq_true_eq, Bool.false_eq_true, Bool.not_true, Bool.not_false, decide_true, decide_false, Int.reduceEq, Int.reduceSub, Int.reduceAdd, Int.reduceLT, Int.reduceNeg, and_self, true_and, and_true]
      refine ⟨s, js, e, rfl, ?_⟩
      simp only [List.map_cons, List.map_nil, List.length_cons, List.length_nil, Nat.reduceSub, Nat.reduceAdd, Nat.zero_add, Nat.sub_self, List.replicate, List.cons_append, List.nil_append, List.append_nil, List.set_cons_zero, List.set_cons_succ, List.take_succ_cons, List.take_zero, List.drop_zero, List.drop_succ_cons, List.drop_nil, List.take_nil, Nat.reduceLeDiff, ↓DL.z_var0, ↓DL.z_varS, ↓DL.z_name0, ↓DL.z_nameS, ↓DL.z_c, ↓DL.z_seq, ↓DL.z_next, ↓DL.z_if, ↓DL.z_asg, ↓DL.z_ret, ↓DL.z_drop, ↓DL.z_val, ↓DL.z_bl, ↓DL.z_and, ↓DL.z_or, ↓DL.z_not, ↓DL.z_bin, ↓DL.z_cb, ↓DL.z_nil, ↓DL.z_cons, ↓DL.z_i0, ↓DL.z_i, ↓DL.z_mul, ↓DL.z_add, ↓DL.z_lt, ↓DL.z_le, ↓DL.z_gt, ↓DL.z_ge, ↓DL.z_eq, ↓DL.z_ne, ↓DL.z_len, ↓DL.z_lens, ↓DL.z_int, ↓DL.z_intb, ↓DL.z_ixO, ↓DL.z_ix0, ↓DL.z_ix1, ↓DL.z_ix2, ↓DL.z_ix3, ↓DL.z_ix4, ↓DL.z_gsub, ↓DL.z_sub1, ↓DL.z_sub2, ↓DL.z_sub3, ↓DL.z_sub4, ↓DL.z_for, ↓DL.z_itA, ↓DL.z_any, ↓DL.z_itl, ↓DL.z_itt, ↓DL.z_its, ↓DL.z_lcg, ↓DL.z_yes, ↓DL.z_ifx, ↓DL.z_tup, ↓DL.z_lst, ↓DL.z_lstO, ↓DL.z_nop, ↓DL.z_part, ↓DL.z_pa, ↓DL.z_slx, ↓DL.z_sll, ↓DL.z_slt, ↓DL.z_sls, ↓DL.z_chain, ↓DL.z_ch, ↓DL.z_andv, ↓DL.z_orv, ↓DL.z_fnot, ↓DL.z_un, ↓DL.z_neg, ↓DL.z_call, ↓DL.z_prop, ↓DL.z_meth, ↓DL.z_make, ↓DL.z_obj, ↓DL.z_fl, ↓DL.z_flt, ↓DL.z_flf, ↓DL.z_ft, ↓DL.z_ftt, ↓DL.z_lent, ↓DL.z_adds, ↓DL.z_addl, ↓DL.z_addt, ↓DL.z_eqs, ↓DL.z_nes, ↓DL.z_eqb, ↓DL.z_eqn, ↓DL.z_eql, ↓DL.z_nel, ↓DL.z_isn, ↓DL.z_isnn, ↓DL.z_ins, ↓DL.z_nins, ↓DL.z_ixt, ↓DL.z_l0, ↓DL.z_l1, ↓DL.z_l2, ↓DL.z_rng, ↓DL.z_enl, ↓DL.z_ent, ↓DL.z_gtup, ↓DL.z_gcons, ↓DL.z_gnil, ↓DL.z_wipe0, ↓DL.z_wipe, ↓DL.z_mt, ↓DL.z_ty0, ↓DL.z_ty1, ↓DL.z_app0, ↓DL.z_app1, ↓DL.z_raise, ↓DL.z_ra, ↓DL.z_is_i_bool, ↓DL.z_is_i_int, ↓DL.z_is_i_str, ↓DL.z_is_i_tuple, ↓DL.z_is_i_list, ↓DL.z_is_b_bool, ↓DL.z_is_b_int, ↓DL.z_is_b_str, ↓DL.z_is_b_tuple, ↓DL.z_is_b_list, ↓DL.z_is_s_bool, ↓DL.z_is_s_int, ↓DL.z_is_s_str, ↓DL.z_is_s_tuple, ↓DL.z_is_s_list, ↓DL.z_is_l_bool, ↓DL.z_is_l_int, ↓DL.z_is_l_str, ↓DL.z_is_l_tuple, ↓DL.z_is_l_list, ↓DL.z_is_t_bool, ↓DL.z_is_t_int, ↓DL.z_is_t_str, ↓DL.z_is_t_tuple, ↓DL.z_is_t_list, ↓DL.z_is_n_bool, ↓DL.z_is_n_int, ↓DL.z_is_n_str, ↓DL.z_is_n_tuple, ↓DL.z_is_n_list, ↓DL.z_gslc, ↓DL.z_sc0, ↓DL.z_listO, ↓DL.z_lol, ↓DL.z_lot, ↓DL.z_fsum, ↓DL.z_own1, ↓DL.z_glen, ↓DL.z_gall, ↓DL.z_ixown, ↓DL.z_listG, ↓DL.z_ownit, ↓DL.z_fld, ↓DL.z_fz, ↓DL.z_fzs, ↓DL.z_xisi, ↓DL.z_xi, ↓DL.z_xval, ↓DL.z_xv, ↓DL.z_ixm, ↓DL.z_lm, ↓dTrim, ↓dLc, ↓dLcO, ↓dEnds, ↓z_gd1, ↓z_gd2, ↓z_gd3, ↓z_gdi, ↓z_gdo, slots, ↓reduceIte, decide_eq_true_eq, Bool.false_eq_true, Bool.not_true, Bool.not_false, decide_true, decide_false, Int.reduceEq, Int.reduceSub, Int.reduceAdd, Int.reduceLT, Int.reduceNeg, and_self, true_and, and_true, ↓e1]
      have q1 : sm 4 (.tup [.str s, .tup (jsD js), .str e]) = true := by
        have := (sm_js (js := js) (by omega) 0).2
        simp only [Nat.zero_add] at this
        simp only [sm, List.length_cons, List.length_nil, List.all_cons, List.all_nil] at this ⊢
        simp [this]
      refine ⟨_, rfl, q1, ?_⟩
      simp only [List.map_cons, List.map_nil, List.length_cons, List.length_nil, Nat.reduceSub, Nat.reduceAdd, Nat.zero_add, Nat.sub_self, List.replicate, List.cons_append, List.nil_append, List.append_nil, List.set_cons_zero, List.set_cons_succ, List.take_succ_cons, List.take_zero, List.drop_zero, List.drop_succ_cons, List.drop_nil, List.take_nil, Nat.reduceLeDiff, ↓DL.z_var0, ↓DL.z_varS, ↓DL.z_name0, ↓DL.z_nameS, ↓DL.z_c, ↓DL.z_seq, ↓DL.z_next, ↓DL.z_if, ↓DL.z_asg, ↓DL.z_ret, ↓DL.z_drop, ↓DL.z_val, ↓DL.z_bl, ↓DL.z_and, ↓DL.z_or, ↓DL.z_not, ↓DL.z_bin, ↓DL.z_cb, ↓DL.z_nil, ↓DL.z_cons, ↓DL.z_i0, ↓DL.z_i, ↓DL.z_mul, ↓DL.z_add, ↓DL.z_lt, ↓DL.z_le, ↓DL.z_gt, ↓DL.z_ge, ↓DL.z_eq, ↓DL.z_ne, ↓DL.z_len, ↓DL.z_lens, ↓DL.z_int, ↓DL.z_intb, ↓DL.z_ixO, ↓DL.z_ix0, ↓DL.z_ix1, ↓DL.z_ix2, ↓DL.z_ix3, ↓DL.z_ix4, ↓DL.z_gsub, ↓DL.z_sub1, ↓DL.z_sub2, ↓DL.z_sub3, ↓DL.z_sub4, ↓DL.z_for, ↓DL.z_itA, ↓DL.z_any, ↓DL.z_itl, ↓DL.z_itt, ↓DL.z_its, ↓DL.z_lcg, ↓DL.z_yes, ↓DL.z_ifx, ↓DL.z_tup, ↓DL.z_lst, ↓DL.z_lstO, ↓DL.z_nop, ↓DL.z_part, ↓DL.z_pa, ↓DL.z_slx, ↓DL.z_sll, ↓DL.z_slt, ↓DL.z_sls, ↓DL.z_chain, ↓DL.z_ch, ↓DL.z_andv, ↓DL.z_orv, ↓DL.z_fnot, ↓DL.z_un, ↓DL.z_neg, ↓DL.z_call, ↓DL.z_prop, ↓DL.z_meth, ↓DL.z_make, ↓DL.z_obj, ↓DL.z_fl, ↓DL.z_flt, ↓DL.z_flf, ↓DL.z_ft, ↓DL.z_ftt, ↓DL.z_lent, ↓DL.z_adds, ↓DL.z_addl, ↓DL.z_addt, ↓DL.z_eqs, ↓DL.z_nes, ↓DL.z_eqb, ↓DL.z_eqn, ↓DL.z_eql, ↓DL.z_nel, ↓DL.z_isn, ↓DL.z_isnn, ↓DL.z_ins, ↓DL.z_nins, ↓DL.z_ixt, ↓DL.z_l0, ↓DL.z_l1, ↓DL.z_l2, ↓DL.z_rng, ↓DL.z_enl, ↓DL.z_ent, ↓DL.z_gtup, ↓DL.z_gcons, ↓DL.z_gnil, ↓DL.z_wipe0, ↓DL.z_wipe, ↓DL.z_mt, ↓DL.z_ty0, ↓DL.z_ty1, ↓DL.z_app0, ↓DL.z_app1, ↓DL.z_raise, ↓DL.z_ra, ↓DL.z_is_i_bool, ↓DL.z_is_i_int, ↓DL.z_is_i_str, ↓DL.z_is_i_tuple, ↓DL.z_is_i_list, ↓DL.z_is_b_bool, ↓DL.z_is_b_int, ↓DL.z_is_b_str, ↓DL.z_is_b_tuple, ↓DL.z_is_b_list, ↓DL.z_is_s_bool, ↓DL.z_is_s_int, ↓DL.z_is_s_str, ↓DL.z_is_s_tuple, ↓DL.z_is_s_list, ↓DL.z_is_l_bool, ↓DL.z_is_l_int, ↓DL.z_is_l_str, ↓DL.z_is_l_tuple, ↓DL.z_is_l_list, ↓DL.z_is_t_bool, ↓DL.z_is_t_int, ↓DL.z_is_t_str, ↓DL.z_is_t_tuple, ↓DL.z_is_t_list, ↓DL.z_is_n_bool, ↓DL.z_is_n_int, ↓DL.z_is_n_str, ↓DL.z_is_n_tuple, ↓DL.z_is_n_list, ↓DL.z_gslc, ↓DL.z_sc0, ↓DL.z_listO, ↓DL.z_lol, ↓DL.z_lot, ↓DL.z_fsum, ↓DL.z_own1, ↓DL.z_glen, ↓DL.z_gall, ↓DL.z_ixown, ↓DL.z_listG, ↓DL.z_ownit, ↓DL.z_fld, ↓DL.z_fz, ↓DL.z_fzs, ↓DL.z_xisi, ↓DL.z_xi, ↓DL.z_xval, ↓DL.z_xv, ↓DL.z_ixm, ↓DL.z_lm, ↓dTrim, ↓dLc, ↓dLcO, ↓dEnds, ↓z_gd1, ↓z_gd2, ↓z_gd3, ↓z_gdi, ↓z_gdo, slots, ↓reduceIte, decide_eq_true_eq, Bool.false_eq_true, Bool.not_true, Bool.not_false, decide_true, decide_false, Int.reduceEq, Int.reduceSub, Int.reduceAdd, Int.reduceLT, Int.reduceNeg, and_self, true_and, and_true]
      refine ⟨s, js, e, rfl, hp, ht, hn, ?_⟩
      refine ⟨_, rfl, sm_strs (by rw [stg_len]; omega) 2, ?_⟩
      simp only [List.map_cons, List.map_nil, List.length_cons, List.length_nil, Nat.reduceSub, Nat.reduceAdd, Nat.zero_add, Nat.sub_self, List.replicate, List.cons_append, List.nil_append, List.append_nil, List.set_cons_zero, List.set_cons_succ, List.take_succ_cons, List.take_zero, List.drop_zero, List.drop_succ_cons, List.drop_nil, List.take_nil, Nat.reduceLeDiff, ↓DL.z_var0, ↓DL.z_varS, ↓DL.z_name0, ↓DL.z_nameS, ↓DL.z_c, ↓DL.z_seq, ↓DL.z_next, ↓DL.z_if, ↓DL.z_asg, ↓DL.z_ret, ↓DL.z_drop, ↓DL.z_val, ↓DL.z_bl, ↓DL.z_and, ↓DL.z_or, ↓DL.z_not, ↓DL.z_bin, ↓DL.z_cb, ↓DL.z_nil, ↓DL.z_cons, ↓DL.z_i0, ↓DL.z_i, ↓DL.z_mul, ↓DL.z_add, ↓DL.z_lt, ↓DL.z_le, ↓DL.z_gt, ↓DL.z_ge, ↓DL.z_eq, ↓DL.z_ne, ↓DL.z_len, ↓DL.z_lens, ↓DL.z_int, ↓DL.z_intb, ↓DL.z_ixO, ↓DL.z_ix0, ↓DL.z_ix1, ↓DL.z_ix2, ↓DL.z_ix3, ↓DL.z_ix4, ↓DL.z_gsub, ↓DL.z_sub1, ↓DL.z_sub2, ↓DL.z_sub3, ↓DL.z_sub4, ↓DL.z_for, ↓DL.z_itA, ↓DL.z_any, ↓DL.z_itl, ↓DL.z_itt, ↓DL.z_its, ↓DL.z_lcg, ↓DL.z_yes, ↓DL.z_ifx, ↓DL.z_tup, ↓DL.z_lst, ↓DL.z_lstO, ↓DL.z_nop, ↓DL.z_part, ↓DL.z_pa, ↓DL.z_slx, ↓DL.z_sll, ↓DL.z_slt, ↓DL.z_sls, ↓DL.z_chain, ↓DL.z_ch, ↓DL.z_andv, ↓DL.z_orv, ↓DL.z_fnot, ↓DL.z_un, ↓DL.z_neg, ↓DL.z_call, ↓DL.z_prop, ↓DL.z_meth, ↓DL.z_make, ↓DL.z_obj, ↓DL.z_fl, ↓DL.z_flt, ↓DL.z_flf, ↓DL.z_ft, ↓DL.z_ftt, ↓DL.z_lent, ↓DL.z_adds, ↓DL.z_addl, ↓DL.z_addt, ↓DL.z_eqs, ↓DL.z_nes, ↓DL.z_eqb, ↓DL.z_eqn, ↓DL.z_eql, ↓DL.z_nel, ↓DL.z_isn, ↓DL.z_isnn, ↓DL.z_ins, ↓DL.z_nins, ↓DL.z_ixt, ↓DL.z_l0, ↓DL.z_l1, ↓DL.z_l2, ↓DL.z_rng, ↓DL.z_enl, ↓DL.z_ent, ↓DL.z_gtup, ↓DL.z_gcons, ↓DL.z_gnil, ↓DL.z_wipe0, ↓DL.z_wipe, ↓DL.z_mt, ↓DL.z_ty0, ↓DL.z_ty1, ↓DL.z_app0, ↓DL.z_app1, ↓DL.z_raise, ↓DL.z_ra, ↓DL.z_is_i_bool, ↓DL.z_is_i_int, ↓DL.z_is_i_str, ↓DL.z_is_i_tuple, ↓DL.z_is_i_list, ↓DL.z_is_b_bool, ↓DL.z_is_b_int, ↓DL.z_is_b_str, ↓DL.z_is_b_tuple, ↓DL.z_is_b_list, ↓DL.z_is_s_bool, ↓DL.z_is_s_int, ↓DL.z_is_s_str, ↓DL.z_is_s_tuple, ↓DL.z_is_s_list, ↓DL.z_is_l_bool, ↓DL.z_is_l_int, ↓DL.z_is_l_str, ↓DL.z_is_l_tuple, ↓DL.z_is_l_list, ↓DL.z_is_t_bool, ↓DL.z_is_t_int, ↓DL.z_is_t_str, ↓DL.z_is_t_tuple, ↓DL.z_is_t_list, ↓DL.z_is_n_bool, ↓DL.z_is_n_int, ↓DL.z_is_n_str, ↓DL.z_is_n_tuple, ↓DL.z_is_n_list, ↓DL.z_gslc, ↓DL.z_sc0, ↓DL.z_listO, ↓DL.z_lol, ↓DL.z_lot, ↓DL.z_fsum, ↓DL.z_own1, ↓DL.z_glen, ↓DL.z_gall, ↓DL.z_ixown, ↓DL.z_listG, ↓DL.z_ownit, ↓DL.z_fld, ↓DL.z_fz, ↓DL.z_fzs, ↓DL.z_xisi, ↓DL.z_xi, ↓DL.z_xval, ↓DL.z_xv, ↓DL.z_ixm, ↓DL.z_lm, ↓dTrim, ↓dLc, ↓dLcO, ↓dEnds, ↓z_gd1, ↓z_gd2, ↓z_gd3, ↓z_gdi, ↓z_gdo, slots, ↓reduceIte, decide_eq_true_eq, Bool.false_eq_true, Bool.not_true, Bool.not_false, decide_true, decide_false, Int.reduceEq, Int.reduceSub, Int.reduceAdd, Int.reduceLT, Int.reduceNeg, and_self, true_and, and_true]
      refine ⟨s, js, e, rfl, hp, ht, hn, rfl, fun p => ?_⟩
      have hol : (own 0 (bro 0 s.length) js).length ≤ 100000 := by
        rw [own_len]; simp only [tot] at ht; simp only [bro, List.length_map, List.length_range]; omega
      simp only [List.map_cons, List.map_nil, List.length_cons, List.length_nil, Nat.reduceSub, Nat.reduceAdd, Nat.zero_add, Nat.sub_self, List.replicate, List.cons_append, List.nil_append, List.append_nil, List.set_cons_zero, List.set_cons_succ, List.take_succ_cons, List.take_zero, List.drop_zero, List.drop_succ_cons, List.drop_nil, List.take_nil, Nat.reduceLeDiff, ↓DL.z_var0, ↓DL.z_varS, ↓DL.z_name0, ↓DL.z_nameS, ↓DL.z_c, ↓DL.z_seq, ↓DL.z_next, ↓DL.z_if, ↓DL.z_asg, ↓DL.z_ret, ↓DL.z_drop, ↓DL.z_val, ↓DL.z_bl, ↓DL.z_and, ↓DL.z_or, ↓DL.z_not, ↓DL.z_bin, ↓DL.z_cb, ↓DL.z_nil, ↓DL.z_cons, ↓DL.z_i0, ↓DL.z_i, ↓DL.z_mul, ↓DL.z_add, ↓DL.z_lt, ↓DL.z_le, ↓DL.z_gt, ↓DL.z_ge, ↓DL.z_eq, ↓DL.z_ne, ↓DL.z_len, ↓DL.z_lens, ↓DL.z_int, ↓DL.z_intb, ↓DL.z_ixO, ↓DL.z_ix0, ↓DL.z_ix1, ↓DL.z_ix2, ↓DL.z_ix3, ↓DL.z_ix4, ↓DL.z_gsub, ↓DL.z_sub1, ↓DL.z_sub2, ↓DL.z_sub3, ↓DL.z_sub4, ↓DL.z_for, ↓DL.z_itA, ↓DL.z_any, ↓DL.z_itl, ↓DL.z_itt, ↓DL.z_its, ↓DL.z_lcg, ↓DL.z_yes, ↓DL.z_ifx, ↓DL.z_tup, ↓DL.z_lst, ↓DL.z_lstO, ↓DL.z_nop, ↓DL.z_part, ↓DL.z_pa, ↓DL.z_slx, ↓DL.z_sll, ↓DL.z_slt, ↓DL.z_sls, ↓DL.z_chain, ↓DL.z_ch, ↓DL.z_andv, ↓DL.z_orv, ↓DL.z_fnot, ↓DL.z_un, ↓DL.z_neg, ↓DL.z_call, ↓DL.z_prop, ↓DL.z_meth, ↓DL.z_make, ↓DL.z_obj, ↓DL.z_fl, ↓DL.z_flt, ↓DL.z_flf, ↓DL.z_ft, ↓DL.z_ftt, ↓DL.z_lent, ↓DL.z_adds, ↓DL.z_addl, ↓DL.z_addt, ↓DL.z_eqs, ↓DL.z_nes, ↓DL.z_eqb, ↓DL.z_eqn, ↓DL.z_eql, ↓DL.z_nel, ↓DL.z_isn, ↓DL.z_isnn, ↓DL.z_ins, ↓DL.z_nins, ↓DL.z_ixt, ↓DL.z_l0, ↓DL.z_l1, ↓DL.z_l2, ↓DL.z_rng, ↓DL.z_enl, ↓DL.z_ent, ↓DL.z_gtup, ↓DL.z_gcons, ↓DL.z_gnil, ↓DL.z_wipe0, ↓DL.z_wipe, ↓DL.z_mt, ↓DL.z_ty0, ↓DL.z_ty1, ↓DL.z_app0, ↓DL.z_app1, ↓DL.z_raise, ↓DL.z_ra, ↓DL.z_is_i_bool, ↓DL.z_is_i_int, ↓DL.z_is_i_str, ↓DL.z_is_i_tuple, ↓DL.z_is_i_list, ↓DL.z_is_b_bool, ↓DL.z_is_b_int, ↓DL.z_is_b_str, ↓DL.z_is_b_tuple, ↓DL.z_is_b_list, ↓DL.z_is_s_bool, ↓DL.z_is_s_int, ↓DL.z_is_s_str, ↓DL.z_is_s_tuple, ↓DL.z_is_s_list, ↓DL.z_is_l_bool, ↓DL.z_is_l_int, ↓DL.z_is_l_str, ↓DL.z_is_l_tuple, ↓DL.z_is_l_list, ↓DL.z_is_t_bool, ↓DL.z_is_t_int, ↓DL.z_is_t_str, ↓DL.z_is_t_tuple, ↓DL.z_is_t_list, ↓DL.z_is_n_bool, ↓DL.z_is_n_int, ↓DL.z_is_n_str, ↓DL.z_is_n_tuple, ↓DL.z_is_n_list, ↓DL.z_gslc, ↓DL.z_sc0, ↓DL.z_listO, ↓DL.z_lol, ↓DL.z_lot, ↓DL.z_fsum, ↓DL.z_own1, ↓DL.z_glen, ↓DL.z_gall, ↓DL.z_ixown, ↓DL.z_listG, ↓DL.z_ownit, ↓DL.z_fld, ↓DL.z_fz, ↓DL.z_fzs, ↓DL.z_xisi, ↓DL.z_xi, ↓DL.z_xval, ↓DL.z_xv, ↓DL.z_ixm, ↓DL.z_lm, ↓dTrim, ↓dLc, ↓dLcO, ↓dEnds, ↓z_gd1, ↓z_gd2, ↓z_gd3, ↓z_gdi, ↓z_gdo, slots, ↓reduceIte, decide_eq_true_eq, Bool.false_eq_true, Bool.not_true, Bool.not_false, decide_true, decide_false, Int.reduceEq, Int.reduceSub, Int.reduceAdd, Int.reduceLT, Int.reduceNeg, and_self, true_and, and_true]
      refine ⟨0, p, _, rfl, rfl, ?_⟩
      simp only [List.map_cons, List.map_nil, List.length_cons, List.length_nil, Nat.reduceSub, Nat.reduceAdd, Nat.zero_add, Nat.sub_self, List.replicate, List.cons_append, List.nil_append, List.append_nil, List.set_cons_zero, List.set_cons_succ, List.take_succ_cons, List.take_zero, List.drop_zero, List.drop_succ_cons, List.drop_nil, List.take_nil, Nat.reduceLeDiff, ↓DL.z_var0, ↓DL.z_varS, ↓DL.z_name0, ↓DL.z_nameS, ↓DL.z_c, ↓DL.z_seq, ↓DL.z_next, ↓DL.z_if, ↓DL.z_asg, ↓DL.z_ret, ↓DL.z_drop, ↓DL.z_val, ↓DL.z_bl, ↓DL.z_and, ↓DL.z_or, ↓DL.z_not, ↓DL.z_bin, ↓DL.z_cb, ↓DL.z_nil, ↓DL.z_cons, ↓DL.z_i0, ↓DL.z_i, ↓DL.z_mul, ↓DL.z_add, ↓DL.z_lt, ↓DL.z_le, ↓DL.z_gt, ↓DL.z_ge, ↓DL.z_eq, ↓DL.z_ne, ↓DL.z_len, ↓DL.z_lens, ↓DL.z_int, ↓DL.z_intb, ↓DL.z_ixO, ↓DL.z_ix0, ↓DL.z_ix1, ↓DL.z_ix2, ↓DL.z_ix3, ↓DL.z_ix4, ↓DL.z_gsub, ↓DL.z_sub1, ↓DL.z_sub2, ↓DL.z_sub3, ↓DL.z_sub4, ↓DL.z_for, ↓DL.z_itA, ↓DL.z_any, ↓DL.z_itl, ↓DL.z_itt, ↓DL.z_its, ↓DL.z_lcg, ↓DL.z_yes, ↓DL.z_ifx, ↓DL.z_tup, ↓DL.z_lst, ↓DL.z_lstO, ↓DL.z_nop, ↓DL.z_part, ↓DL.z_pa, ↓DL.z_slx, ↓DL.z_sll, ↓DL.z_slt, ↓DL.z_sls, ↓DL.z_chain, ↓DL.z_ch, ↓DL.z_andv, ↓DL.z_orv, ↓DL.z_fnot, ↓DL.z_un, ↓DL.z_neg, ↓DL.z_call, ↓DL.z_prop, ↓DL.z_meth, ↓DL.z_make, ↓DL.z_obj, ↓DL.z_fl, ↓DL.z_flt, ↓DL.z_flf, ↓DL.z_ft, ↓DL.z_ftt, ↓DL.z_lent, ↓DL.z_adds, ↓DL.z_addl, ↓DL.z_addt, ↓DL.z_eqs, ↓DL.z_nes, ↓DL.z_eqb, ↓DL.z_eqn, ↓DL.z_eql, ↓DL.z_nel, ↓DL.z_isn, ↓DL.z_isnn, ↓DL.z_ins, ↓DL.z_nins, ↓DL.z_ixt, ↓DL.z_l0, ↓DL.z_l1, ↓DL.z_l2, ↓DL.z_rng, ↓DL.z_enl, ↓DL.z_ent, ↓DL.z_gtup, ↓DL.z_gcons, ↓DL.z_gnil, ↓DL.z_wipe0, ↓DL.z_wipe, ↓DL.z_mt, ↓DL.z_ty0, ↓DL.z_ty1, ↓DL.z_app0, ↓DL.z_app1, ↓DL.z_raise, ↓DL.z_ra, ↓DL.z_is_i_bool, ↓DL.z_is_i_int, ↓DL.z_is_i_str, ↓DL.z_is_i_tuple, ↓DL.z_is_i_list, ↓DL.z_is_b_bool, ↓DL.z_is_b_int, ↓DL.z_is_b_str, ↓DL.z_is_b_tuple, ↓DL.z_is_b_list, ↓DL.z_is_s_bool, ↓DL.z_is_s_int, ↓DL.z_is_s_str, ↓DL.z_is_s_tuple, ↓DL.z_is_s_list, ↓DL.z_is_l_bool, ↓DL.z_is_l_int, ↓DL.z_is_l_str, ↓DL.z_is_l_tuple, ↓DL.z_is_l_list, ↓DL.z_is_t_bool, ↓DL.z_is_t_int, ↓DL.z_is_t_str, ↓DL.z_is_t_tuple, ↓DL.z_is_t_list, ↓DL.z_is_n_bool, ↓DL.z_is_n_int, ↓DL.z_is_n_str, ↓DL.z_is_n_tuple, ↓DL.z_is_n_list, ↓DL.z_gslc, ↓DL.z_sc0, ↓DL.z_listO, ↓DL.z_lol, ↓DL.z_lot, ↓DL.z_fsum, ↓DL.z_own1, ↓DL.z_glen, ↓DL.z_gall, ↓DL.z_ixown, ↓DL.z_listG, ↓DL.z_ownit, ↓DL.z_fld, ↓DL.z_fz, ↓DL.z_fzs, ↓DL.z_xisi, ↓DL.z_xi, ↓DL.z_xval, ↓DL.z_xv, ↓DL.z_ixm, ↓DL.z_lm, ↓dTrim, ↓dLc, ↓dLcO, ↓dEnds, ↓z_gd1, ↓z_gd2, ↓z_gd3, ↓z_gdi, ↓z_gdo, slots, ↓reduceIte, decide_eq_true_eq, Bool.false_eq_true, Bool.not_true, Bool.not_false, decide_true, decide_false, Int.reduceEq, Int.reduceSub, Int.reduceAdd, Int.reduceLT, Int.reduceNeg, and_self, true_and, and_true]
      refine ⟨_, rfl, sm_own (bro2 _ _) (by omega) 1, ?_⟩
      have hsub : ∀ x y F, sub_ 0 x (.adr p) (.int 0) [(p, .lst (own 0 (bro 0 s.length) js ++ [y]))] F = F [(p, .lst ((own 0 (bro 0 s.length) js ++ [y]).set 0 x))] := fun x y F => z_subE (k := 0) (ixN_nat (k := 0) (by simp))
      simp only [List.map_cons, List.map_nil, List.length_cons, List.length_nil, Nat.reduceSub, Nat.reduceAdd, Nat.zero_add, Nat.sub_self, List.replicate, List.cons_append, List.nil_append, List.append_nil, List.set_cons_zero, List.set_cons_succ, List.take_succ_cons, List.take_zero, List.drop_zero, List.drop_succ_cons, List.drop_nil, List.take_nil, Nat.reduceLeDiff, ↓DL.z_var0, ↓DL.z_varS, ↓DL.z_name0, ↓DL.z_nameS, ↓DL.z_c, ↓DL.z_seq, ↓DL.z_next, ↓DL.z_if, ↓DL.z_asg, ↓DL.z_ret, ↓DL.z_drop, ↓DL.z_val, ↓DL.z_bl, ↓DL.z_and, ↓DL.z_or, ↓DL.z_not, ↓DL.z_bin, ↓DL.z_cb, ↓DL.z_nil, ↓DL.z_cons, ↓DL.z_i0, ↓DL.z_i, ↓DL.z_mul, ↓DL.z_add, ↓DL.z_lt, ↓DL.z_le, ↓DL.z_gt, ↓DL.z_ge, ↓DL.z_eq, ↓DL.z_ne, ↓DL.z_len, ↓DL.z_lens, ↓DL.z_int, ↓DL.z_intb, ↓DL.z_ixO, ↓DL.z_ix0, ↓DL.z_ix1, ↓DL.z_ix2, ↓DL.z_ix3, ↓DL.z_ix4, ↓DL.z_gsub, ↓DL.z_sub1, ↓DL.z_sub2, ↓DL.z_sub3, ↓DL.z_sub4, ↓DL.z_for, ↓DL.z_itA, ↓DL.z_any, ↓DL.z_itl, ↓DL.z_itt, ↓DL.z_its, ↓DL.z_lcg, ↓DL.z_yes, ↓DL.z_ifx, ↓DL.z_tup, ↓DL.z_lst, ↓DL.z_lstO, ↓DL.z_nop, ↓DL.z_part, ↓DL.z_pa, ↓DL.z_slx, ↓DL.z_sll, ↓DL.z_slt, ↓DL.z_sls, ↓DL.z_chain, ↓DL.z_ch, ↓DL.z_andv, ↓DL.z_orv, ↓DL.z_fnot, ↓DL.z_un, ↓DL.z_neg, ↓DL.z_call, ↓DL.z_prop, ↓DL.z_meth, ↓DL.z_make, ↓DL.z_obj, ↓DL.z_fl, ↓DL.z_flt, ↓DL.z_flf, ↓DL.z_ft, ↓DL.z_ftt, ↓DL.z_lent, ↓DL.z_adds, ↓DL.z_addl, ↓DL.z_addt, ↓DL.z_eqs, ↓DL.z_nes, ↓DL.z_eqb, ↓DL.z_eqn, ↓DL.z_eql, ↓DL.z_nel, ↓DL.z_isn, ↓DL.z_isnn, ↓DL.z_ins, ↓DL.z_nins, ↓DL.z_ixt, ↓DL.z_l0, ↓DL.z_l1, ↓DL.z_l2, ↓DL.z_rng, ↓DL.z_enl, ↓DL.z_ent, ↓DL.z_gtup, ↓DL.z_gcons, ↓DL.z_gnil, ↓DL.z_wipe0, ↓DL.z_wipe, ↓DL.z_mt, ↓DL.z_ty0, ↓DL.z_ty1, ↓DL.z_app0, ↓DL.z_app1, ↓DL.z_raise, ↓DL.z_ra, ↓DL.z_is_i_bool, ↓DL.z_is_i_int, ↓DL.z_is_i_str, ↓DL.z_is_i_tuple, ↓DL.z_is_i_list, ↓DL.z_is_b_bool, ↓DL.z_is_b_int, ↓DL.z_is_b_str, ↓DL.z_is_b_tuple, ↓DL.z_is_b_list, ↓DL.z_is_s_bool, ↓DL.z_is_s_int, ↓DL.z_is_s_str, ↓DL.z_is_s_tuple, ↓DL.z_is_s_list, ↓DL.z_is_l_bool, ↓DL.z_is_l_int, ↓DL.z_is_l_str, ↓DL.z_is_l_tuple, ↓DL.z_is_l_list, ↓DL.z_is_t_bool, ↓DL.z_is_t_int, ↓DL.z_is_t_str, ↓DL.z_is_t_tuple, ↓DL.z_is_t_list, ↓DL.z_is_n_bool, ↓DL.z_is_n_int, ↓DL.z_is_n_str, ↓DL.z_is_n_tuple, ↓DL.z_is_n_list, ↓DL.z_gslc, ↓DL.z_sc0, ↓DL.z_listO, ↓DL.z_lol, ↓DL.z_lot, ↓DL.z_fsum, ↓DL.z_own1, ↓DL.z_glen, ↓DL.z_gall, ↓DL.z_ixown, ↓DL.z_listG, ↓DL.z_ownit, ↓DL.z_fld, ↓DL.z_fz, ↓DL.z_fzs, ↓DL.z_xisi, ↓DL.z_xi, ↓DL.z_xval, ↓DL.z_xv, ↓DL.z_ixm, ↓DL.z_lm, ↓dTrim, ↓dLc, ↓dLcO, ↓dEnds, ↓z_gd1, ↓z_gd2, ↓z_gd3, ↓z_gdi, ↓z_gdo, slots, ↓reduceIte, decide_eq_true_eq, Bool.false_eq_true, Bool.not_true, Bool.not_false, decide_true, decide_false, Int.reduceEq, Int.reduceSub, Int.reduceAdd, Int.reduceLT, Int.reduceNeg, and_self, true_and, and_true, ↓hsub]
      exact ⟨rfl, by omega, _, _, _, _, _, _, rfl⟩
    · rintro δ μ' ⟨a, b, c, e8, e9, e10, rfl, rfl⟩
      simp only [List.map_cons, List.map_nil, List.length_cons, List.length_nil, Nat.reduceSub, Nat.reduceAdd, Nat.zero_add, Nat.sub_self, List.replicate, List.cons_append, List.nil_append, List.append_nil, List.set_cons_zero, List.set_cons_succ, List.take_succ_cons, List.take_zero, List.drop_zero, List.drop_succ_cons, List.drop_nil, List.take_nil, Nat.reduceLeDiff, ↓DL.z_var0, ↓DL.z_varS, ↓DL.z_name0, ↓DL.z_nameS, ↓DL.z_c, ↓DL.z_seq, ↓DL.z_next, ↓DL.z_if, ↓DL.z_asg, ↓DL.z_ret, ↓DL.z_drop, ↓DL.z_val, ↓DL.z_bl, ↓DL.z_and, ↓DL.z_or, ↓DL.z_not, ↓DL.z_bin, ↓DL.z_cb, ↓DL.z_nil, ↓DL.z_cons, ↓DL.z_i0, ↓DL.z_i, ↓DL.z_mul, ↓DL.z_add, ↓DL.z_lt, ↓DL.z_le, ↓DL.z_gt, ↓DL.z_ge, ↓DL.z_eq, ↓DL.z_ne, ↓DL.z_len, ↓DL.z_lens, ↓DL.z_int, ↓DL.z_intb, ↓DL.z_ixO, ↓DL.z_ix0, ↓DL.z_ix1, ↓DL.z_ix2, ↓DL.z_ix3, ↓DL.z_ix4, ↓DL.z_gsub, ↓DL.z_sub1, ↓DL.z_sub2, ↓DL.z_sub3, ↓DL.z_sub4, ↓DL.z_for, ↓DL.z_itA, ↓DL.z_any, ↓DL.z_itl, ↓DL.z_itt, ↓DL.z_its, ↓DL.z_lcg, ↓DL.z_yes, ↓DL.z_ifx, ↓DL.z_tup, ↓DL.z_lst, ↓DL.z_lstO, ↓DL.z_nop, ↓DL.z_part, ↓DL.z_pa, ↓DL.z_slx, ↓DL.z_sll, ↓DL.z_slt, ↓DL.z_sls, ↓DL.z_chain, ↓DL.z_ch, ↓DL.z_andv, ↓DL.z_orv, ↓DL.z_fnot, ↓DL.z_un, ↓DL.z_neg, ↓DL.z_call, ↓DL.z_prop, ↓DL.z_meth, ↓DL.z_make, ↓DL.z_obj, ↓DL.z_fl, ↓DL.z_flt, ↓DL.z_flf, ↓DL.z_ft, ↓DL.z_ftt, ↓DL.z_lent, ↓DL.z_adds, ↓DL.z_addl, ↓DL.z_addt, ↓DL.z_eqs, ↓DL.z_nes, ↓DL.z_eqb, ↓DL.z_eqn, ↓DL.z_eql, ↓DL.z_nel, ↓DL.z_isn, ↓DL.z_isnn, ↓DL.z_ins, ↓DL.z_nins, ↓DL.z_ixt, ↓DL.z_l0, ↓DL.z_l1, ↓DL.z_l2, ↓DL.z_rng, ↓DL.z_enl, ↓DL.z_ent, ↓DL.z_gtup, ↓DL.z_gcons, ↓DL.z_gnil, ↓DL.z_wipe0, ↓DL.z_wipe, ↓DL.z_mt, ↓DL.z_ty0, ↓DL.z_ty1, ↓DL.z_app0, ↓DL.z_app1, ↓DL.z_raise, ↓DL.z_ra, ↓DL.z_is_i_bool, ↓DL.z_is_i_int, ↓DL.z_is_i_str, ↓DL.z_is_i_tuple, ↓DL.z_is_i_list, ↓DL.z_is_b_bool, ↓DL.z_is_b_int, ↓DL.z_is_b_str, ↓DL.z_is_b_tuple, ↓DL.z_is_b_list, ↓DL.z_is_s_bool, ↓DL.z_is_s_int, ↓DL.z_is_s_str, ↓DL.z_is_s_tuple, ↓DL.z_is_s_list, ↓DL.z_is_l_bool, ↓DL.z_is_l_int, ↓DL.z_is_l_str, ↓DL.z_is_l_tuple, ↓DL.z_is_l_list, ↓DL.z_is_t_bool, ↓DL.z_is_t_int, ↓DL.z_is_t_str, ↓DL.z_is_t_tuple, ↓DL.z_is_t_list, ↓DL.z_is_n_bool, ↓DL.z_is_n_int, ↓DL.z_is_n_str, ↓DL.z_is_n_tuple, ↓DL.z_is_n_list, ↓DL.z_gslc, ↓DL.z_sc0, ↓DL.z_listO, ↓DL.z_lol, ↓DL.z_lot, ↓DL.z_fsum, ↓DL.z_own1, ↓DL.z_glen, ↓DL.z_gall, ↓DL.z_ixown, ↓DL.z_listG, ↓DL.z_ownit, ↓DL.z_fld, ↓DL.z_fz, ↓DL.z_fzs, ↓DL.z_xisi, ↓DL.z_xi, ↓DL.z_xval, ↓DL.z_xv, ↓DL.z_ixm, ↓DL.z_lm, ↓dTrim, ↓dLc, ↓dLcO, ↓dEnds, ↓z_gd1, ↓z_gd2, ↓z_gd3, ↓z_gdi, ↓z_gdo, slots, ↓reduceIte, decide_eq_true_eq, Bool.false_eq_true, Bool.not_true, Bool.not_false, decide_true, decide_false, Int.reduceEq, Int.reduceSub, Int.reduceAdd, Int.reduceLT, Int.reduceNeg, and_self, true_and, and_true]
      intro p
      refine ⟨fun k δ μ' => ∃ v, μ' = [(p, .lst (jsD (js.take k)))] ∧ δ = [some (gD s js e), some (.str s), some (.lst (jsD js)), some (.lst ((stg s js).map D.str)), a, b, c, some (.lst (own 0 (bro 0 s.length) js)), e8, e9, some (.adr p), v, none],
        ⟨_, rfl, rfl⟩, ?_, ?_⟩
      · rintro k d δ μ' hd ⟨v, rfl, rfl⟩
        obtain ⟨⟨g, w⟩, hj, rfl⟩ := jsD_get hd
        have hk := lt_ hj
        simp only [List.map_cons, List.map_nil, List.length_cons, List.length_nil, Nat.reduceSub, Nat.reduceAdd, Nat.zero_add, Nat.sub_self, List.replicate, List.cons_append, List.nil_append, List.append_nil, List.set_cons_zero, List.set_cons_succ, List.take_succ_cons, List.take_zero, List.drop_zero, List.drop_succ_cons, List.drop_nil, List.take_nil, Nat.reduceLeDiff, ↓DL.z_var0, ↓DL.z_varS, ↓DL.z_name0, ↓DL.z_nameS, ↓DL.z_c, ↓DL.z_seq, ↓DL.z_next, ↓DL.z_if, ↓DL.z_asg, ↓DL.z_ret, ↓DL.z_drop, ↓DL.z_val, ↓DL.z_bl, ↓DL.z_and, ↓DL.z_or, ↓DL.z_not, ↓DL.z_bin, ↓DL.z_cb, ↓DL.z_nil, ↓DL.z_cons, ↓DL.z_i0, ↓DL.z_i, ↓DL.z_mul, ↓DL.z_add, ↓DL.z_lt, ↓DL.z_le, ↓DL.z_gt, ↓DL.z_ge, ↓DL.z_eq, ↓DL.z_ne, ↓DL.z_len, ↓DL.z_lens, ↓DL.z_int, ↓DL.z_intb, ↓DL.z_ixO, ↓DL.z_ix0, ↓DL.z_ix1, ↓DL.z_ix2, ↓DL.z_ix3, ↓DL.z_ix4, ↓DL.z_gsub, ↓DL.z_sub1, ↓DL.z_sub2, ↓DL.z_sub3, ↓DL.z_sub4, ↓DL.z_for, ↓DL.z_itA, ↓DL.z_any, ↓DL.z_itl, ↓DL.z_itt, ↓DL.z_its, ↓DL.z_lcg, ↓DL.z_yes, ↓DL.z_ifx, ↓DL.z_tup, ↓DL.z_lst, ↓DL.z_lstO, ↓DL.z_nop, ↓DL.z_part, ↓DL.z_pa, ↓DL.z_slx, ↓DL.z_sll, ↓DL.z_slt, ↓DL.z_sls, ↓DL.z_chain, ↓DL.z_ch, ↓DL.z_andv, ↓DL.z_orv, ↓DL.z_fnot, ↓DL.z_un, ↓DL.z_neg, ↓DL.z_call, ↓DL.z_prop, ↓DL.z_meth, ↓DL.z_make, ↓DL.z_obj, ↓DL.z_fl, ↓DL.z_flt, ↓DL.z_flf, ↓DL.z_ft, ↓DL.z_ftt, ↓DL.z_lent, ↓DL.z_adds, ↓DL.z_addl, ↓DL.z_addt, ↓DL.z_eqs, ↓DL.z_nes, ↓DL.z_eqb, ↓DL.z_eqn, ↓DL.z_eql, ↓DL.z_nel, ↓DL.z_isn, ↓DL.z_isnn, ↓DL.z_ins, ↓DL.z_nins, ↓DL.z_ixt, ↓DL.z_l0, ↓DL.z_l1, ↓DL.z_l2, ↓DL.z_rng, ↓DL.z_enl, ↓DL.z_ent, ↓DL.z_gtup, ↓DL.z_gcons, ↓DL.z_gnil, ↓DL.z_wipe0, ↓DL.z_wipe, ↓DL.z_mt, ↓DL.z_ty0, ↓DL.z_ty1, ↓DL.z_app0, ↓DL.z_app1, ↓DL.z_raise, ↓DL.z_ra, ↓DL.z_is_i_bool, ↓DL.z_is_i_int, ↓DL.z_is_i_str, ↓DL.z_is_i_tuple, ↓DL.z_is_i_list, ↓DL.z_is_b_bool, ↓DL.z_is_b_int, ↓DL.z_is_b_str, ↓DL.z_is_b_tuple, ↓DL.z_is_b_list, ↓DL.z_is_s_bool, ↓DL.z_is_s_int, ↓DL.z_is_s_str, ↓DL.z_is_s_tuple, ↓DL.z_is_s_list, ↓DL.z_is_l_bool, ↓DL.z_is_l_int, ↓DL.z_is_l_str, ↓DL.z_is_l_tuple, ↓DL.z_is_l_list, ↓DL.z_is_t_bool, ↓DL.z_is_t_int, ↓DL.z_is_t_str, ↓DL.z_is_t_tuple, ↓DL.z_is_t_list, ↓DL.z_is_n_bool, ↓DL.z_is_n_int, ↓DL.z_is_n_str, ↓DL.z_is_n_tuple, ↓DL.z_is_n_list, ↓DL.z_gslc, ↓DL.z_sc0, ↓DL.z_listO, ↓DL.z_lol, ↓DL.z_lot, ↓DL.z_fsum, ↓DL.z_own1, ↓DL.z_glen, ↓DL.z_gall, ↓DL.z_ixown, ↓DL.z_listG, ↓DL.z_ownit, ↓DL.z_fld, ↓DL.z_fz, ↓DL.z_fzs, ↓DL.z_xisi, ↓DL.z_xi, ↓DL.z_xval, ↓DL.z_xv, ↓DL.z_ixm, ↓DL.z_lm, ↓dTrim, ↓dLc, ↓dLcO, ↓dEnds, ↓z_gd1, ↓z_gd2, ↓z_gd3, ↓z_gdi, ↓z_gdo, slots, ↓reduceIte, decide_eq_true_eq, Bool.false_eq_true, Bool.not_true, Bool.not_false, decide_true, decide_false, Int.reduceEq, Int.reduceSub, Int.reduceAdd, Int.reduceLT, Int.reduceNeg, and_self, true_and, and_true]
        refine ⟨by rw [jsD_len, List.length_take]; omega, _, ?_, rfl⟩
        rw [take1 hj, jsD_app]
        rfl
      · rintro δ μ' ⟨v, rfl, rfl⟩
        refine ⟨p, [], _, rfl, rfl, ?_⟩
        rw [jsD_len, List.take_length]
        simp only [List.map_cons, List.map_nil, List.length_cons, List.length_nil, Nat.reduceSub, Nat.reduceAdd, Nat.zero_add, Nat.sub_self, List.replicate, List.cons_append, List.nil_append, List.append_nil, List.set_cons_zero, List.set_cons_succ, List.take_succ_cons, List.take_zero, List.drop_zero, List.drop_succ_cons, List.drop_nil, List.take_nil, Nat.reduceLeDiff, ↓DL.z_var0, ↓DL.z_varS, ↓DL.z_name0, ↓DL.z_nameS, ↓DL.z_c, ↓DL.z_seq, ↓DL.z_next, ↓DL.z_if, ↓DL.z_asg, ↓DL.z_ret, ↓DL.z_drop, ↓DL.z_val, ↓DL.z_bl, ↓DL.z_and, ↓DL.z_or, ↓DL.z_not, ↓DL.z_bin, ↓DL.z_cb, ↓DL.z_nil, ↓DL.z_cons, ↓DL.z_i0, ↓DL.z_i, ↓DL.z_mul, ↓DL.z_add, ↓DL.z_lt, ↓DL.z_le, ↓DL.z_gt, ↓DL.z_ge, ↓DL.z_eq, ↓DL.z_ne, ↓DL.z_len, ↓DL.z_lens, ↓DL.z_int, ↓DL.z_intb, ↓DL.z_ixO, ↓DL.z_ix0, ↓DL.z_ix1, ↓DL.z_ix2, ↓DL.z_ix3, ↓DL.z_ix4, ↓DL.z_gsub, ↓DL.z_sub1, ↓DL.z_sub2, ↓DL.z_sub3, ↓DL.z_sub4, ↓DL.z_for, ↓DL.z_itA, ↓DL.z_any, ↓DL.z_itl, ↓DL.z_itt, ↓DL.z_its, ↓DL.z_lcg, ↓DL.z_yes, ↓DL.z_ifx, ↓DL.z_tup, ↓DL.z_lst, ↓DL.z_lstO, ↓DL.z_nop, ↓DL.z_part, ↓DL.z_pa, ↓DL.z_slx, ↓DL.z_sll, ↓DL.z_slt, ↓DL.z_sls, ↓DL.z_chain, ↓DL.z_ch, ↓DL.z_andv, ↓DL.z_orv, ↓DL.z_fnot, ↓DL.z_un, ↓DL.z_neg, ↓DL.z_call, ↓DL.z_prop, ↓DL.z_meth, ↓DL.z_make, ↓DL.z_obj, ↓DL.z_fl, ↓DL.z_flt, ↓DL.z_flf, ↓DL.z_ft, ↓DL.z_ftt, ↓DL.z_lent, ↓DL.z_adds, ↓DL.z_addl, ↓DL.z_addt, ↓DL.z_eqs, ↓DL.z_nes, ↓DL.z_eqb, ↓DL.z_eqn, ↓DL.z_eql, ↓DL.z_nel, ↓DL.z_isn, ↓DL.z_isnn, ↓DL.z_ins, ↓DL.z_nins, ↓DL.z_ixt, ↓DL.z_l0, ↓DL.z_l1, ↓DL.z_l2, ↓DL.z_rng, ↓DL.z_enl, ↓DL.z_ent, ↓DL.z_gtup, ↓DL.z_gcons, ↓DL.z_gnil, ↓DL.z_wipe0, ↓DL.z_wipe, ↓DL.z_mt, ↓DL.z_ty0, ↓DL.z_ty1, ↓DL.z_app0, ↓DL.z_app1, ↓DL.z_raise, ↓DL.z_ra, ↓DL.z_is_i_bool, ↓DL.z_is_i_int, ↓DL.z_is_i_str, ↓DL.z_is_i_tuple, ↓DL.z_is_i_list, ↓DL.z_is_b_bool, ↓DL.z_is_b_int, ↓DL.z_is_b_str, ↓DL.z_is_b_tuple, ↓DL.z_is_b_list, ↓DL.z_is_s_bool, ↓DL.z_is_s_int, ↓DL.z_is_s_str, ↓DL.z_is_s_tuple, ↓DL.z_is_s_list, ↓DL.z_is_l_bool, ↓DL.z_is_l_int, ↓DL.z_is_l_str, ↓DL.z_is_l_tuple, ↓DL.z_is_l_list, ↓DL.z_is_t_bool, ↓DL.z_is_t_int, ↓DL.z_is_t_str, ↓DL.z_is_t_tuple, ↓DL.z_is_t_list, ↓DL.z_is_n_bool, ↓DL.z_is_n_int, ↓DL.z_is_n_str, ↓DL.z_is_n_tuple, ↓DL.z_is_n_list, ↓DL.z_gslc, ↓DL.z_sc0, ↓DL.z_listO, ↓DL.z_lol, ↓DL.z_lot, ↓DL.z_fsum, ↓DL.z_own1, ↓DL.z_glen, ↓DL.z_gall, ↓DL.z_ixown, ↓DL.z_listG, ↓DL.z_ownit, ↓DL.z_fld, ↓DL.z_fz, ↓DL.z_fzs, ↓DL.z_xisi, ↓DL.z_xi, ↓DL.z_xval, ↓DL.z_xv, ↓DL.z_ixm, ↓DL.z_lm, ↓dTrim, ↓dLc, ↓dLcO, ↓dEnds, ↓z_gd1, ↓z_gd2, ↓z_gd3, ↓z_gdi, ↓z_gdo, slots, ↓reduceIte, decide_eq_true_eq, Bool.false_eq_true, Bool.not_true, Bool.not_false, decide_true, decide_false, Int.reduceEq, Int.reduceSub, Int.reduceAdd, Int.reduceLT, Int.reduceNeg, and_self, true_and, and_true]
        refine ⟨_, rfl, (sm_js (by omega) 1).1, ?_⟩
        simp only [List.map_cons, List.map_nil, List.length_cons, List.length_nil, Nat.reduceSub, Nat.reduceAdd, Nat.zero_add, Nat.sub_self, List.replicate, List.cons_append, List.nil_append, List.append_nil, List.set_cons_zero, List.set_cons_succ, List.take_succ_cons, List.take_zero, List.drop_zero, List.drop_succ_cons, List.drop_nil, List.take_nil, Nat.reduceLeDiff, ↓DL.z_var0, ↓DL.z_varS, ↓DL.z_name0, ↓DL.z_nameS, ↓DL.z_c, ↓DL.z_seq, ↓DL.z_next, ↓DL.z_if, ↓DL.z_asg, ↓DL.z_ret, ↓DL.z_drop, ↓DL.z_val, ↓DL.z_bl, ↓DL.z_and, ↓DL.z_or, ↓DL.z_not, ↓DL.z_bin, ↓DL.z_cb, ↓DL.z_nil, ↓DL.z_cons, ↓DL.z_i0, ↓DL.z_i, ↓DL.z_mul, ↓DL.z_add, ↓DL.z_lt, ↓DL.z_le, ↓DL.z_gt, ↓DL.z_ge, ↓DL.z_eq, ↓DL.z_ne, ↓DL.z_len, ↓DL.z_lens, ↓DL.z_int, ↓DL.z_intb, ↓DL.z_ixO, ↓DL.z_ix0, ↓DL.z_ix1, ↓DL.z_ix2, ↓DL.z_ix3, ↓DL.z_ix4, ↓DL.z_gsub, ↓DL.z_sub1, ↓DL.z_sub2, ↓DL.z_sub3, ↓DL.z_sub4, ↓DL.z_for, ↓DL.z_itA, ↓DL.z_any, ↓DL.z_itl, ↓DL.z_itt, ↓DL.z_its, ↓DL.z_lcg, ↓DL.z_yes, ↓DL.z_ifx, ↓DL.z_tup, ↓DL.z_lst, ↓DL.z_lstO, ↓DL.z_nop, ↓DL.z_part, ↓DL.z_pa, ↓DL.z_slx, ↓DL.z_sll, ↓DL.z_slt, ↓DL.z_sls, ↓DL.z_chain, ↓DL.z_ch, ↓DL.z_andv, ↓DL.z_orv, ↓DL.z_fnot, ↓DL.z_un, ↓DL.z_neg, ↓DL.z_call, ↓DL.z_prop, ↓DL.z_meth, ↓DL.z_make, ↓DL.z_obj, ↓DL.z_fl, ↓DL.z_flt, ↓DL.z_flf, ↓DL.z_ft, ↓DL.z_ftt, ↓DL.z_lent, ↓DL.z_adds, ↓DL.z_addl, ↓DL.z_addt, ↓DL.z_eqs, ↓DL.z_nes, ↓DL.z_eqb, ↓DL.z_eqn, ↓DL.z_eql, ↓DL.z_nel, ↓DL.z_isn, ↓DL.z_isnn, ↓DL.z_ins, ↓DL.z_nins, ↓DL.z_ixt, ↓DL.z_l0, ↓DL.z_l1, ↓DL.z_l2, ↓DL.z_rng, ↓DL.z_enl, ↓DL.z_ent, ↓DL.z_gtup, ↓DL.z_gcons, ↓DL.z_gnil, ↓DL.z_wipe0, ↓DL.z_wipe, ↓DL.z_mt, ↓DL.z_ty0, ↓DL.z_ty1, ↓DL.z_app0, ↓DL.z_app1, ↓DL.z_raise, ↓DL.z_ra, ↓DL.z_is_i_bool, ↓DL.z_is_i_int, ↓DL.z_is_i_str, ↓DL.z_is_i_tuple, ↓DL.z_is_i_list, ↓DL.z_is_b_bool, ↓DL.z_is_b_int, ↓DL.z_is_b_str, ↓DL.z_is_b_tuple, ↓DL.z_is_b_list, ↓DL.z_is_s_bool, ↓DL.z_is_s_int, ↓DL.z_is_s_str, ↓DL.z_is_s_tuple, ↓DL.z_is_s_list, ↓DL.z_is_l_bool, ↓DL.z_is_l_int, ↓DL.z_is_l_str, ↓DL.z_is_l_tuple, ↓DL.z_is_l_list, ↓DL.z_is_t_bool, ↓DL.z_is_t_int, ↓DL.z_is_t_str, ↓DL.z_is_t_tuple, ↓DL.z_is_t_list, ↓DL.z_is_n_bool, ↓DL.z_is_n_int, ↓DL.z_is_n_str, ↓DL.z_is_n_tuple, ↓DL.z_is_n_list, ↓DL.z_gslc, ↓DL.z_sc0, ↓DL.z_listO, ↓DL.z_lol, ↓DL.z_lot, ↓DL.z_fsum, ↓DL.z_own1, ↓DL.z_glen, ↓DL.z_gall, ↓DL.z_ixown, ↓DL.z_listG, ↓DL.z_ownit, ↓DL.z_fld, ↓DL.z_fz, ↓DL.z_fzs, ↓DL.z_xisi, ↓DL.z_xi, ↓DL.z_xval, ↓DL.z_xv, ↓DL.z_ixm, ↓DL.z_lm, ↓dTrim, ↓dLc, ↓dLcO, ↓dEnds, ↓z_gd1, ↓z_gd2, ↓z_gd3, ↓z_gdi, ↓z_gdo, slots, ↓reduceIte, decide_eq_true_eq, Bool.false_eq_true, Bool.not_true, Bool.not_false, decide_true, decide_false, Int.reduceEq, Int.reduceSub, Int.reduceAdd, Int.reduceLT, Int.reduceNeg, and_self, true_and, and_true, jsD_len]
        refine ⟨by omega, by rw [rng_length]; omega, fun k acc μ' => μ' = [] ∧ acc = jsD (js.take k), ⟨rfl, rfl⟩, ?_, ?_⟩
        · rintro k d acc μ' hd _ ⟨rfl, rfl⟩
          obtain ⟨h1, rfl⟩ := rng_get hd
          obtain ⟨j, hj⟩ := ge_ h1
          refine ⟨s, js, e, k, j, by rw [Int.zero_add], hj, rfl, ?_⟩
          rw [take1 hj, jsD_app]
          rfl
        rintro acc μ' _ ⟨rfl, rfl⟩
        rw [rng_length, List.take_length]
        refine ⟨_, rfl, (sm_js (by omega) 1).1, ?_⟩
        simp only [List.map_cons, List.map_nil, List.length_cons, List.length_nil, Nat.reduceSub, Nat.reduceAdd, Nat.zero_add, Nat.sub_self, List.replicate, List.cons_append, List.nil_append, List.append_nil, List.set_cons_zero, List.set_cons_succ, List.take_succ_cons, List.take_zero, List.drop_zero, List.drop_succ_cons, List.drop_nil, List.take_nil, Nat.reduceLeDiff, ↓DL.z_var0, ↓DL.z_varS, ↓DL.z_name0, ↓DL.z_nameS, ↓DL.z_c, ↓DL.z_seq, ↓DL.z_next, ↓DL.z_if, ↓DL.z_asg, ↓DL.z_ret, ↓DL.z_drop, ↓DL.z_val, ↓DL.z_bl, ↓DL.z_and, ↓DL.z_or, ↓DL.z_not, ↓DL.z_bin, ↓DL.z_cb, ↓DL.z_nil, ↓DL.z_cons, ↓DL.z_i0, ↓DL.z_i, ↓DL.z_mul, ↓DL.z_add, ↓DL.z_lt, ↓DL.z_le, ↓DL.z_gt, ↓DL.z_ge, ↓DL.z_eq, ↓DL.z_ne, ↓DL.z_len, ↓DL.z_lens, ↓DL.z_int, ↓DL.z_intb, ↓DL.z_ixO, ↓DL.z_ix0, ↓DL.z_ix1, ↓DL.z_ix2, ↓DL.z_ix3, ↓DL.z_ix4, ↓DL.z_gsub, ↓DL.z_sub1, ↓DL.z_sub2, ↓DL.z_sub3, ↓DL.z_sub4, ↓DL.z_for, ↓DL.z_itA, ↓DL.z_any, ↓DL.z_itl, ↓DL.z_itt, ↓DL.z_its, ↓DL.z_lcg, ↓DL.z_yes, ↓DL.z_ifx, ↓DL.z_tup, ↓DL.z_lst, ↓DL.z_lstO, ↓DL.z_nop, ↓DL.z_part, ↓DL.z_pa, ↓DL.z_slx, ↓DL.z_sll, ↓DL.z_slt, ↓DL.z_sls, ↓DL.z_chain, ↓DL.z_ch, ↓DL.z_andv, ↓DL.z_orv, ↓DL.z_fnot, ↓DL.z_un, ↓DL.z_neg, ↓DL.z_call, ↓DL.z_prop, ↓DL.z_meth, ↓DL.z_make, ↓DL.z_obj, ↓DL.z_fl, ↓DL.z_flt, ↓DL.z_flf, ↓DL.z_ft, ↓DL.z_ftt, ↓DL.z_lent, ↓DL.z_adds, ↓DL.z_addl, ↓DL.z_addt, ↓DL.z_eqs, ↓DL.z_nes, ↓DL.z_eqb, ↓DL.z_eqn, ↓DL.z_eql, ↓DL.z_nel, ↓DL.z_isn, ↓DL.z_isnn, ↓DL.z_ins, ↓DL.z_nins, ↓DL.z_ixt, ↓DL.z_l0, ↓DL.z_l1, ↓DL.z_l2, ↓DL.z_rng, ↓DL.z_enl, ↓DL.z_ent, ↓DL.z_gtup, ↓DL.z_gcons, ↓DL.z_gnil, ↓DL.z_wipe0, ↓DL.z_wipe, ↓DL.z_mt, ↓DL.z_ty0, ↓DL.z_ty1, ↓DL.z_app0, ↓DL.z_app1, ↓DL.z_raise, ↓DL.z_ra, ↓DL.z_is_i_bool, ↓DL.z_is_i_int, ↓DL.z_is_i_str, ↓DL.z_is_i_tuple, ↓DL.z_is_i_list, ↓DL.z_is_b_bool, ↓DL.z_is_b_int, ↓DL.z_is_b_str, ↓DL.z_is_b_tuple, ↓DL.z_is_b_list, ↓DL.z_is_s_bool, ↓DL.z_is_s_int, ↓DL.z_is_s_str, ↓DL.z_is_s_tuple, ↓DL.z_is_s_list, ↓DL.z_is_l_bool, ↓DL.z_is_l_int, ↓DL.z_is_l_str, ↓DL.z_is_l_tuple, ↓DL.z_is_l_list, ↓DL.z_is_t_bool, ↓DL.z_is_t_int, ↓DL.z_is_t_str, ↓DL.z_is_t_tuple, ↓DL.z_is_t_list, ↓DL.z_is_n_bool, ↓DL.z_is_n_int, ↓DL.z_is_n_str, ↓DL.z_is_n_tuple, ↓DL.z_is_n_list, ↓DL.z_gslc, ↓DL.z_sc0, ↓DL.z_listO, ↓DL.z_lol, ↓DL.z_lot, ↓DL.z_fsum, ↓DL.z_own1, ↓DL.z_glen, ↓DL.z_gall, ↓DL.z_ixown, ↓DL.z_listG, ↓DL.z_ownit, ↓DL.z_fld, ↓DL.z_fz, ↓DL.z_fzs, ↓DL.z_xisi, ↓DL.z_xi, ↓DL.z_xval, ↓DL.z_xv, ↓DL.z_ixm, ↓DL.z_lm, ↓dTrim, ↓dLc, ↓dLcO, ↓dEnds, ↓z_gd1, ↓z_gd2, ↓z_gd3, ↓z_gdi, ↓z_gdo, slots, ↓reduceIte, decide_eq_true_eq, Bool.false_eq_true, Bool.not_true, Bool.not_false, decide_true, decide_false, Int.reduceEq, Int.reduceSub, Int.reduceAdd, Int.reduceLT, Int.reduceNeg, and_self, true_and, and_true]
        refine ⟨s, js, e, rfl, ?_⟩
        simp only [List.map_cons, List.map_nil, List.length_cons, List.length_nil, Nat.reduceSub, Nat.reduceAdd, Nat.zero_add, Nat.sub_self, List.replicate, List.cons_append, List.nil_append, List.append_nil, List.set_cons_zero, List.set_cons_succ, List.take_succ_cons, List.take_zero, List.drop_zero, List.drop_succ_cons, List.drop_nil, List.take_nil, Nat.reduceLeDiff, ↓DL.z_var0, ↓DL.z_varS, ↓DL.z_name0, ↓DL.z_nameS, ↓DL.z_c, ↓DL.z_seq, ↓DL.z_next, ↓DL.z_if, ↓DL.z_asg, ↓DL.z_ret, ↓DL.z_drop, ↓DL.z_val, ↓DL.z_bl, ↓DL.z_and, ↓DL.z_or, ↓DL.z_not, ↓DL.z_bin, ↓DL.z_cb, ↓DL.z_nil, ↓DL.z_cons, ↓DL.z_i0, ↓DL.z_i, ↓DL.z_mul, ↓DL.z_add, ↓DL.z_lt, ↓DL.z_le, ↓DL.z_gt, ↓DL.z_ge, ↓DL.z_eq, ↓DL.z_ne, ↓DL.z_len, ↓DL.z_lens, ↓DL.z_int, ↓DL.z_intb, ↓DL.z_ixO, ↓DL.z_ix0, ↓DL.z_ix1, ↓DL.z_ix2, ↓DL.z_ix3, ↓DL.z_ix4, ↓DL.z_gsub, ↓DL.z_sub1, ↓DL.z_sub2, ↓DL.z_sub3, ↓DL.z_sub4, ↓DL.z_for, ↓DL.z_itA, ↓DL.z_any, ↓DL.z_itl, ↓DL.z_itt, ↓DL.z_its, ↓DL.z_lcg, ↓DL.z_yes, ↓DL.z_ifx, ↓DL.z_tup, ↓DL.z_lst, ↓DL.z_lstO, ↓DL.z_nop, ↓DL.z_part, ↓DL.z_pa, ↓DL.z_slx, ↓DL.z_sll, ↓DL.z_slt, ↓DL.z_sls, ↓DL.z_chain, ↓DL.z_ch, ↓DL.z_andv, ↓DL.z_orv, ↓DL.z_fnot, ↓DL.z_un, ↓DL.z_neg, ↓DL.z_call, ↓DL.z_prop, ↓DL.z_meth, ↓DL.z_make, ↓DL.z_obj, ↓DL.z_fl, ↓DL.z_flt, ↓DL.z_flf, ↓DL.z_ft, ↓DL.z_ftt, ↓DL.z_lent, ↓DL.z_adds, ↓DL.z_addl, ↓DL.z_addt, ↓DL.z_eqs, ↓DL.z_nes, ↓DL.z_eqb, ↓DL.z_eqn, ↓DL.z_eql, ↓DL.z_nel, ↓DL.z_isn, ↓DL.z_isnn, ↓DL.z_ins, ↓DL.z_nins, ↓DL.z_ixt, ↓DL.z_l0, ↓DL.z_l1, ↓DL.z_l2, ↓DL.z_rng, ↓DL.z_enl, ↓DL.z_ent, ↓DL.z_gtup, ↓DL.z_gcons, ↓DL.z_gnil, ↓DL.z_wipe0, ↓DL.z_wipe, ↓DL.z_mt, ↓DL.z_ty0, ↓DL.z_ty1, ↓DL.z_app0, ↓DL.z_app1, ↓DL.z_raise, ↓DL.z_ra, ↓DL.z_is_i_bool, ↓DL.z_is_i_int, ↓DL.z_is_i_str, ↓DL.z_is_i_tuple, ↓DL.z_is_i_list, ↓DL.z_is_b_bool, ↓DL.z_is_b_int, ↓DL.z_is_b_str, ↓DL.z_is_b_tuple, ↓DL.z_is_b_list, ↓DL.z_is_s_bool, ↓DL.z_is_s_int, ↓DL.z_is_s_str, ↓DL.z_is_s_tuple, ↓DL.z_is_s_list, ↓DL.z_is_l_bool, ↓DL.z_is_l_int, ↓DL.z_is_l_str, ↓DL.z_is_l_tuple, ↓DL.z_is_l_list, ↓DL.z_is_t_bool, ↓DL.z_is_t_int, ↓DL.z_is_t_str, ↓DL.z_is_t_tuple, ↓DL.z_is_t_list, ↓DL.z_is_n_bool, ↓DL.z_is_n_int, ↓DL.z_is_n_str, ↓DL.z_is_n_tuple, ↓DL.z_is_n_list, ↓DL.z_gslc, ↓DL.z_sc0, ↓DL.z_listO, ↓DL.z_lol, ↓DL.z_lot, ↓DL.z_fsum, ↓DL.z_own1, ↓DL.z_glen, ↓DL.z_gall, ↓DL.z_ixown, ↓DL.z_listG, ↓DL.z_ownit, ↓DL.z_fld, ↓DL.z_fz, ↓DL.z_fzs, ↓DL.z_xisi, ↓DL.z_xi, ↓DL.z_xval, ↓DL.z_xv, ↓DL.z_ixm, ↓DL.z_lm, ↓dTrim, ↓dLc, ↓dLcO, ↓dEnds, ↓z_gd1, ↓z_gd2, ↓z_gd3, ↓z_gdi, ↓z_gdo, slots, ↓reduceIte, decide_eq_true_eq, Bool.false_eq_true, Bool.not_true, Bool.not_false, decide_true, decide_false, Int.reduceEq, Int.reduceSub, Int.reduceAdd, Int.reduceLT, Int.reduceNeg, and_self, true_and, and_true]
        refine ⟨by omega, by omega, _, rfl, rfl, ?_⟩
        simp only [List.map_cons, List.map_nil, List.length_cons, List.length_nil, Nat.reduceSub, Nat.reduceAdd, Nat.zero_add, Nat.sub_self, List.replicate, List.cons_append, List.nil_append, List.append_nil, List.set_cons_zero, List.set_cons_succ, List.take_succ_cons, List.take_zero, List.drop_zero, List.drop_succ_cons, List.drop_nil, List.take_nil, Nat.reduceLeDiff, ↓DL.z_var0, ↓DL.z_varS, ↓DL.z_name0, ↓DL.z_nameS, ↓DL.z_c, ↓DL.z_seq, ↓DL.z_next, ↓DL.z_if, ↓DL.z_asg, ↓DL.z_ret, ↓DL.z_drop, ↓DL.z_val, ↓DL.z_bl, ↓DL.z_and, ↓DL.z_or, ↓DL.z_not, ↓DL.z_bin, ↓DL.z_cb, ↓DL.z_nil, ↓DL.z_cons, ↓DL.z_i0, ↓DL.z_i, ↓DL.z_mul, ↓DL.z_add, ↓DL.z_lt, ↓DL.z_le, ↓DL.z_gt, ↓DL.z_ge, ↓DL.z_eq, ↓DL.z_ne, ↓DL.z_len, ↓DL.z_lens, ↓DL.z_int, ↓DL.z_intb, ↓DL.z_ixO, ↓DL.z_ix0, ↓DL.z_ix1, ↓DL.z_ix2, ↓DL.z_ix3, ↓DL.z_ix4, ↓DL.z_gsub, ↓DL.z_sub1, ↓DL.z_sub2, ↓DL.z_sub3, ↓DL.z_sub4, ↓DL.z_for, ↓DL.z_itA, ↓DL.z_any, ↓DL.z_itl, ↓DL.z_itt, ↓DL.z_its, ↓DL.z_lcg, ↓DL.z_yes, ↓DL.z_ifx, ↓DL.z_tup, ↓DL.z_lst, ↓DL.z_lstO, ↓DL.z_nop, ↓DL.z_part, ↓DL.z_pa, ↓DL.z_slx, ↓DL.z_sll, ↓DL.z_slt, ↓DL.z_sls, ↓DL.z_chain, ↓DL.z_ch, ↓DL.z_andv, ↓DL.z_orv, ↓DL.z_fnot, ↓DL.z_un, ↓DL.z_neg, ↓DL.z_call, ↓DL.z_prop, ↓DL.z_meth, ↓DL.z_make, ↓DL.z_obj, ↓DL.z_fl, ↓DL.z_flt, ↓DL.z_flf, ↓DL.z_ft, ↓DL.z_ftt, ↓DL.z_lent, ↓DL.z_adds, ↓DL.z_addl, ↓DL.z_addt, ↓DL.z_eqs, ↓DL.z_nes, ↓DL.z_eqb, ↓DL.z_eqn, ↓DL.z_eql, ↓DL.z_nel, ↓DL.z_isn, ↓DL.z_isnn, ↓DL.z_ins, ↓DL.z_nins, ↓DL.z_ixt, ↓DL.z_l0, ↓DL.z_l1, ↓DL.z_l2, ↓DL.z_rng, ↓DL.z_enl, ↓DL.z_ent, ↓DL.z_gtup, ↓DL.z_gcons, ↓DL.z_gnil, ↓DL.z_wipe0, ↓DL.z_wipe, ↓DL.z_mt, ↓DL.z_ty0, ↓DL.z_ty1, ↓DL.z_app0, ↓DL.z_app1, ↓DL.z_raise, ↓DL.z_ra, ↓DL.z_is_i_bool, ↓DL.z_is_i_int, ↓DL.z_is_i_str, ↓DL.z_is_i_tuple, ↓DL.z_is_i_list, ↓DL.z_is_b_bool, ↓DL.z_is_b_int, ↓DL.z_is_b_str, ↓DL.z_is_b_tuple, ↓DL.z_is_b_list, ↓DL.z_is_s_bool, ↓DL.z_is_s_int, ↓DL.z_is_s_str, ↓DL.z_is_s_tuple, ↓DL.z_is_s_list, ↓DL.z_is_l_bool, ↓DL.z_is_l_int, ↓DL.z_is_l_str, ↓DL.z_is_l_tuple, ↓DL.z_is_l_list, ↓DL.z_is_t_bool, ↓DL.z_is_t_int, ↓DL.z_is_t_str, ↓DL.z_is_t_tuple, ↓DL.z_is_t_list, ↓DL.z_is_n_bool, ↓DL.z_is_n_int, ↓DL.z_is_n_str, ↓DL.z_is_n_tuple, ↓DL.z_is_n_list, ↓DL.z_gslc, ↓DL.z_sc0, ↓DL.z_listO, ↓DL.z_lol, ↓DL.z_lot, ↓DL.z_fsum, ↓DL.z_own1, ↓DL.z_glen, ↓DL.z_gall, ↓DL.z_ixown, ↓DL.z_listG, ↓DL.z_ownit, ↓DL.z_fld, ↓DL.z_fz, ↓DL.z_fzs, ↓DL.z_xisi, ↓DL.z_xi, ↓DL.z_xval, ↓DL.z_xv, ↓DL.z_ixm, ↓DL.z_lm, ↓dTrim, ↓dLc, ↓dLcO, ↓dEnds, ↓z_gd1, ↓z_gd2, ↓z_gd3, ↓z_gdi, ↓z_gdo, slots, ↓reduceIte, decide_eq_true_eq, Bool.false_eq_true, Bool.not_true, Bool.not_false, decide_true, decide_false, Int.reduceEq, Int.reduceSub, Int.reduceAdd, Int.reduceLT, Int.reduceNeg, and_self, true_and, and_true]
        refine ⟨s, js, e, rfl, ?_⟩
        refine ⟨by omega, fun k acc μ' => μ' = [] ∧ acc = (js.take k).map (fun j => D.int (j.2.length : Nat)), ⟨rfl, rfl⟩, ?_, ?_⟩
        · rintro k d acc μ' hd _ ⟨rfl, rfl⟩
          obtain ⟨⟨g, w⟩, hj, rfl⟩ := jsD_get hd
          simp only [List.map_cons, List.map_nil, List.length_cons, List.length_nil, Nat.reduceSub, Nat.reduceAdd, Nat.zero_add, Nat.sub_self, List.replicate, List.cons_append, List.nil_append, List.append_nil, List.set_cons_zero, List.set_cons_succ, List.take_succ_cons, List.take_zero, List.drop_zero, List.drop_succ_cons, List.drop_nil, List.take_nil, Nat.reduceLeDiff, ↓DL.z_var0, ↓DL.z_varS, ↓DL.z_name0, ↓DL.z_nameS, ↓DL.z_c, ↓DL.z_seq, ↓DL.z_next, ↓DL.z_if, ↓DL.z_asg, ↓DL.z_ret, ↓DL.z_drop, ↓DL.z_val, ↓DL.z_bl, ↓DL.z_and, ↓DL.z_or, ↓DL.z_not, ↓DL.z_bin, ↓DL.z_cb, ↓DL.z_nil, ↓DL.z_cons, ↓DL.z_i0, ↓DL.z_i, ↓DL.z_mul, ↓DL.z_add, ↓DL.z_lt, ↓DL.z_le, ↓DL.z_gt, ↓DL.z_ge, ↓DL.z_eq, ↓DL.z_ne, ↓DL.z_len, ↓DL.z_lens, ↓DL.z_int, ↓DL.z_intb, ↓DL.z_ixO, ↓DL.z_ix0, ↓DL.z_ix1, ↓DL.z_ix2, ↓DL.z_ix3, ↓DL.z_ix4, ↓DL.z_gsub, ↓DL.z_sub1, ↓DL.z_sub2, ↓DL.z_sub3, ↓DL.z_sub4, ↓DL.z_for, ↓DL.z_itA, ↓DL.z_any, ↓DL.z_itl, ↓DL.z_itt, ↓DL.z_its, ↓DL.z_lcg, ↓DL.z_yes, ↓DL.z_ifx, ↓DL.z_tup, ↓DL.z_lst, ↓DL.z_lstO, ↓DL.z_nop, ↓DL.z_part, ↓DL.z_pa, ↓DL.z_slx, ↓DL.z_sll, ↓DL.z_slt, ↓DL.z_sls, ↓DL.z_chain, ↓DL.z_ch, ↓DL.z_andv, ↓DL.z_orv, ↓DL.z_fnot, ↓DL.z_un, ↓DL.z_neg, ↓DL.z_call, ↓DL.z_prop, ↓DL.z_meth, ↓DL.z_make, ↓DL.z_obj, ↓DL.z_fl, ↓DL.z_flt, ↓DL.z_flf, ↓DL.z_ft, ↓DL.z_ftt, ↓DL.z_lent, ↓DL.z_adds, ↓DL.z_addl, ↓DL.z_addt, ↓DL.z_eqs, ↓DL.z_nes, ↓DL.z_eqb, ↓DL.z_eqn, ↓DL.z_eql, ↓DL.z_nel, ↓DL.z_isn, ↓DL.z_isnn, ↓DL.z_ins, ↓DL.z_nins, ↓DL.z_ixt, ↓DL.z_l0, ↓DL.z_l1, ↓DL.z_l2, ↓DL.z_rng, ↓DL.z_enl, ↓DL.z_ent, ↓DL.z_gtup, ↓DL.z_gcons, ↓DL.z_gnil, ↓DL.z_wipe0, ↓DL.z_wipe, ↓DL.z_mt, ↓DL.z_ty0, ↓DL.z_ty1, ↓DL.z_app0, ↓DL.z_app1, ↓DL.z_raise, ↓DL.z_ra, ↓DL.z_is_i_bool, ↓DL.z_is_i_int, ↓DL.z_is_i_str, ↓DL.z_is_i_tuple, ↓DL.z_is_i_list, ↓DL.z_is_b_bool, ↓DL.z_is_b_int, ↓DL.z_is_b_str, ↓DL.z_is_b_tuple, ↓DL.z_is_b_list, ↓DL.z_is_s_bool, ↓DL.z_is_s_int, ↓DL.z_is_s_str, ↓DL.z_is_s_tuple, ↓DL.z_is_s_list, ↓DL.z_is_l_bool, ↓DL.z_is_l_int, ↓DL.z_is_l_str, ↓DL.z_is_l_tuple, ↓DL.z_is_l_list, ↓DL.z_is_t_bool, ↓DL.z_is_t_int, ↓DL.z_is_t_str, ↓DL.z_is_t_tuple, ↓DL.z_is_t_list, ↓DL.z_is_n_bool, ↓DL.z_is_n_int, ↓DL.z_is_n_str, ↓DL.z_is_n_tuple, ↓DL.z_is_n_list, ↓DL.z_gslc, ↓DL.z_sc0, ↓DL.z_listO, ↓DL.z_lol, ↓DL.z_lot, ↓DL.z_fsum, ↓DL.z_own1, ↓DL.z_glen, ↓DL.z_gall, ↓DL.z_ixown, ↓DL.z_listG, ↓DL.z_ownit, ↓DL.z_fld, ↓DL.z_fz, ↓DL.z_fzs, ↓DL.z_xisi, ↓DL.z_xi, ↓DL.z_xval, ↓DL.z_xv, ↓DL.z_ixm, ↓DL.z_lm, ↓dTrim, ↓dLc, ↓dLcO, ↓dEnds, ↓z_gd1, ↓z_gd2, ↓z_gd3, ↓z_gdi, ↓z_gdo, slots, ↓reduceIte, decide_eq_true_eq, Bool.false_eq_true, Bool.not_true, Bool.not_false, decide_true, decide_false, Int.reduceEq, Int.reduceSub, Int.reduceAdd, Int.reduceLT, Int.reduceNeg, and_self, true_and, and_true, jD]
          rw [take1 hj, List.map_append]
          rfl
        rintro acc μ' _ ⟨rfl, rfl⟩
        rw [List.take_length]
        refine ⟨_, ints_map (fun j => ((j.2.length : Nat) : Int)) js, ?_⟩
        rw [sum_cast]
        have hel := play_len hp
        simp only [tot] at hel
        rw [show ((js.map fun j => j.2.length).sum : Nat) = ((e.length : Int) - s.length) from by omega]
        exact ⟨_, rfl, rfl, hq⟩
theorem sc_law_told : FnScope ["start", "joins", "error"] ["start", "joins"] (defScope (top 25)) := ⟨rfl, rfl, rfl, by decide +kernel, rfl, by decide +kernel, by decide +kernel⟩
theorem ok_law_told (fx : Fx K mg C Dd) (h_p_row : PDa P w K mg base C 0 "row" 1 df_Growth_row) (h_mGrowth2 : KDa P w K mg base C "Growth" 0 4 2 [] df_Growth_init) (F : FunD K "_law_told" "_law_told" (defArgs (top 25)) (defBody (top 25)) (defScope (top 25)) [] [] fa fd) : FnOk P w K mg base (L2.CX P w) (5 + 1) fa fd ["start", "joins"] (spOf C K 2 (df_law_told)) := by
  refine okD (k := 5) F sc_law_told (fun cdv A outer s H E hr tk => (ss_one (s_try 2 rfl rfl sc_law_told.nd rfl rfl ⟨rfl, by decide, .inl fx.n_GrowsError⟩ tk fx.x_GrowsError (fun W9 pn9 xe9 tk9 hp9 => (ss_one (s_ret (e_prop 0 h_p_row (hr.mono (by decide)) (e_make h_mGrowth2 (hr.mono (by decide)) tk9 (a_cons (e_var 0) (a_cons (e_var 1) a_nil))))))) (fun a9 oe9 c9 dx9 pn9 hc9 hz hf => (ss_one (s_ret (e_lst (a_cons (e_xisi (is := isX c9) (fx.xc _ hc9) hz hf fx.isinstance (fx.xi _ hc9) (a_cons (e_var 2) (a_cons (e_cls 2 fx.k_GapOutOfRange) a_nil))) (a_cons (e_xisi (is := isX c9) (fx.xc _ hc9) hz hf fx.isinstance (fx.xi _ hc9) (a_cons (e_var 2) (a_cons (e_cls 1 fx.k_InvalidGroup) a_nil))) (a_cons (e_xisi (is := isX c9) (fx.xc _ hc9) hz hf fx.isinstance (fx.xi _ hc9) (a_cons (e_var 2) (a_cons (e_ty "ValueError" fx.ValueError (by decide +kernel)) a_nil))) (a_cons (e_xval (fx.xf _ hc9) (fx.xn _ hc9) fx.fn_0 hz hf (e_var 2)) a_nil))))))))))) ?_
  intro ds μ Q R hl h
  obtain ⟨s, js, rfl, ht, hn, hs, hq⟩ := h
  simp only [List.map_cons, List.map_nil, List.length_cons, List.length_nil, Nat.reduceSub, Nat.reduceAdd, Nat.zero_add, Nat.sub_self, List.replicate, List.cons_append, List.nil_append, List.append_nil, List.set_cons_zero, List.set_cons_succ, List.take_succ_cons, List.take_zero, List.drop_zero, List.drop_succ_cons, List.drop_nil, List.take_nil, Nat.reduceLeDiff, ↓DL.z_var0, ↓DL.z_varS, ↓DL.z_name0, ↓DL.z_nameS, ↓DL.z_c, ↓DL.z_seq, ↓DL.z_next, ↓DL.z_if, ↓DL.z_asg, ↓DL.z_ret, ↓DL.z_drop, ↓DL.z_val, ↓DL.z_bl, ↓DL.z_and, ↓DL.z_or, ↓DL.z_not, ↓DL.z_bin, ↓DL.z_cb, ↓DL.z_nil, ↓DL.z_cons, ↓DL.z_i0, ↓DL.z_i, ↓DL.z_mul, ↓DL.z_add, ↓DL.z_lt, ↓DL.z_le, ↓DL.z_gt, ↓DL.z_ge, ↓DL.z_eq, ↓DL.z_ne, ↓DL.z_len, ↓DL.z_lens, ↓DL.z_int, ↓DL.z_intb, ↓DL.z_ixO, ↓DL.z_ix0, ↓DL.z_ix1, ↓DL.z_ix2, ↓DL.z_ix3, ↓DL.z_ix4, ↓DL.z_gsub, ↓DL.z_sub1, ↓DL.z_sub2, ↓DL.z_sub3, ↓DL.z_sub4, ↓DL.z_for, ↓DL.z_itA, ↓DL.z_any, ↓DL.z_itl, ↓DL.z_itt, ↓DL.z_its, ↓DL.z_lcg, ↓DL.z_yes, ↓DL.z_ifx, ↓DL.z_tup, ↓DL.z_lst, ↓DL.z_lstO, ↓DL.z_nop, ↓DL.z_part, ↓DL.z_pa, ↓DL.z_slx, ↓DL.z_sll, ↓DL.z_slt, ↓DL.z_sls, ↓DL.z_chain, ↓DL.z_ch, ↓DL.z_andv, ↓DL.z_orv, ↓DL.z_fnot, ↓DL.z_un, ↓DL.z_neg, ↓DL.z_call, ↓DL.z_prop, ↓DL.z_meth, ↓DL.z_make, ↓DL.z_obj, ↓DL.z_fl, ↓DL.z_flt, ↓DL.z_flf, ↓DL.z_ft, ↓DL.z_ftt, ↓DL.z_lent, ↓DL.z_adds, ↓DL.z_addl, ↓DL.z_addt, ↓DL.z_eqs, ↓DL.z_nes, ↓DL.z_eqb, ↓DL.z_eqn, ↓DL.z_eql, ↓DL.z_nel, ↓DL.z_isn, ↓DL.z_isnn, ↓DL.z_ins, ↓DL.z_nins, ↓DL.z_ixt, ↓DL.z_l0, ↓DL.z_l1, ↓DL.z_l2, ↓DL.z_rng, ↓DL.z_enl, ↓DL.z_ent, ↓DL.z_gtup, ↓DL.z_gcons, ↓DL.z_gnil, ↓DL.z_wipe0, ↓DL.z_wipe, ↓DL.z_mt, ↓DL.z_ty0, ↓DL.z_ty1, ↓DL.z_app0, ↓DL.z_app1, ↓DL.z_raise, ↓DL.z_ra, ↓DL.z_is_i_bool, ↓DL.z_is_i_int, ↓DL.z_is_i_str, ↓DL.z_is_i_tuple, ↓DL.z_is_i_list, ↓DL.z_is_b_bool, ↓DL.z_is_b_int, ↓DL.z_is_b_str, ↓DL.z_is_b_tuple, ↓DL.z_is_b_list, ↓DL.z_is_s_bool, ↓DL.z_is_s_int, ↓DL.z_is_s_str, ↓DL.z_is_s_tuple, ↓DL.z_is_s_list, ↓DL.z_is_l_bool, ↓DL.z_is_l_int, ↓DL.z_is_l_str, ↓DL.z_is_l_tuple, ↓DL.z_is_l_list, ↓DL.z_is_t_bool, ↓DL.z_is_t_int, ↓DL.z_is_t_str, ↓DL.z_is_t_tuple, ↓DL.z_is_t_list, ↓DL.z_is_n_bool, ↓DL.z_is_n_int, ↓DL.z_is_n_str, ↓DL.z_is_n_tuple, ↓DL.z_is_n_list, ↓DL.z_gslc, ↓DL.z_sc0, ↓DL.z_listO, ↓DL.z_lol, ↓DL.z_lot, ↓DL.z_fsum, ↓DL.z_own1, ↓DL.z_glen, ↓DL.z_gall, ↓DL.z_ixown, ↓DL.z_listG, ↓DL.z_ownit, ↓DL.z_fld, ↓DL.z_fz, ↓DL.z_fzs, ↓DL.z_xisi, ↓DL.z_xi, ↓DL.z_xval, ↓DL.z_xv, ↓DL.z_ixm, ↓DL.z_lm, ↓dTrim, ↓dLc, ↓dLcO, ↓dEnds, ↓z_gd1, ↓z_gd2, ↓z_gd3, ↓z_gdi, ↓z_gdo, slots, ↓reduceIte, decide_eq_true_eq, Bool.false_eq_true, Bool.not_true, Bool.not_false, decide_true, decide_false, Int.reduceEq, Int.reduceSub, Int.reduceAdd, Int.reduceLT, Int.reduceNeg, and_self, true_and, and_true, ↓dTry]
  intro p
  refine ⟨p, s, _, js, rfl, rfl, .inl rfl, ht, hn, hs, fun e he => ⟨rfl, _, rfl, s, js, e, rfl, ?_⟩, fun c d h μ' => ?_⟩
  · simp only [outD, he] at hq; show Q (.str e) (μ ++ []); rw [List.append_nil]; exact hq
  · simp only [outD, h] at hq
    rcases play_c h with rfl | rfl
    · intro a dx
      simp only [List.map_cons, List.map_nil, List.length_cons, List.length_nil, Nat.reduceSub, Nat.reduceAdd, Nat.zero_add, Nat.sub_self, List.replicate, List.cons_append, List.nil_append, List.append_nil, List.set_cons_zero, List.set_cons_succ, List.take_succ_cons, List.take_zero, List.drop_zero, List.drop_succ_cons, List.drop_nil, List.take_nil, Nat.reduceLeDiff, ↓DL.z_var0, ↓DL.z_varS, ↓DL.z_name0, ↓DL.z_nameS, ↓DL.z_c, ↓DL.z_seq, ↓DL.z_next, ↓DL.z_if, ↓DL.z_asg, ↓DL.z_ret, ↓DL.z_drop, ↓DL.z_val, ↓DL.z_bl, ↓DL.z_and, ↓DL.z_or, ↓DL.z_not, ↓DL.z_bin, ↓DL.z_cb, ↓DL.z_nil, ↓DL.z_cons, ↓DL.z_i0, ↓DL.z_i, ↓DL.z_mul, ↓DL.z_add, ↓DL.z_lt, ↓DL.z_le, ↓DL.z_gt, ↓DL.z_ge, ↓DL.z_eq, ↓DL.z_ne, ↓DL.z_len, ↓DL.z_lens, ↓DL.z_int, ↓DL.z_intb, ↓DL.z_ixO, ↓DL.z_ix0, ↓DL.z_ix1, ↓DL.z_ix2, ↓DL.z_ix3, ↓DL.z_ix4, ↓DL.z_gsub, ↓DL.z_sub1, ↓DL.z_sub2, ↓DL.z_sub3, ↓DL.z_sub4, ↓DL.z_for, ↓DL.z_itA, ↓DL.z_any, ↓DL.z_itl, ↓DL.z_itt, ↓DL.z_its, ↓DL.z_lcg, ↓DL.z_yes, ↓DL.z_ifx, ↓DL.z_tup, ↓DL.z_lst, ↓DL.z_lstO, ↓DL.z_nop, ↓DL.z_part, ↓DL.z_pa, ↓DL.z_slx, ↓DL.z_sll, ↓DL.z_slt, ↓DL.z_sls, ↓DL.z_chain, ↓DL.z_ch, ↓DL.z_andv, ↓DL.z_orv, ↓DL.z_fnot, ↓DL.z_un, ↓DL.z_neg, ↓DL.z_call, ↓DL.z_prop, ↓DL.z_meth, ↓DL.z_make, ↓DL.z_obj, ↓DL.z_fl, ↓DL.z_flt, ↓DL.z_flf, ↓DL.z_ft, ↓DL.z_ftt, ↓DL.z_lent, ↓DL.z_adds, ↓DL.z_addl, ↓DL.z_addt, ↓DL.z_eqs, ↓DL.z_nes, ↓DL.z_eqb, ↓DL.z_eqn, ↓DL.z_eql, ↓DL.z_nel, ↓DL.z_isn, ↓DL.z_isnn, ↓DL.z_ins, ↓DL.z_nins, ↓DL.z_ixt, ↓DL.z_l0, ↓DL.z_l1, ↓DL.z_l2, ↓DL.z_rng, ↓DL.z_enl, ↓DL.z_ent, ↓DL.z_gtup, ↓DL.z_gcons, ↓DL.z_gnil, ↓DL.z_wipe0, ↓DL.z_wipe, ↓DL.z_mt, ↓DL.z_ty0, ↓DL.z_ty1, ↓DL.z_app0, ↓DL.z_app1, ↓DL.z_raise, ↓DL.z_ra, ↓DL.z_is_i_bool, ↓DL.z_is_i_int, ↓DL.z_is_i_str, ↓DL.z_is_i_tuple, ↓DL.z_is_i_list, ↓DL.z_is_b_bool, ↓DL.z_is_b_int, ↓DL.z_is_b_str, ↓DL.z_is_b_tuple, ↓DL.z_is_b_list, ↓DL.z_is_s_bool, ↓DL.z_is_s_int, ↓DL.z_is_s_str, ↓DL.z_is_s_tuple, ↓DL.z_is_s_list, ↓DL.z_is_l_bool, ↓DL.z_is_l_int, ↓DL.z_is_l_str, ↓DL.z_is_l_tuple, ↓DL.z_is_l_list, ↓DL.z_is_t_bool, ↓DL.z_is_t_int, ↓DL.z_is_t_str, ↓DL.z_is_t_tuple, ↓DL.z_is_t_list, ↓DL.z_is_n_bool, ↓DL.z_is_n_int, ↓DL.z_is_n_str, ↓DL.z_is_n_tuple, ↓DL.z_is_n_list, ↓DL.z_gslc, ↓DL.z_sc0, ↓DL.z_listO, ↓DL.z_lol, ↓DL.z_lot, ↓DL.z_fsum, ↓DL.z_own1, ↓DL.z_glen, ↓DL.z_gall, ↓DL.z_ixown, ↓DL.z_listG, ↓DL.z_ownit, ↓DL.z_fld, ↓DL.z_fz, ↓DL.z_fzs, ↓DL.z_xisi, ↓DL.z_xi, ↓DL.z_xval, ↓DL.z_xv, ↓DL.z_ixm, ↓DL.z_lm, ↓dTrim, ↓dLc, ↓dLcO, ↓dEnds, ↓z_gd1, ↓z_gd2, ↓z_gd3, ↓z_gdi, ↓z_gdo, slots, ↓reduceIte, decide_eq_true_eq, Bool.false_eq_true, Bool.not_true, Bool.not_false, decide_true, decide_false, Int.reduceEq, Int.reduceSub, Int.reduceAdd, Int.reduceLT, Int.reduceNeg, and_self, true_and, and_true, ↓hush]
      exact ⟨_, rfl, _, rfl, _, rfl, hq⟩
    · intro a dx
      simp only [List.map_cons, List.map_nil, List.length_cons, List.length_nil, Nat.reduceSub, Nat.reduceAdd, Nat.zero_add, Nat.sub_self, List.replicate, List.cons_append, List.nil_append, List.append_nil, List.set_cons_zero, List.set_cons_succ, List.take_succ_cons, List.take_zero, List.drop_zero, List.drop_succ_cons, List.drop_nil, List.take_nil, Nat.reduceLeDiff, ↓DL.z_var0, ↓DL.z_varS, ↓DL.z_name0, ↓DL.z_nameS, ↓DL.z_c, ↓DL.z_seq, ↓DL.z_next, ↓DL.z_if, ↓DL.z_asg, ↓DL.z_ret, ↓DL.z_drop, ↓DL.z_val, ↓DL.z_bl, ↓DL.z_and, ↓DL.z_or, ↓DL.z_not, ↓DL.z_bin, ↓DL.z_cb, ↓DL.z_nil, ↓DL.z_cons, ↓DL.z_i0, ↓DL.z_i, ↓DL.z_mul, ↓DL.z_add, ↓DL.z_lt, ↓DL.z_le, ↓DL.z_gt, ↓DL.z_ge, ↓DL.z_eq, ↓DL.z_ne, ↓DL.z_len, ↓DL.z_lens, ↓DL.z_int, ↓DL.z_intb, ↓DL.z_ixO, ↓DL.z_ix0, ↓DL.z_ix1, ↓DL.z_ix2, ↓DL.z_ix3, ↓DL.z_ix4, ↓DL.z_gsub, ↓DL.z_sub1, ↓DL.z_sub2, ↓DL.z_sub3, ↓DL.z_sub4, ↓DL.z_for, ↓DL.z_itA, ↓DL.z_any, ↓DL.z_itl, ↓DL.z_itt, ↓DL.z_its, ↓DL.z_lcg, ↓DL.z_yes, ↓DL.z_ifx, ↓DL.z_tup, ↓DL.z_lst, ↓DL.z_lstO, ↓DL.z_nop, ↓DL.z_part, ↓DL.z_pa, ↓DL.z_slx, ↓DL.z_sll, ↓DL.z_slt, ↓DL.z_sls, ↓DL.z_chain, ↓DL.z_ch, ↓DL.z_andv, ↓DL.z_orv, ↓DL.z_fnot, ↓DL.z_un, ↓DL.z_neg, ↓DL.z_call, ↓DL.z_prop, ↓DL.z_meth, ↓DL.z_make, ↓DL.z_obj, ↓DL.z_fl, ↓DL.z_flt, ↓DL.z_flf, ↓DL.z_ft, ↓DL.z_ftt, ↓DL.z_lent, ↓DL.z_adds, ↓DL.z_addl, ↓DL.z_addt, ↓DL.z_eqs, ↓DL.z_nes, ↓DL.z_eqb, ↓DL.z_eqn, ↓DL.z_eql, ↓DL.z_nel, ↓DL.z_isn, ↓DL.z_isnn, ↓DL.z_ins, ↓DL.z_nins, ↓DL.z_ixt, ↓DL.z_l0, ↓DL.z_l1, ↓DL.z_l2, ↓DL.z_rng, ↓DL.z_enl, ↓DL.z_ent, ↓DL.z_gtup, ↓DL.z_gcons, ↓DL.z_gnil, ↓DL.z_wipe0, ↓DL.z_wipe, ↓DL.z_mt, ↓DL.z_ty0, ↓DL.z_ty1, ↓DL.z_app0, ↓DL.z_app1, ↓DL.z_raise, ↓DL.z_ra, ↓DL.z_is_i_bool, ↓DL.z_is_i_int, ↓DL.z_is_i_str, ↓DL.z_is_i_tuple, ↓DL.z_is_i_list, ↓DL.z_is_b_bool, ↓DL.z_is_b_int, ↓DL.z_is_b_str, ↓DL.z_is_b_tuple, ↓DL.z_is_b_list, ↓DL.z_is_s_bool, ↓DL.z_is_s_int, ↓DL.z_is_s_str, ↓DL.z_is_s_tuple, ↓DL.z_is_s_list, ↓DL.z_is_l_bool, ↓DL.z_is_l_int, ↓DL.z_is_l_str, ↓DL.z_is_l_tuple, ↓DL.z_is_l_list, ↓DL.z_is_t_bool, ↓DL.z_is_t_int, ↓DL.z_is_t_str, ↓DL.z_is_t_tuple, ↓DL.z_is_t_list, ↓DL.z_is_n_bool, ↓DL.z_is_n_int, ↓DL.z_is_n_str, ↓DL.z_is_n_tuple, ↓DL.z_is_n_list, ↓DL.z_gslc, ↓DL.z_sc0, ↓DL.z_listO, ↓DL.z_lol, ↓DL.z_lot, ↓DL.z_fsum, ↓DL.z_own1, ↓DL.z_glen, ↓DL.z_gall, ↓DL.z_ixown, ↓DL.z_listG, ↓DL.z_ownit, ↓DL.z_fld, ↓DL.z_fz, ↓DL.z_fzs, ↓DL.z_xisi, ↓DL.z_xi, ↓DL.z_xval, ↓DL.z_xv, ↓DL.z_ixm, ↓DL.z_lm, ↓dTrim, ↓dLc, ↓dLcO, ↓dEnds, ↓z_gd1, ↓z_gd2, ↓z_gd3, ↓z_gdi, ↓z_gdo, slots, ↓reduceIte, decide_eq_true_eq, Bool.false_eq_true, Bool.not_true, Bool.not_false, decide_true, decide_false, Int.reduceEq, Int.reduceSub, Int.reduceAdd, Int.reduceLT, Int.reduceNeg, and_self, true_and, and_true, ↓hush]
      exact ⟨_, rfl, _, rfl, _, rfl, hq⟩
theorem sc_law_due : FnScope ["start", "joins", "row", "gap", "group", "char"] ["start", "joins"] (defScope (top 26)) := ⟨rfl, rfl, rfl, by decide +kernel, rfl, by decide +kernel, by decide +kernel⟩
theorem ok_law_due (fx : Fx K mg C Dd)  (F : FunD K "_law_due" "_law_due" (defArgs (top 26)) (defBody (top 26)) (defScope (top 26)) [] [] fa fd) : FnOk P w K mg base (L2.CX P w) (0 + 1) fa fd ["start", "joins"] (spOf C K 2 (df_law_due)) := by
  refine okD (k := 0) F sc_law_due (fun cdv A outer s H E hr tk => (ss_cons (s_set 2 sc_law_due.nd (e_var 0)) (ss_cons (s_for PassesOwn.leaving rfl (i_any (e_var 1)) (g_tup (n := 2) rfl (gs_cons (g_name 3 sc_law_due.nd) (gs_cons (g_name 4 sc_law_due.nd) gs_nil))) (ss_cons (s_if (DPW.t (w_or (t_cmp o_lt (e_var 3) e_int) (w_or1 (t_cmp o_gt (e_var 3) (e_bi c_len fx.len (by decide +kernel) (a_cons (e_var 2) a_nil)))))) (ss_one (s_ret (e_lst (a_cons e_bl (a_cons e_bl (a_cons e_bl (a_cons (e_var 3) a_nil))))))) ss_nil) (ss_cons (s_if (DPW.t (w_or (t_cmp (o_eq (un64 hr)) (e_var 4) (e_str [])) (w_or1 (t_cmp (o_ne (un64 hr)) (e_lcIf [("char", 5)]  rfl sc_law_due.nd (i_any (e_var 4)) (blkOk_by (N := ["start", "joins", "row", "gap", "group", "char"]) (sc := defScope (top 26)) (by decide +kernel)) (fun Y hY => by obtain ⟨s9, H9, P9, cl9, fp9, rfl⟩ := hY; exact (g_name 5 sc_law_due.nd)) (in_name (by decide)) mg_name (fun Y hY => by obtain ⟨s9, H9, P9, cl9, fp9, rfl⟩ := hY; exact (t_cmp (o_notin (un65 hr)) (e_var 5) (e_str [97,98,99,100,101,102,103,104,105,106,107,108,109,110,111,112,113,114,115,116,117,118,119,120,121,122]))) (fun Y hY => by obtain ⟨s9, H9, P9, cl9, fp9, rfl⟩ := hY; exact (e_var 5))) (e_lst a_nil))))) (ss_one (s_ret (e_lst (a_cons e_bl (a_cons e_bl (a_cons e_bl (a_cons (e_var 4) a_nil))))))) ss_nil) (ss_one (s_set 2 sc_law_due.nd (e_op o_add (e_op o_add (e_sl (e_var 2) o_none (o_some (e_var 3))) (e_var 4)) (e_sl (e_var 2) (o_some (e_var 3)) o_none))))))) (ss_one (s_ret (e_var 2)))))) ?_
  intro ds μ Q R hl h
  obtain ⟨s, js, rfl, ht, hn, hq⟩ := h
  simp only [List.map_cons, List.map_nil, List.length_cons, List.length_nil, Nat.reduceSub, Nat.reduceAdd, Nat.zero_add, Nat.sub_self, List.replicate, List.cons_append, List.nil_append, List.append_nil, List.set_cons_zero, List.set_cons_succ, List.take_succ_cons, List.take_zero, List.drop_zero, List.drop_succ_cons, List.drop_nil, List.take_nil, Nat.reduceLeDiff, ↓DL.z_var0, ↓DL.z_varS, ↓DL.z_name0, ↓DL.z_nameS, ↓DL.z_c, ↓DL.z_seq, ↓DL.z_next, ↓DL.z_if, ↓DL.z_asg, ↓DL.z_ret, ↓DL.z_drop, ↓DL.z_val, ↓DL.z_bl, ↓DL.z_and, ↓DL.z_or, ↓DL.z_not, ↓DL.z_bin, ↓DL.z_cb, ↓DL.z_nil, ↓DL.z_cons, ↓DL.z_i0, ↓DL.z_i, ↓DL.z_mul, ↓DL.z_add, ↓DL.z_lt, ↓DL.z_le, ↓DL.z_gt, ↓DL.z_ge, ↓DL.z_eq, ↓DL.z_ne, ↓DL.z_len, ↓DL.z_lens, ↓DL.z_int, ↓DL.z_intb, ↓DL.z_ixO, ↓DL.z_ix0, ↓DL.z_ix1, ↓DL.z_ix2, ↓DL.z_ix3, ↓DL.z_ix4, ↓DL.z_gsub, ↓DL.z_sub1, ↓DL.z_sub2, ↓DL.z_sub3, ↓DL.z_sub4, ↓DL.z_for, ↓DL.z_itA, ↓DL.z_any, ↓DL.z_itl, ↓DL.z_itt, ↓DL.z_its, ↓DL.z_lcg, ↓DL.z_yes, ↓DL.z_ifx, ↓DL.z_tup, ↓DL.z_lst, ↓DL.z_lstO, ↓DL.z_nop, ↓DL.z_part, ↓DL.z_pa, ↓DL.z_slx, ↓DL.z_sll, ↓DL.z_slt, ↓DL.z_sls, ↓DL.z_chain, ↓DL.z_ch, ↓DL.z_andv, ↓DL.z_orv, ↓DL.z_fnot, ↓DL.z_un, ↓DL.z_neg, ↓DL.z_call, ↓DL.z_prop, ↓DL.z_meth, ↓DL.z_make, ↓DL.z_obj, ↓DL.z_fl, ↓DL.z_flt, ↓DL.z_flf, ↓DL.z_ft, ↓DL.z_ftt, ↓DL.z_lent, ↓DL.z_adds, ↓DL.z_addl, ↓DL.z_addt, ↓DL.z_eqs, ↓DL.z_nes, ↓DL.z_eqb, ↓DL.z_eqn, ↓DL.z_eql, ↓DL.z_nel, ↓DL.z_isn, ↓DL.z_isnn, ↓DL.z_ins, ↓DL.z_nins, ↓DL.z_ixt, ↓DL.z_l0, ↓DL.z_l1, ↓DL.z_l2, ↓DL.z_rng, ↓DL.z_enl, ↓DL.z_ent, ↓DL.z_gtup, ↓DL.z_gcons, ↓DL.z_gnil, ↓DL.z_wipe0, ↓DL.z_wipe, ↓DL.z_mt, ↓DL.z_ty0, ↓DL.z_ty1, ↓DL.z_app0, ↓DL.z_app1, ↓DL.z_raise, ↓DL.z_ra, ↓DL.z_is_i_bool, ↓DL.z_is_i_int, ↓DL.z_is_i_str, ↓DL.z_is_i_tuple, ↓DL.z_is_i_list, ↓DL.z_is_b_bool, ↓DL.z_is_b_int, ↓DL.z_is_b_str, ↓DL.z_is_b_tuple, ↓DL.z_is_b_list, ↓DL.z_is_s_bool, ↓DL.z_is_s_int, ↓DL.z_is_s_str, ↓DL.z_is_s_tuple, ↓DL.z_is_s_list, ↓DL.z_is_l_bool, ↓DL.z_is_l_int, ↓DL.z_is_l_str, ↓DL.z_is_l_tuple, ↓DL.z_is_l_list, ↓DL.z_is_t_bool, ↓DL.z_is_t_int, ↓DL.z_is_t_str, ↓DL.z_is_t_tuple, ↓DL.z_is_t_list, ↓DL.z_is_n_bool, ↓DL.z_is_n_int, ↓DL.z_is_n_str, ↓DL.z_is_n_tuple, ↓DL.z_is_n_list, ↓DL.z_gslc, ↓DL.z_sc0, ↓DL.z_listO, ↓DL.z_lol, ↓DL.z_lot, ↓DL.z_fsum, ↓DL.z_own1, ↓DL.z_glen, ↓DL.z_gall, ↓DL.z_ixown, ↓DL.z_listG, ↓DL.z_ownit, ↓DL.z_fld, ↓DL.z_fz, ↓DL.z_fzs, ↓DL.z_xisi, ↓DL.z_xi, ↓DL.z_xval, ↓DL.z_xv, ↓DL.z_ixm, ↓DL.z_lm, ↓dTrim, ↓dLc, ↓dLcO, ↓dEnds, ↓z_gd1, ↓z_gd2, ↓z_gd3, ↓z_gdi, ↓z_gdo, slots, ↓reduceIte, decide_eq_true_eq, Bool.false_eq_true, Bool.not_true, Bool.not_false, decide_true, decide_false, Int.reduceEq, Int.reduceSub, Int.reduceAdd, Int.reduceLT, Int.reduceNeg, and_self, true_and, and_true]
  refine ⟨fun k δ μ' => ∃ r a b c, play s (js.take k) = .inr r ∧ μ' = μ ∧ δ = [some (.str s), some (.lst (jsD js)), some (.str r), a, b, c], ⟨s, _, _, _, rfl, rfl, rfl⟩, ?_, ?_⟩
  · rintro k d δ μ' hd ⟨r, a, b, c, hp, rfl, rfl⟩
    obtain ⟨⟨g, w⟩, hj, rfl⟩ := jsD_get hd
    have hlen := len_next hj hp
    have hpl := play_at hj hp
    have hk := lt_ hj
    simp only [List.map_cons, List.map_nil, List.length_cons, List.length_nil, Nat.reduceSub, Nat.reduceAdd, Nat.zero_add, Nat.sub_self, List.replicate, List.cons_append, List.nil_append, List.append_nil, List.set_cons_zero, List.set_cons_succ, List.take_succ_cons, List.take_zero, List.drop_zero, List.drop_succ_cons, List.drop_nil, List.take_nil, Nat.reduceLeDiff, ↓DL.z_var0, ↓DL.z_varS, ↓DL.z_name0, ↓DL.z_nameS, ↓DL.z_c, ↓DL.z_seq, ↓DL.z_next, ↓DL.z_if, ↓DL.z_asg, ↓DL.z_ret, ↓DL.z_drop, ↓DL.z_val, ↓DL.z_bl, ↓DL.z_and, ↓DL.z_or, ↓DL.z_not, ↓DL.z_bin, ↓DL.z_cb, ↓DL.z_nil, ↓DL.z_cons, ↓DL.z_i0, ↓DL.z_i, ↓DL.z_mul, ↓DL.z_add, ↓DL.z_lt, ↓DL.z_le, ↓DL.z_gt, ↓DL.z_ge, ↓DL.z_eq, ↓DL.z_ne, ↓DL.z_len, ↓DL.z_lens, ↓DL.z_int, ↓DL.z_intb, ↓DL.z_ixO, ↓DL.z_ix0, ↓DL.z_ix1, ↓DL.z_ix2, ↓DL.z_ix3, ↓DL.z_ix4, ↓DL.z_gsub, ↓DL.z_sub1, ↓DL.z_sub2, ↓DL.z_sub3, ↓DL.z_sub4, ↓DL.z_for, ↓DL.z_itA, ↓DL.z_any, ↓DL.z_itl, ↓DL.z_itt, ↓DL.z_its, ↓DL.z_lcg, ↓DL.z_yes, ↓DL.z_ifx, ↓DL.z_tup, ↓DL.z_lst, ↓DL.z_lstO, ↓DL.z_nop, ↓DL.z_part, ↓DL.z_pa, ↓DL.z_slx, ↓DL.z_sll, ↓DL.z_slt, ↓DL.z_sls, ↓DL.z_chain, ↓DL.z_ch, ↓DL.z_andv, ↓DL.z_orv, ↓DL.z_fnot, ↓DL.z_un, ↓DL.z_neg, ↓DL.z_call, ↓DL.z_prop, ↓DL.z_meth, ↓DL.z_make, ↓DL.z_obj, ↓DL.z_fl, ↓DL.z_flt, ↓DL.z_flf, ↓DL.z_ft, ↓DL.z_ftt, ↓DL.z_lent, ↓DL.z_adds, ↓DL.z_addl, ↓DL.z_addt, ↓DL.z_eqs, ↓DL.z_nes, ↓DL.z_eqb, ↓DL.z_eqn, ↓DL.z_eql, ↓DL.z_nel, ↓DL.z_isn, ↓DL.z_isnn, ↓DL.z_ins, ↓DL.z_nins, ↓DL.z_ixt, ↓DL.z_l0, ↓DL.z_l1, ↓DL.z_l2, ↓DL.z_rng, ↓DL.z_enl, ↓DL.z_ent, ↓DL.z_gtup, ↓DL.z_gcons, ↓DL.z_gnil, ↓DL.z_wipe0, ↓DL.z_wipe, ↓DL.z_mt, ↓DL.z_ty0, ↓DL.z_ty1, ↓DL.z_app0, ↓DL.z_app1, ↓DL.z_raise, ↓DL.z_ra, ↓DL.z_is_i_bool, ↓DL.z_is_i_int, ↓DL.z_is_i_str, ↓DL.z_is_i_tuple, ↓DL.z_is_i_list, ↓DL.z_is_b_bool, ↓DL.z_is_b_int, ↓DL.z_is_b_str, ↓DL.z_is_b_tuple, ↓DL.z_is_b_list, ↓DL.z_is_s_bool, ↓DL.z_is_s_int, ↓DL.z_is_s_str, ↓DL.z_is_s_tuple, ↓DL.z_is_s_list, ↓DL.z_is_l_bool, ↓DL.z_is_l_int, ↓DL.z_is_l_str, ↓DL.z_is_l_tuple, ↓DL.z_is_l_list, ↓DL.z_is_t_bool, ↓DL.z_is_t_int, ↓DL.z_is_t_str, ↓DL.z_is_t_tuple, ↓DL.z_is_t_list, ↓DL.z_is_n_bool, ↓DL.z_is_n_int, ↓DL.z_is_n_str, ↓DL.z_is_n_tuple, ↓DL.z_is_n_list, ↓DL.z_gslc, ↓DL.z_sc0, ↓DL.z_listO, ↓DL.z_lol, ↓DL.z_lot, ↓DL.z_fsum, ↓DL.z_own1, ↓DL.z_glen, ↓DL.z_gall, ↓DL.z_ixown, ↓DL.z_listG, ↓DL.z_ownit, ↓DL.z_fld, ↓DL.z_fz, ↓DL.z_fzs, ↓DL.z_xisi, ↓DL.z_xi, ↓DL.z_xval, ↓DL.z_xv, ↓DL.z_ixm, ↓DL.z_lm, ↓dTrim, ↓dLc, ↓dLcO, ↓dEnds, ↓z_gd1, ↓z_gd2, ↓z_gd3, ↓z_gdi, ↓z_gdo, slots, ↓reduceIte, decide_eq_true_eq, Bool.false_eq_true, Bool.not_true, Bool.not_false, decide_true, decide_false, Int.reduceEq, Int.reduceSub, Int.reduceAdd, Int.reduceLT, Int.reduceNeg, and_self, true_and, and_true, jD]
    by_cases h0 : g < 0
    · simp only [h0, ↓reduceIte]
      rw [outD, hpl] at hq
      simp only [play, show ¬ (0 ≤ g) from by omega, false_and, if_false] at hq
      exact hq
    · simp only [h0, ↓reduceIte]
      by_cases h1 : (r.length : Int) < g
      · simp only [h1, ↓reduceIte]
        rw [outD, hpl] at hq
        simp only [play, show ¬ (g ≤ (r.length : Int)) from by omega, and_false, if_false] at hq
        exact hq
      · simp only [h1, ↓reduceIte]
        obtain ⟨g, rfl⟩ := Int.eq_ofNat_of_zero_le (Int.not_lt.mp h0)
        by_cases h2 : w = []
        · subst h2
          simp only [↓reduceIte]
          rw [outD, hpl] at hq
          have : isG ([] : SS) = false := rfl
          simp only [play, show (0 ≤ (g : Int) ∧ (g : Int) ≤ (r.length : Int)) from by omega, this, Bool.false_eq_true, if_true, if_false] at hq
          exact hq
        · simp only [h2, ↓reduceIte]
          refine ⟨by rw [List.length_map]; omega, fun i acc μ'' => μ'' = μ' ∧ acc = ((w.take i).filter fun c => !decide (c ∈ LET)).map fun c => .str [c], ⟨rfl, rfl⟩, ?_, ?_⟩
          · rintro i d acc μ'' hd _ ⟨rfl, rfl⟩
            obtain ⟨x, hx, rfl⟩ := mg_ hd
            simp only [List.map_cons, List.map_nil, List.length_cons, List.length_nil, Nat.reduceSub, Nat.reduceAdd, Nat.zero_add, Nat.sub_self, List.replicate, List.cons_append, List.nil_append, List.append_nil, List.set_cons_zero, List.set_cons_succ, List.take_succ_cons, List.take_zero, List.drop_zero, List.drop_succ_cons, List.drop_nil, List.take_nil, Nat.reduceLeDiff, ↓DL.z_var0, ↓DL.z_varS, ↓DL.z_name0, ↓DL.z_nameS, ↓DL.z_c, ↓DL.z_seq, ↓DL.z_next, ↓DL.z_if, ↓DL.z_asg, ↓DL.z_ret, ↓DL.z_drop, ↓DL.z_val, ↓DL.z_bl, ↓DL.z_and, ↓DL.z_or, ↓DL.z_not, ↓DL.z_bin, ↓DL.z_cb, ↓DL.z_nil, ↓DL.z_cons, ↓DL.z_i0, ↓DL.z_i, ↓DL.z_mul, ↓DL.z_add, ↓DL.z_lt, ↓DL.z_le, ↓DL.z_gt, ↓DL.z_ge, ↓DL.z_eq, ↓DL.z_ne, ↓DL.z_len, ↓DL.z_lens, ↓DL.z_int, ↓DL.z_intb, ↓DL.z_ixO, ↓DL.z_ix0, ↓DL.z_ix1, ↓DL.z_ix2, ↓DL.z_ix3, ↓DL.z_ix4, ↓DL.z_gsub, ↓DL.z_sub1, ↓DL.z_sub2, ↓DL.z_sub3, ↓DL.z_sub4, ↓DL.z_for, ↓DL.z_itA, ↓DL.z_any, ↓DL.z_itl, ↓DL.z_itt, ↓DL.z_its, ↓DL.z_lcg, ↓DL.z_yes, ↓DL.z_ifx, ↓DL.z_tup, ↓DL.z_lst, ↓DL.z_lstO, ↓DL.z_nop, ↓DL.z_part, ↓DL.z_pa, ↓DL.z_slx, ↓DL.z_sll, ↓DL.z_slt, ↓DL.z_sls, ↓DL.z_chain, ↓DL.z_ch, ↓DL.z_andv, ↓DL.z_orv, ↓DL.z_fnot, ↓DL.z_un, ↓DL.z_neg, ↓DL.z_call, ↓DL.z_prop, ↓DL.z_meth, ↓DL.z_make, ↓DL.z_obj, ↓DL.z_fl, ↓DL.z_flt, ↓DL.z_flf, ↓DL.z_ft, ↓DL.z_ftt, ↓DL.z_lent, ↓DL.z_adds, ↓DL.z_addl, ↓DL.z_addt, ↓DL.z_eqs, ↓DL.z_nes, ↓DL.z_eqb, ↓DL.z_eqn, ↓DL.z_eql, ↓DL.z_nel, ↓DL.z_isn, ↓DL.z_isnn, ↓DL.z_ins, ↓DL.z_nins, ↓DL.z_ixt, ↓DL.z_l0, ↓DL.z_l1, ↓DL.z_l2, ↓DL.z_rng, ↓DL.z_enl, ↓DL.z_ent, ↓DL.z_gtup, ↓DL.z_gcons, ↓DL.z_gnil, ↓DL.z_wipe0, ↓DL.z_wipe, ↓DL.z_mt, ↓DL.z_ty0, ↓DL.z_ty1, ↓DL.z_app0, ↓DL.z_app1, ↓DL.z_raise, ↓DL.z_ra, ↓DL.z_is_i_bool, ↓DL.z_is_i_int, ↓DL.z_is_i_str, ↓DL.z_is_i_tuple, ↓DL.z_is_i_list, ↓DL.z_is_b_bool, ↓DL.z_is_b_int, ↓DL.z_is_b_str, ↓DL.z_is_b_tuple, ↓DL.z_is_b_list, ↓DL.z_is_s_bool, ↓DL.z_is_s_int, ↓DL.z_is_s_str, ↓DL.z_is_s_tuple, ↓DL.z_is_s_list, ↓DL.z_is_l_bool, ↓DL.z_is_l_int, ↓DL.z_is_l_str, ↓DL.z_is_l_tuple, ↓DL.z_is_l_list, ↓DL.z_is_t_bool, ↓DL.z_is_t_int, ↓DL.z_is_t_str, ↓DL.z_is_t_tuple, ↓DL.z_is_t_list, ↓DL.z_is_n_bool, ↓DL.z_is_n_int, ↓DL.z_is_n_str, ↓DL.z_is_n_tuple, ↓DL.z_is_n_list, ↓DL.z_gslc, ↓DL.z_sc0, ↓DL.z_listO, ↓DL.z_lol, ↓DL.z_lot, ↓DL.z_fsum, ↓DL.z_own1, ↓DL.z_glen, ↓DL.z_gall, ↓DL.z_ixown, ↓DL.z_listG, ↓DL.z_ownit, ↓DL.z_fld, ↓DL.z_fz, ↓DL.z_fzs, ↓DL.z_xisi, ↓DL.z_xi, ↓DL.z_xval, ↓DL.z_xv, ↓DL.z_ixm, ↓DL.z_lm, ↓dTrim, ↓dLc, ↓dLcO, ↓dEnds, ↓z_gd1, ↓z_gd2, ↓z_gd3, ↓z_gdi, ↓z_gdo, slots, ↓reduceIte, decide_eq_true_eq, Bool.false_eq_true, Bool.not_true, Bool.not_false, decide_true, decide_false, Int.reduceEq, Int.reduceSub, Int.reduceAdd, Int.reduceLT, Int.reduceNeg, and_self, true_and, and_true]
            have e : (!decide (x ∈ LET)) = !decide (x ∈ [97, 98, 99, 100, 101, 102, 103, 104, 105, 106, 107, 108, 109, 110, 111, 112, 113, 114, 115, 116, 117, 118, 119, 120, 121, 122]) := rfl
            rw [← e, take1 hx, List.filter_append, List.map_append]
            by_cases hm : x ∈ LET
            · simp [hm]
            · simp [hm]
          · rintro acc μ'' _ ⟨rfl, rfl⟩
            rw [List.length_map, List.take_length]
            refine ⟨strs_plain (fun c => [c]) _, rfl, Nat.le_trans (strs_depth (fun c => [c]) _) (by omega), by decide +kernel, ?_⟩
            rw [lst_nil]
            by_cases hw : isG w = true
            · have : w.filter (fun c => !decide (c ∈ LET)) = [] := by
                rw [List.filter_eq_nil_iff]
                intro x hx
                simp only [isG, Bool.and_eq_true, List.all_eq_true] at hw
                simpa using hw.1 x hx
              rw [this]
              simp only [List.map_nil, decide_true, Bool.not_true, Bool.false_eq_true, if_false]
              rw [cut_to _ _ (by omega), cut_from _ _ (by omega)]
              refine ⟨by rw [List.length_take]; omega, by simp only [List.length_append, List.length_take, List.length_drop]; omega, ins r g w, _, _, _, play_next hj hp (by omega) (by omega) hw, trivial, rfl⟩
            · have : w.filter (fun c => !decide (c ∈ LET)) ≠ [] := by
                intro h3
                rw [List.filter_eq_nil_iff] at h3
                apply hw
                simp only [isG, Bool.and_eq_true, List.all_eq_true, h2, decide_false, Bool.not_false, and_true]
                intro x hx
                simpa using h3 x hx
              simp only [List.map_eq_nil_iff, this, decide_false, Bool.not_false, if_true]
              rw [outD, hpl] at hq
              simp only [play, show (0 ≤ (g : Int) ∧ (g : Int) ≤ (r.length : Int)) from by omega, hw, Bool.false_eq_true, and_self, if_true, if_false] at hq
              exact hq
  · rintro δ μ' ⟨r, a, b, c, hp, rfl, rfl⟩
    rw [jsD_len, List.take_length] at hp
    simp only [List.map_cons, List.map_nil, List.length_cons, List.length_nil, Nat.reduceSub, Nat.reduceAdd, Nat.zero_add, Nat.sub_self, List.replicate, List.cons_append, List.nil_append, List.append_nil, List.set_cons_zero, List.set_cons_succ, List.take_succ_cons, List.take_zero, List.drop_zero, List.drop_succ_cons, List.drop_nil, List.take_nil, Nat.reduceLeDiff, ↓DL.z_var0, ↓DL.z_varS, ↓DL.z_name0, ↓DL.z_nameS, ↓DL.z_c, ↓DL.z_seq, ↓DL.z_next, ↓DL.z_if, ↓DL.z_asg, ↓DL.z_ret, ↓DL.z_drop, ↓DL.z_val, ↓DL.z_bl, ↓DL.z_and, ↓DL.z_or, ↓DL.z_not, ↓DL.z_bin, ↓DL.z_cb, ↓DL.z_nil, ↓DL.z_cons, ↓DL.z_i0, ↓DL.z_i, ↓DL.z_mul, ↓DL.z_add, ↓DL.z_lt, ↓DL.z_le, ↓DL.z_gt, ↓DL.z_ge, ↓DL.z_eq, ↓DL.z_ne, ↓DL.z_len, ↓DL.z_lens, ↓DL.z_int, ↓DL.z_intb, ↓DL.z_ixO, ↓DL.z_ix0, ↓DL.z_ix1, ↓DL.z_ix2, ↓DL.z_ix3, ↓DL.z_ix4, ↓DL.z_gsub, ↓DL.z_sub1, ↓DL.z_sub2, ↓DL.z_sub3, ↓DL.z_sub4, ↓DL.z_for, ↓DL.z_itA, ↓DL.z_any, ↓DL.z_itl, ↓DL.z_itt, ↓DL.z_its, ↓DL.z_lcg, ↓DL.z_yes, ↓DL.z_ifx, ↓DL.z_tup, ↓DL.z_lst, ↓DL.z_lstO, ↓DL.z_nop, ↓DL.z_part, ↓DL.z_pa, ↓DL.z_slx, ↓DL.z_sll, ↓DL.z_slt, ↓DL.z_sls, ↓DL.z_chain, ↓DL.z_ch, ↓DL.z_andv, ↓DL.z_orv, ↓DL.z_fnot, ↓DL.z_un, ↓DL.z_neg, ↓DL.z_call, ↓DL.z_prop, ↓DL.z_meth, ↓DL.z_make, ↓DL.z_obj, ↓DL.z_fl, ↓DL.z_flt, ↓DL.z_flf, ↓DL.z_ft, ↓DL.z_ftt, ↓DL.z_lent, ↓DL.z_adds, ↓DL.z_addl, ↓DL.z_addt, ↓DL.z_eqs, ↓DL.z_nes, ↓DL.z_eqb, ↓DL.z_eqn, ↓DL.z_eql, ↓DL.z_nel, ↓DL.z_isn, ↓DL.z_isnn, ↓DL.z_ins, ↓DL.z_nins, ↓DL.z_ixt, ↓DL.z_l0, ↓DL.z_l1, ↓DL.z_l2, ↓DL.z_rng, ↓DL.z_enl, ↓DL.z_ent, ↓DL.z_gtup, ↓DL.z_gcons, ↓DL.z_gnil, ↓DL.z_wipe0, ↓DL.z_wipe, ↓DL.z_mt, ↓DL.z_ty0, ↓DL.z_ty1, ↓DL.z_app0, ↓DL.z_app1, ↓DL.z_raise, ↓DL.z_ra, ↓DL.z_is_i_bool, ↓DL.z_is_i_int, ↓DL.z_is_i_str, ↓DL.z_is_i_tuple, ↓DL.z_is_i_list, ↓DL.z_is_b_bool, ↓DL.z_is_b_int, ↓DL.z_is_b_str, ↓DL.z_is_b_tuple, ↓DL.z_is_b_list, ↓DL.z_is_s_bool, ↓DL.z_is_s_int, ↓DL.z_is_s_str, ↓DL.z_is_s_tuple, ↓DL.z_is_s_list, ↓DL.z_is_l_bool, ↓DL.z_is_l_int, ↓DL.z_is_l_str, ↓DL.z_is_l_tuple, ↓DL.z_is_l_list, ↓DL.z_is_t_bool, ↓DL.z_is_t_int, ↓DL.z_is_t_str, ↓DL.z_is_t_tuple, ↓DL.z_is_t_list, ↓DL.z_is_n_bool, ↓DL.z_is_n_int, ↓DL.z_is_n_str, ↓DL.z_is_n_tuple, ↓DL.z_is_n_list, ↓DL.z_gslc, ↓DL.z_sc0, ↓DL.z_listO, ↓DL.z_lol, ↓DL.z_lot, ↓DL.z_fsum, ↓DL.z_own1, ↓DL.z_glen, ↓DL.z_gall, ↓DL.z_ixown, ↓DL.z_listG, ↓DL.z_ownit, ↓DL.z_fld, ↓DL.z_fz, ↓DL.z_fzs, ↓DL.z_xisi, ↓DL.z_xi, ↓DL.z_xval, ↓DL.z_xv, ↓DL.z_ixm, ↓DL.z_lm, ↓dTrim, ↓dLc, ↓dLcO, ↓dEnds, ↓z_gd1, ↓z_gd2, ↓z_gd3, ↓z_gdi, ↓z_gdo, slots, ↓reduceIte, decide_eq_true_eq, Bool.false_eq_true, Bool.not_true, Bool.not_false, decide_true, decide_false, Int.reduceEq, Int.reduceSub, Int.reduceAdd, Int.reduceLT, Int.reduceNeg, and_self, true_and, and_true]
    rw [outD, hp] at hq
    exact hq
theorem sc_law_refuses : FnScope ["state", "start", "joins", "at", "size", "join", "far", "bad", "cases", "case"] ["state", "start", "joins"] (defScope (top 27)) := ⟨rfl, rfl, rfl, by decide +kernel, rfl, by decide +kernel, by decide +kernel⟩
theorem ok_law_refuses (fx : Fx K mg C Dd) (h_law_draw : FDa P w K mg base C "_law_draw" 1 2 [] (df_law_draw)) (h_law_same : FDa P w K mg base C "_law_same" 4 2 [] (df_law_same 4)) (h_law_due : FDa P w K mg base C "_law_due" 1 2 [] (df_law_due)) (h_law_told : FDa P w K mg base C "_law_told" 6 2 [] (df_law_told)) (F : FunD K "_law_refuses" "_law_refuses" (defArgs (top 27)) (defBody (top 27)) (defScope (top 27)) [] [] fa fd) : FnOk P w K mg base (L2.CX P w) (6 + 1) fa fd ["state", "start", "joins"] (spOf C K 3 (df_law_refuses)) := by
  refine okD (k := 6) F sc_law_refuses (fun cdv A outer s H E hr tk => (ss_cons (s_set 3 sc_law_refuses.nd (e_call 1 h_law_draw (hr.mono (by decide)) tk (a_cons (e_var 0) (a_cons (e_op o_add (e_bi c_len fx.len (by decide +kernel) (a_cons (e_var 2) a_nil)) e_int) a_nil)))) (ss_cons (s_set 4 sc_law_refuses.nd (e_op o_add (e_bi c_len fx.len (by decide +kernel) (a_cons (e_var 1) a_nil)) (e_bi (c_sum rfl) fx.sum (by decide +kernel) (a_cons (e_lc [("join", 5)]  rfl sc_law_refuses.nd (i_any (e_sl (e_var 2) o_none (o_some (e_var 3)))) (blkOk_by (N := ["state", "start", "joins", "at", "size", "join", "far", "bad", "cases", "case"]) (sc := defScope (top 27)) (by decide +kernel)) (fun Y hY => by obtain ⟨s9, H9, P9, cl9, fp9, rfl⟩ := hY; exact (g_name 5 sc_law_refuses.nd)) (in_name (by decide)) mg_name (fun Y hY => by obtain ⟨s9, H9, P9, cl9, fp9, rfl⟩ := hY; exact (e_bi c_len fx.len (by decide +kernel) (a_cons (e_ix (e_var 5) e_int) a_nil)))) a_nil)))) (ss_cons (s_set 6 sc_law_refuses.nd (e_op o_add (e_op o_add (e_var 4) e_int) (e_call 1 h_law_draw (hr.mono (by decide)) tk (a_cons (e_var 0) (a_cons (e_op o_pow e_int e_int) a_nil))))) (ss_cons (s_set 7 sc_law_refuses.nd (e_lstO (a_cons (e_tup (a_cons (e_neg e_int) (a_cons (e_str [97]) a_nil))) (a_cons (e_tup (a_cons (e_op o_add (e_var 4) e_int) (a_cons (e_str [97]) a_nil))) (a_cons (e_tup (a_cons (e_var 6) (a_cons (e_str [98]) a_nil))) (a_cons (e_tup (a_cons (e_op o_sub e_int (e_var 6)) (a_cons (e_str [98]) a_nil))) (a_cons (e_tup (a_cons (e_op o_sub e_int (e_var 4)) (a_cons (e_str [99]) a_nil))) (a_cons (e_tup (a_cons e_int (a_cons (e_str []) a_nil))) (a_cons (e_tup (a_cons (e_var 4) (a_cons (e_str [97,66]) a_nil))) a_nil))))))))) (ss_cons (s_expr (e_app 1 (e_var 7) (a_cons (e_tup (a_cons e_int (a_cons (e_str [32,97]) a_nil))) a_nil))) (ss_fz 7 (ss_cons (s_set 7 sc_law_refuses.nd (e_op o_add (e_var 7) (e_lst (a_cons (e_tup (a_cons (e_neg e_int) (a_cons (e_str []) a_nil))) (a_cons (e_tup (a_cons (e_op o_add (e_var 4) e_int) (a_cons (e_str [65]) a_nil))) (a_cons (e_tup (a_cons (e_var 6) (a_cons (e_str [97,32,98]) a_nil))) (a_cons (e_tup (a_cons (e_var 4) (a_cons (e_str [97,126]) a_nil))) (a_cons (e_tup (a_cons e_int (a_cons (e_str [49]) a_nil))) a_nil)))))))) (ss_cons (s_set 7 sc_law_refuses.nd (e_op o_add (e_var 7) (e_lst (a_cons (e_tup (a_cons e_int (a_cons (e_str [97]) a_nil))) (a_cons (e_tup (a_cons (e_var 4) (a_cons (e_str [122]) a_nil))) (a_cons (e_tup (a_cons (e_op o_fdiv (e_var 4) e_int) (a_cons (e_str [107]) a_nil))) a_nil)))))) (ss_cons (s_for PassesOwn.leaving rfl (i_any (e_var 7)) (g_name 5 sc_law_refuses.nd) (ss_cons (s_set 8 sc_law_refuses.nd (e_lst (a_cons (e_op o_add (e_sl (e_var 2) o_none (o_some (e_var 3))) (e_lst (a_cons (e_var 5) a_nil))) (a_cons (e_op o_add (e_op o_add (e_sl (e_var 2) o_none (o_some (e_var 3))) (e_lst (a_cons (e_var 5) a_nil))) (e_sl (e_var 2) (o_some (e_var 3)) o_none)) (a_cons (e_op o_add (e_sl (e_var 2) o_none (o_some (e_var 3))) (e_lst (a_cons (e_var 5) (a_cons (e_tup (a_cons (e_neg e_int) (a_cons (e_str [66]) a_nil))) (a_cons (e_tup (a_cons e_int (a_cons (e_str []) a_nil))) a_nil))))) a_nil))))) (ss_one (s_for PassesOwn.leaving rfl (i_any (e_var 8)) (g_name 9 sc_law_refuses.nd) (ss_one (s_if (t_not (t_val (e_call 0 h_law_same (hr.mono (by decide)) tk (a_cons (e_call 0 h_law_told (hr.mono (by decide)) tk (a_cons (e_var 1) (a_cons (e_var 9) a_nil))) (a_cons (e_call 0 h_law_due (hr.mono (by decide)) tk (a_cons (e_var 1) (a_cons (e_var 9) a_nil))) a_nil))))) (ss_one (s_ret e_bl)) ss_nil)))))) (ss_one (s_ret e_bl)))))))))))) ?_
  intro ds μ Q R hl h
  obtain ⟨p, cells, i, a, b, c, s, js, e, rfl, rfl, hp, ht, hn, hq⟩ := h
  have hsl : s.length ≤ 10000 := by simp only [tot] at ht; omega
  simp only [List.map_cons, List.map_nil, List.length_cons, List.length_nil, Nat.reduceSub, Nat.reduceAdd, Nat.zero_add, Nat.sub_self, List.replicate, List.cons_append, List.nil_append, List.append_nil, List.set_cons_zero, List.set_cons_succ, List.take_succ_cons, List.take_zero, List.drop_zero, List.drop_succ_cons, List.drop_nil, List.take_nil, Nat.reduceLeDiff, ↓DL.z_var0, ↓DL.z_varS, ↓DL.z_name0, ↓DL.z_nameS, ↓DL.z_c, ↓DL.z_seq, ↓DL.z_next, ↓DL.z_if, ↓DL.z_asg, ↓DL.z_ret, ↓DL.z_drop, ↓DL.z_val, ↓DL.z_bl, ↓DL.z_and, ↓DL.z_or, ↓DL.z_not, ↓DL.z_bin, ↓DL.z_cb, ↓DL.z_nil, ↓DL.z_cons, ↓DL.z_i0, ↓DL.z_i, ↓DL.z_mul, ↓DL.z_add, ↓DL.z_lt, ↓DL.z_le, ↓DL.z_gt, ↓DL.z_ge, ↓DL.z_eq, ↓DL.z_ne, ↓DL.z_len, ↓DL.z_lens, ↓DL.z_int, ↓DL.z_intb, ↓DL.z_ixO, ↓DL.z_ix0, ↓DL.z_ix1, ↓DL.z_ix2, ↓DL.z_ix3, ↓DL.z_ix4, ↓DL.z_gsub, ↓DL.z_sub1, ↓DL.z_sub2, ↓DL.z_sub3, ↓DL.z_sub4, ↓DL.z_for, ↓DL.z_itA, ↓DL.z_any, ↓DL.z_itl, ↓DL.z_itt, ↓DL.z_its, ↓DL.z_lcg, ↓DL.z_yes, ↓DL.z_ifx, ↓DL.z_tup, ↓DL.z_lst, ↓DL.z_lstO, ↓DL.z_nop, ↓DL.z_part, ↓DL.z_pa, ↓DL.z_slx, ↓DL.z_sll, ↓DL.z_slt, ↓DL.z_sls, ↓DL.z_chain, ↓DL.z_ch, ↓DL.z_andv, ↓DL.z_orv, ↓DL.z_fnot, ↓DL.z_un, ↓DL.z_neg, ↓DL.z_call, ↓DL.z_prop, ↓DL.z_meth, ↓DL.z_make, ↓DL.z_obj, ↓DL.z_fl, ↓DL.z_flt, ↓DL.z_flf, ↓DL.z_ft, ↓DL.z_ftt, ↓DL.z_lent, ↓DL.z_adds, ↓DL.z_addl, ↓DL.z_addt, ↓DL.z_eqs, ↓DL.z_nes, ↓DL.z_eqb, ↓DL.z_eqn, ↓DL.z_eql, ↓DL.z_nel, ↓DL.z_isn, ↓DL.z_isnn, ↓DL.z_ins, ↓DL.z_nins, ↓DL.z_ixt, ↓DL.z_l0, ↓DL.z_l1, ↓DL.z_l2, ↓DL.z_rng, ↓DL.z_enl, ↓DL.z_ent, ↓DL.z_gtup, ↓DL.z_gcons, ↓DL.z_gnil, ↓DL.z_wipe0, ↓DL.z_wipe, ↓DL.z_mt, ↓DL.z_ty0, ↓DL.z_ty1, ↓DL.z_app0, ↓DL.z_app1, ↓DL.z_raise, ↓DL.z_ra, ↓DL.z_is_i_bool, ↓DL.z_is_i_int, ↓DL.z_is_i_str, ↓DL.z_is_i_tuple, ↓DL.z_is_i_list, ↓DL.z_is_b_bool, ↓DL.z_is_b_int, ↓DL.z_is_b_str, ↓DL.z_is_b_tuple, ↓DL.z_is_b_list, ↓DL.z_is_s_bool, ↓DL.z_is_s_int, ↓DL.z_is_s_str, ↓DL.z_is_s_tuple, ↓DL.z_is_s_list, ↓DL.z_is_l_bool, ↓DL.z_is_l_int, ↓DL.z_is_l_str, ↓DL.z_is_l_tuple, ↓DL.z_is_l_list, ↓DL.z_is_t_bool, ↓DL.z_is_t_int, ↓DL.z_is_t_str, ↓DL.z_is_t_tuple, ↓DL.z_is_t_list, ↓DL.z_is_n_bool, ↓DL.z_is_n_int, ↓DL.z_is_n_str, ↓DL.z_is_n_tuple, ↓DL.z_is_n_list, ↓DL.z_gslc, ↓DL.z_sc0, ↓DL.z_listO, ↓DL.z_lol, ↓DL.z_lot, ↓DL.z_fsum, ↓DL.z_own1, ↓DL.z_glen, ↓DL.z_gall, ↓DL.z_ixown, ↓DL.z_listG, ↓DL.z_ownit, ↓DL.z_fld, ↓DL.z_fz, ↓DL.z_fzs, ↓DL.z_xisi, ↓DL.z_xi, ↓DL.z_xval, ↓DL.z_xv, ↓DL.z_ixm, ↓DL.z_lm, ↓dTrim, ↓dLc, ↓dLcO, ↓dEnds, ↓z_gd1, ↓z_gd2, ↓z_gd3, ↓z_gdi, ↓z_gdo, slots, ↓reduceIte, decide_eq_true_eq, Bool.false_eq_true, Bool.not_true, Bool.not_false, decide_true, decide_false, Int.reduceEq, Int.reduceSub, Int.reduceAdd, Int.reduceLT, Int.reduceNeg, and_self, true_and, and_true, jsD_len]
  refine ⟨p, cells, i, a, b, c, _, rfl, rfl, by omega, log9 (by omega), fun r i' a' b' c' r0 r1 => ?_⟩
  obtain ⟨m, rfl⟩ := Int.eq_ofNat_of_zero_le r0
  simp only [List.map_cons, List.map_nil, List.length_cons, List.length_nil, Nat.reduceSub, Nat.reduceAdd, Nat.zero_add, Nat.sub_self, List.replicate, List.cons_append, List.nil_append, List.append_nil, List.set_cons_zero, List.set_cons_succ, List.take_succ_cons, List.take_zero, List.drop_zero, List.drop_succ_cons, List.drop_nil, List.take_nil, Nat.reduceLeDiff, ↓DL.z_var0, ↓DL.z_varS, ↓DL.z_name0, ↓DL.z_nameS, ↓DL.z_c, ↓DL.z_seq, ↓DL.z_next, ↓DL.z_if, ↓DL.z_asg, ↓DL.z_ret, ↓DL.z_drop, ↓DL.z_val, ↓DL.z_bl, ↓DL.z_and, ↓DL.z_or, ↓DL.z_not, ↓DL.z_bin, ↓DL.z_cb, ↓DL.z_nil, ↓DL.z_cons, ↓DL.z_i0, ↓DL.z_i, ↓DL.z_mul, ↓DL.z_add, ↓DL.z_lt, ↓DL.z_le, ↓DL.z_gt, ↓DL.z_ge, ↓DL.z_eq, ↓DL.z_ne, ↓DL.z_len, ↓DL.z_lens, ↓DL.z_int, ↓DL.z_intb, ↓DL.z_ixO, ↓DL.z_ix0, ↓DL.z_ix1, ↓DL.z_ix2, ↓DL.z_ix3, ↓DL.z_ix4, ↓DL.z_gsub, ↓DL.z_sub1, ↓DL.z_sub2, ↓DL.z_sub3, ↓DL.z_sub4, ↓DL.z_for, ↓DL.z_itA, ↓DL.z_any, ↓DL.z_itl, ↓DL.z_itt, ↓DL.z_its, ↓DL.z_lcg, ↓DL.z_yes, ↓DL.z_ifx, ↓DL.z_tup, ↓DL.z_lst, ↓DL.z_lstO, ↓DL.z_nop, ↓DL.z_part, ↓DL.z_pa, ↓DL.z_slx, ↓DL.z_sll, ↓DL.z_slt, ↓DL.z_sls, ↓DL.z_chain, ↓DL.z_ch, ↓DL.z_andv, ↓DL.z_orv, ↓DL.z_fnot, ↓DL.z_un, ↓DL.z_neg, ↓DL.z_call, ↓DL.z_prop, ↓DL.z_meth, ↓DL.z_make, ↓DL.z_obj, ↓DL.z_fl, ↓DL.z_flt, ↓DL.z_flf, ↓DL.z_ft, ↓DL.z_ftt, ↓DL.z_lent, ↓DL.z_adds, ↓DL.z_addl, ↓DL.z_addt, ↓DL.z_eqs, ↓DL.z_nes, ↓DL.z_eqb, ↓DL.z_eqn, ↓DL.z_eql, ↓DL.z_nel, ↓DL.z_isn, ↓DL.z_isnn, ↓DL.z_ins, ↓DL.z_nins, ↓DL.z_ixt, ↓DL.z_l0, ↓DL.z_l1, ↓DL.z_l2, ↓DL.z_rng, ↓DL.z_enl, ↓DL.z_ent, ↓DL.z_gtup, ↓DL.z_gcons, ↓DL.z_gnil, ↓DL.z_wipe0, ↓DL.z_wipe, ↓DL.z_mt, ↓DL.z_ty0, ↓DL.z_ty1, ↓DL.z_app0, ↓DL.z_app1, ↓DL.z_raise, ↓DL.z_ra, ↓DL.z_is_i_bool, ↓DL.z_is_i_int, ↓DL.z_is_i_str, ↓DL.z_is_i_tuple, ↓DL.z_is_i_list, ↓DL.z_is_b_bool, ↓DL.z_is_b_int, ↓DL.z_is_b_str, ↓DL.z_is_b_tuple, ↓DL.z_is_b_list, ↓DL.z_is_s_bool, ↓DL.z_is_s_int, ↓DL.z_is_s_str, ↓DL.z_is_s_tuple, ↓DL.z_is_s_list, ↓DL.z_is_l_bool, ↓DL.z_is_l_int, ↓DL.z_is_l_str, ↓DL.z_is_l_tuple, ↓DL.z_is_l_list, ↓DL.z_is_t_bool, ↓DL.z_is_t_int, ↓DL.z_is_t_str, ↓DL.z_is_t_tuple, ↓DL.z_is_t_list, ↓DL.z_is_n_bool, ↓DL.z_is_n_int, ↓DL.z_is_n_str, ↓DL.z_is_n_tuple, ↓DL.z_is_n_list, ↓DL.z_gslc, ↓DL.z_sc0, ↓DL.z_listO, ↓DL.z_lol, ↓DL.z_lot, ↓DL.z_fsum, ↓DL.z_own1, ↓DL.z_glen, ↓DL.z_gall, ↓DL.z_ixown, ↓DL.z_listG, ↓DL.z_ownit, ↓DL.z_fld, ↓DL.z_fz, ↓DL.z_fzs, ↓DL.z_xisi, ↓DL.z_xi, ↓DL.z_xval, ↓DL.z_xv, ↓DL.z_ixm, ↓DL.z_lm, ↓dTrim, ↓dLc, ↓dLcO, ↓dEnds, ↓z_gd1, ↓z_gd2, ↓z_gd3, ↓z_gdi, ↓z_gdo, slots, ↓reduceIte, decide_eq_true_eq, Bool.false_eq_true, Bool.not_true, Bool.not_false, decide_true, decide_false, Int.reduceEq, Int.reduceSub, Int.reduceAdd, Int.reduceLT, Int.reduceNeg, and_self, true_and, and_true]
  rw [cut_to _ _ (by rw [jsD_len]; omega), jsD_take]
  refine ⟨by rw [jsD_len, List.length_take]; omega, fun k acc μ' => μ' = [(p, .lst (stD cells i' a' b' c'))] ∧ acc = ((js.take m).take k).map (fun j => D.int (j.2.length : Nat)), ⟨rfl, rfl⟩, ?_, ?_⟩
  · rintro k d acc μ' hd _ ⟨rfl, rfl⟩
    obtain ⟨⟨g, w⟩, hj, rfl⟩ := jsD_get hd
    simp only [List.map_cons, List.map_nil, List.length_cons, List.length_nil, Nat.reduceSub, Nat.reduceAdd, Nat.zero_add, Nat.sub_self, List.replicate, List.cons_append, List.nil_append, List.append_nil, List.set_cons_zero, List.set_cons_succ, List.take_succ_cons, List.take_zero, List.drop_zero, List.drop_succ_cons, List.drop_nil, List.take_nil, Nat.reduceLeDiff, ↓DL.z_var0, ↓DL.z_varS, ↓DL.z_name0, ↓DL.z_nameS, ↓DL.z_c, ↓DL.z_seq, ↓DL.z_next, ↓DL.z_if, ↓DL.z_asg, ↓DL.z_ret, ↓DL.z_drop, ↓DL.z_val, ↓DL.z_bl, ↓DL.z_and, ↓DL.z_or, ↓DL.z_not, ↓DL.z_bin, ↓DL.z_cb, ↓DL.z_nil, ↓DL.z_cons, ↓DL.z_i0, ↓DL.z_i, ↓DL.z_mul, ↓DL.z_add, ↓DL.z_lt, ↓DL.z_le, ↓DL.z_gt, ↓DL.z_ge, ↓DL.z_eq, ↓DL.z_ne, ↓DL.z_len, ↓DL.z_lens, ↓DL.z_int, ↓DL.z_intb, ↓DL.z_ixO, ↓DL.z_ix0, ↓DL.z_ix1, ↓DL.z_ix2, ↓DL.z_ix3, ↓DL.z_ix4, ↓DL.z_gsub, ↓DL.z_sub1, ↓DL.z_sub2, ↓DL.z_sub3, ↓DL.z_sub4, ↓DL.z_for, ↓DL.z_itA, ↓DL.z_any, ↓DL.z_itl, ↓DL.z_itt, ↓DL.z_its, ↓DL.z_lcg, ↓DL.z_yes, ↓DL.z_ifx, ↓DL.z_tup, ↓DL.z_lst, ↓DL.z_lstO, ↓DL.z_nop, ↓DL.z_part, ↓DL.z_pa, ↓DL.z_slx, ↓DL.z_sll, ↓DL.z_slt, ↓DL.z_sls, ↓DL.z_chain, ↓DL.z_ch, ↓DL.z_andv, ↓DL.z_orv, ↓DL.z_fnot, ↓DL.z_un, ↓DL.z_neg, ↓DL.z_call, ↓DL.z_prop, ↓DL.z_meth, ↓DL.z_make, ↓DL.z_obj, ↓DL.z_fl, ↓DL.z_flt, ↓DL.z_flf, ↓DL.z_ft, ↓DL.z_ftt, ↓DL.z_lent, ↓DL.z_adds, ↓DL.z_addl, ↓DL.z_addt, ↓DL.z_eqs, ↓DL.z_nes, ↓DL.z_eqb, ↓DL.z_eqn, ↓DL.z_eql, ↓DL.z_nel, ↓DL.z_isn, ↓DL.z_isnn, ↓DL.z_ins, ↓DL.z_nins, ↓DL.z_ixt, ↓DL.z_l0, ↓DL.z_l1, ↓DL.z_l2, ↓DL.z_rng, ↓DL.z_enl, ↓DL.z_ent, ↓DL.z_gtup, ↓DL.z_gcons, ↓DL.z_gnil, ↓DL.z_wipe0, ↓DL.z_wipe, ↓DL.z_mt, ↓DL.z_ty0, ↓DL.z_ty1, ↓DL.z_app0, ↓DL.z_app1, ↓DL.z_raise, ↓DL.z_ra, ↓DL.z_is_i_bool, ↓DL.z_is_i_int, ↓DL.z_is_i_str, ↓DL.z_is_i_tuple, ↓DL.z_is_i_list, ↓DL.z_is_b_bool, ↓DL.z_is_b_int, ↓DL.z_is_b_str, ↓DL.z_is_b_tuple, ↓DL.z_is_b_list, ↓DL.z_is_s_bool, ↓DL.z_is_s_int, ↓DL.z_is_s_str, ↓DL.z_is_s_tuple, ↓DL.z_is_s_list, ↓DL.z_is_l_bool, ↓DL.z_is_l_int, ↓DL.z_is_l_str, ↓DL.z_is_l_tuple, ↓DL.z_is_l_list, ↓DL.z_is_t_bool, ↓DL.z_is_t_int, ↓DL.z_is_t_str, ↓DL.z_is_t_tuple, ↓DL.z_is_t_list, ↓DL.z_is_n_bool, ↓DL.z_is_n_int, ↓DL.z_is_n_str, ↓DL.z_is_n_tuple, ↓DL.z_is_n_list, ↓DL.z_gslc, ↓DL.z_sc0, ↓DL.z_listO, ↓DL.z_lol, ↓DL.z_lot, ↓DL.z_fsum, ↓DL.z_own1, ↓DL.z_glen, ↓DL.z_gall, ↓DL.z_ixown, ↓DL.z_listG, ↓DL.z_ownit, ↓DL.z_fld, ↓DL.z_fz, ↓DL.z_fzs, ↓DL.z_xisi, ↓DL.z_xi, ↓DL.z_xval, ↓DL.z_xv, ↓DL.z_ixm, ↓DL.z_lm, ↓dTrim, ↓dLc, ↓dLcO, ↓dEnds, ↓z_gd1, ↓z_gd2, ↓z_gd3, ↓z_gdi, ↓z_gdo, slots, ↓reduceIte, decide_eq_true_eq, Bool.false_eq_true, Bool.not_true, Bool.not_false, decide_true, decide_false, Int.reduceEq, Int.reduceSub, Int.reduceAdd, Int.reduceLT, Int.reduceNeg, and_self, true_and, and_true, jD]
    rw [take1 hj, List.map_append]
    rfl
  rintro acc μ' _ ⟨rfl, rfl⟩
  rw [jsD_len, List.take_length]
  refine ⟨_, ints_map (fun j => ((j.2.length : Nat) : Int)) (js.take m), ⟨by decide, by decide, by decide⟩, ?_⟩
  rw [sum_cast]
  have htm := tot_take s js m
  simp only [tot] at htm ht
  obtain ⟨z, hz⟩ : ∃ z : Nat, (s.length : Int) + (((js.take m).map fun j => j.2.length).sum : Nat) = z := ⟨_, (Int.natCast_add _ _).symm⟩
  have hz2 : z ≤ 10000 := by omega
  simp only [List.map_cons, List.map_nil, List.length_cons, List.length_nil, Nat.reduceSub, Nat.reduceAdd, Nat.zero_add, Nat.sub_self, List.replicate, List.cons_append, List.nil_append, List.append_nil, List.set_cons_zero, List.set_cons_succ, List.take_succ_cons, List.take_zero, List.drop_zero, List.drop_succ_cons, List.drop_nil, List.take_nil, Nat.reduceLeDiff, ↓DL.z_var0, ↓DL.z_varS, ↓DL.z_name0, ↓DL.z_nameS, ↓DL.z_c, ↓DL.z_seq, ↓DL.z_next, ↓DL.z_if, ↓DL.z_asg, ↓DL.z_ret, ↓DL.z_drop, ↓DL.z_val, ↓DL.z_bl, ↓DL.z_and, ↓DL.z_or, ↓DL.z_not, ↓DL.z_bin, ↓DL.z_cb, ↓DL.z_nil, ↓DL.z_cons, ↓DL.z_i0, ↓DL.z_i, ↓DL.z_mul, ↓DL.z_add, ↓DL.z_lt, ↓DL.z_le, ↓DL.z_gt, ↓DL.z_ge, ↓DL.z_eq, ↓DL.z_ne, ↓DL.z_len, ↓DL.z_lens, ↓DL.z_int, ↓DL.z_intb, ↓DL.z_ixO, ↓DL.z_ix0, ↓DL.z_ix1, ↓DL.z_ix2, ↓DL.z_ix3, ↓DL.z_ix4, ↓DL.z_gsub, ↓DL.z_sub1, ↓DL.z_sub2, ↓DL.z_sub3, ↓DL.z_sub4, ↓DL.z_for, ↓DL.z_itA, ↓DL.z_any, ↓DL.z_itl, ↓DL.z_itt, ↓DL.z_its, ↓DL.z_lcg, ↓DL.z_yes, ↓DL.z_ifx, ↓DL.z_tup, ↓DL.z_lst, ↓DL.z_lstO, ↓DL.z_nop, ↓DL.z_part, ↓DL.z_pa, ↓DL.z_slx, ↓DL.z_sll, ↓DL.z_slt, ↓DL.z_sls, ↓DL.z_chain, ↓DL.z_ch, ↓DL.z_andv, ↓DL.z_orv, ↓DL.z_fnot, ↓DL.z_un, ↓DL.z_neg, ↓DL.z_call, ↓DL.z_prop, ↓DL.z_meth, ↓DL.z_make, ↓DL.z_obj, ↓DL.z_fl, ↓DL.z_flt, ↓DL.z_flf, ↓DL.z_ft, ↓DL.z_ftt, ↓DL.z_lent, ↓DL.z_adds, ↓DL.z_addl, ↓DL.z_addt, ↓DL.z_eqs, ↓DL.z_nes, ↓DL.z_eqb, ↓DL.z_eqn, ↓DL.z_eql, ↓DL.z_nel, ↓DL.z_isn, ↓DL.z_isnn, ↓DL.z_ins, ↓DL.z_nins, ↓DL.z_ixt, ↓DL.z_l0, ↓DL.z_l1, ↓DL.z_l2, ↓DL.z_rng, ↓DL.z_enl, ↓DL.z_ent, ↓DL.z_gtup, ↓DL.z_gcons, ↓DL.z_gnil, ↓DL.z_wipe0, ↓DL.z_wipe, ↓DL.z_mt, ↓DL.z_ty0, ↓DL.z_ty1, ↓DL.z_app0, ↓DL.z_app1, ↓DL.z_raise, ↓DL.z_ra, ↓DL.z_is_i_bool, ↓DL.z_is_i_int, ↓DL.z_is_i_str, ↓DL.z_is_i_tuple, ↓DL.z_is_i_list, ↓DL.z_is_b_bool, ↓DL.z_is_b_int, ↓DL.z_is_b_str, ↓DL.z_is_b_tuple, ↓DL.z_is_b_list, ↓DL.z_is_s_bool, ↓DL.z_is_s_int, ↓DL.z_is_s_str, ↓DL.z_is_s_tuple, ↓DL.z_is_s_list, ↓DL.z_is_l_bool, ↓DL.z_is_l_int, ↓DL.z_is_l_str, ↓DL.z_is_l_tuple, ↓DL.z_is_l_list, ↓DL.z_is_t_bool, ↓DL.z_is_t_int, ↓DL.z_is_t_str, ↓DL.z_is_t_tuple, ↓DL.z_is_t_list, ↓DL.z_is_n_bool, ↓DL.z_is_n_int, ↓DL.z_is_n_str, ↓DL.z_is_n_tuple, ↓DL.z_is_n_list, ↓DL.z_gslc, ↓DL.z_sc0, ↓DL.z_listO, ↓DL.z_lol, ↓DL.z_lot, ↓DL.z_fsum, ↓DL.z_own1, ↓DL.z_glen, ↓DL.z_gall, ↓DL.z_ixown, ↓DL.z_listG, ↓DL.z_ownit, ↓DL.z_fld, ↓DL.z_fz, ↓DL.z_fzs, ↓DL.z_xisi, ↓DL.z_xi, ↓DL.z_xval, ↓DL.z_xv, ↓DL.z_ixm, ↓DL.z_lm, ↓dTrim, ↓dLc, ↓dLcO, ↓dEnds, ↓z_gd1, ↓z_gd2, ↓z_gd3, ↓z_gdi, ↓z_gdo, slots, ↓reduceIte, decide_eq_true_eq, Bool.false_eq_true, Bool.not_true, Bool.not_false, decide_true, decide_false, Int.reduceEq, Int.reduceSub, Int.reduceAdd, Int.reduceLT, Int.reduceNeg, and_self, true_and, and_true, ↓hz]
  refine ⟨p, cells, i', a', b', c', _, rfl, rfl, by decide, log9 (by decide +kernel), fun r i' a' b' c' r0 r1 => ?_⟩
  rw [show (10 : Int) ^ (30 : Int).toNat = 1000000000000000000000000000000 from by decide] at r1
  simp only [List.map_cons, List.map_nil, List.length_cons, List.length_nil, Nat.reduceSub, Nat.reduceAdd, Nat.zero_add, Nat.sub_self, List.replicate, List.cons_append, List.nil_append, List.append_nil, List.set_cons_zero, List.set_cons_succ, List.take_succ_cons, List.take_zero, List.drop_zero, List.drop_succ_cons, List.drop_nil, List.take_nil, Nat.reduceLeDiff, ↓DL.z_var0, ↓DL.z_varS, ↓DL.z_name0, ↓DL.z_nameS, ↓DL.z_c, ↓DL.z_seq, ↓DL.z_next, ↓DL.z_if, ↓DL.z_asg, ↓DL.z_ret, ↓DL.z_drop, ↓DL.z_val, ↓DL.z_bl, ↓DL.z_and, ↓DL.z_or, ↓DL.z_not, ↓DL.z_bin, ↓DL.z_cb, ↓DL.z_nil, ↓DL.z_cons, ↓DL.z_i0, ↓DL.z_i, ↓DL.z_mul, ↓DL.z_add, ↓DL.z_lt, ↓DL.z_le, ↓DL.z_gt, ↓DL.z_ge, ↓DL.z_eq, ↓DL.z_ne, ↓DL.z_len, ↓DL.z_lens, ↓DL.z_int, ↓DL.z_intb, ↓DL.z_ixO, ↓DL.z_ix0, ↓DL.z_ix1, ↓DL.z_ix2, ↓DL.z_ix3, ↓DL.z_ix4, ↓DL.z_gsub, ↓DL.z_sub1, ↓DL.z_sub2, ↓DL.z_sub3, ↓DL.z_sub4, ↓DL.z_for, ↓DL.z_itA, ↓DL.z_any, ↓DL.z_itl, ↓DL.z_itt, ↓DL.z_its, ↓DL.z_lcg, ↓DL.z_yes, ↓DL.z_ifx, ↓DL.z_tup, ↓DL.z_lst, ↓DL.z_lstO, ↓DL.z_nop, ↓DL.z_part, ↓DL.z_pa, ↓DL.z_slx, ↓DL.z_sll, ↓DL.z_slt, ↓DL.z_sls, ↓DL.z_chain, ↓DL.z_ch, ↓DL.z_andv, ↓DL.z_orv, ↓DL.z_fnot, ↓DL.z_un, ↓DL.z_neg, ↓DL.z_call, ↓DL.z_prop, ↓DL.z_meth, ↓DL.z_make, ↓DL.z_obj, ↓DL.z_fl, ↓DL.z_flt, ↓DL.z_flf, ↓DL.z_ft, ↓DL.z_ftt, ↓DL.z_lent, ↓DL.z_adds, ↓DL.z_addl, ↓DL.z_addt, ↓DL.z_eqs, ↓DL.z_nes, ↓DL.z_eqb, ↓DL.z_eqn, ↓DL.z_eql, ↓DL.z_nel, ↓DL.z_isn, ↓DL.z_isnn, ↓DL.z_ins, ↓DL.z_nins, ↓DL.z_ixt, ↓DL.z_l0, ↓DL.z_l1, ↓DL.z_l2, ↓DL.z_rng, ↓DL.z_enl, ↓DL.z_ent, ↓DL.z_gtup, ↓DL.z_gcons, ↓DL.z_gnil, ↓DL.z_wipe0, ↓DL.z_wipe, ↓DL.z_mt, ↓DL.z_ty0, ↓DL.z_ty1, ↓DL.z_app0, ↓DL.z_app1, ↓DL.z_raise, ↓DL.z_ra, ↓DL.z_is_i_bool, ↓DL.z_is_i_int, ↓DL.z_is_i_str, ↓DL.z_is_i_tuple, ↓DL.z_is_i_list, ↓DL.z_is_b_bool, ↓DL.z_is_b_int, ↓DL.z_is_b_str, ↓DL.z_is_b_tuple, ↓DL.z_is_b_list, ↓DL.z_is_s_bool, ↓DL.z_is_s_int, ↓DL.z_is_s_str, ↓DL.z_is_s_tuple, ↓DL.z_is_s_list, ↓DL.z_is_l_bool, ↓DL.z_is_l_int, ↓DL.z_is_l_str, ↓DL.z_is_l_tuple, ↓DL.z_is_l_list, ↓DL.z_is_t_bool, ↓DL.z_is_t_int, ↓DL.z_is_t_str, ↓DL.z_is_t_tuple, ↓DL.z_is_t_list, ↓DL.z_is_n_bool, ↓DL.z_is_n_int, ↓DL.z_is_n_str, ↓DL.z_is_n_tuple, ↓DL.z_is_n_list, ↓DL.z_gslc, ↓DL.z_sc0, ↓DL.z_listO, ↓DL.z_lol, ↓DL.z_lot, ↓DL.z_fsum, ↓DL.z_own1, ↓DL.z_glen, ↓DL.z_gall, ↓DL.z_ixown, ↓DL.z_listG, ↓DL.z_ownit, ↓DL.z_fld, ↓DL.z_fz, ↓DL.z_fzs, ↓DL.z_xisi, ↓DL.z_xi, ↓DL.z_xval, ↓DL.z_xv, ↓DL.z_ixm, ↓DL.z_lm, ↓dTrim, ↓dLc, ↓dLcO, ↓dEnds, ↓z_gd1, ↓z_gd2, ↓z_gd3, ↓z_gdi, ↓z_gdo, slots, ↓reduceIte, decide_eq_true_eq, Bool.false_eq_true, Bool.not_true, Bool.not_false, decide_true, decide_false, Int.reduceEq, Int.reduceSub, Int.reduceAdd, Int.reduceLT, Int.reduceNeg, and_self, true_and, and_true]
  intro q
  refine ⟨by omega, q, [(p, .lst (stD cells i' a' b' c'))], _, rfl, rfl, ?_⟩
  obtain ⟨B, hB⟩ : ∃ B : List J, B = [(-1, [97]), ((z : Int) + 1, [97]), ((z : Int) + 1 + r, [98]), (0 - ((z : Int) + 1 + r), [98]), (0 - (z : Int), [99]), (0, []), (z, [97, 66]), (0, [32, 97]),
    (-1, []), ((z : Int) + 1, [65]), ((z : Int) + 1 + r, [97, 32, 98]), (z, [97, 126]), (0, [49]), (0, [97]), (z, [122]), ((z : Int) / 2, [107])] := ⟨_, rfl⟩
  have hB1 : ∀ j ∈ B, j.2.length ≤ 3 ∧ j.1.natAbs.log2 < 1920 := by
    subst hB
    simp only [List.forall_mem_cons]
    refine ⟨?_, ?_, ?_, ?_, ?_, ?_, ?_, ?_, ?_, ?_, ?_, ?_, ?_, ?_, ?_, ?_, (fun _ h => by cases h)⟩
    all_goals exact ⟨by decide, log19 (by show _ < (1606938044258990275541962092341162602522202993782792835301376 : Nat); omega)⟩
  refine ⟨by simp, ⟨by decide, by decide +kernel⟩, by simp, ?_⟩
  have hb : [D.tup [D.int (-1), D.str [97]], D.tup [D.int ((z : Int) + 1), D.str [97]], D.tup [D.int ((z : Int) + 1 + r), D.str [98]], D.tup [D.int (0 - ((z : Int) + 1 + r)), D.str [98]], D.tup [D.int (0 - (z : Int)), D.str [99]], D.tup [D.int (0), D.str []], D.tup [D.int ((z : Int)), D.str [97, 66]], D.tup [D.int (0), D.str [32, 97]]] ++ [D.tup [D.int (-1), D.str []], D.tup [D.int ((z : Int) + 1), D.str [65]], D.tup [D.int ((z : Int) + 1 + r), D.str [97, 32, 98]], D.tup [D.int ((z : Int)), D.str [97, 126]], D.tup [D.int (0), D.str [49]]] ++ [D.tup [D.int (0), D.str [97]], D.tup [D.int ((z : Int)), D.str [122]], D.tup [D.int ((z : Int) / 2), D.str [107]]] = jsD B := by rw [hB]; rfl
  rw [hb]
  have hcase : ∀ c9 : List J, c9.length ≤ 20000 → tot s c9 ≤ 20000 → small c9 → tot s c9 ≤ 100000 ∧ c9.length ≤ 100000 ∧ small c9 := fun c9 h1 h2 h3 => ⟨by omega, by omega, h3⟩
  have hsm := play_small hp (by simp only [tot]; omega)
  refine ⟨fun k δ μ' => ∃ a b c d i' a' b' c', μ' = [(p, .lst (stD cells i' a' b' c'))] ∧ δ = [some (.adr p), some (.str s), some (.lst (jsD js)), some (.int m), some (.int z), a, b, some (.lst (jsD B)), c, d],
    ⟨_, _, _, _, _, _, _, _, rfl, rfl⟩, ?_, ?_⟩
  · rintro k d δ μ' hd ⟨a, b, c, d, i', a', b', c', rfl, rfl⟩
    obtain ⟨⟨g, w⟩, hj, rfl⟩ := jsD_get hd
    obtain ⟨hj1, hj2⟩ := hB1 _ (mem_ hj)
    simp only [List.map_cons, List.map_nil, List.length_cons, List.length_nil, Nat.reduceSub, Nat.reduceAdd, Nat.zero_add, Nat.sub_self, List.replicate, List.cons_append, List.nil_append, List.append_nil, List.set_cons_zero, List.set_cons_succ, List.take_succ_cons, List.take_zero, List.drop_zero, List.drop_succ_cons, List.drop_nil, List.take_nil, Nat.reduceLeDiff, ↓DL.z_var0, ↓DL.z_varS, ↓DL.z_name0, ↓DL.z_nameS, ↓DL.z_c, ↓DL.z_seq, ↓DL.z_next, ↓DL.z_if, ↓DL.z_asg, ↓DL.z_ret, ↓DL.z_drop, ↓DL.z_val, ↓DL.z_bl, ↓DL.z_and, ↓DL.z_or, ↓DL.z_not, ↓DL.z_bin, ↓DL.z_cb, ↓DL.z_nil, ↓DL.z_cons, ↓DL.z_i0, ↓DL.z_i, ↓DL.z_mul, ↓DL.z_add, ↓DL.z_lt, ↓DL.z_le, ↓DL.z_gt, ↓DL.z_ge, ↓DL.z_eq, ↓DL.z_ne, ↓DL.z_len, ↓DL.z_lens, ↓DL.z_int, ↓DL.z_intb, ↓DL.z_ixO, ↓DL.z_ix0, ↓DL.z_ix1, ↓DL.z_ix2, ↓DL.z_ix3, ↓DL.z_ix4, ↓DL.z_gsub, ↓DL.z_sub1, ↓DL.z_sub2, ↓DL.z_sub3, ↓DL.z_sub4, ↓DL.z_for, ↓DL.z_itA, ↓DL.z_any, ↓DL.z_itl, ↓DL.z_itt, ↓DL.z_its, ↓DL.z_lcg, ↓DL.z_yes, ↓DL.z_ifx, ↓DL.z_tup, ↓DL.z_lst, ↓DL.z_lstO, ↓DL.z_nop, ↓DL.z_part, ↓DL.z_pa, ↓DL.z_slx, ↓DL.z_sll, ↓DL.z_slt, ↓DL.z_sls, ↓DL.z_chain, ↓DL.z_ch, ↓DL.z_andv, ↓DL.z_orv, ↓DL.z_fnot, ↓DL.z_un, ↓DL.z_neg, ↓DL.z_call, ↓DL.z_prop, ↓DL.z_meth, ↓DL.z_make, ↓DL.z_obj, ↓DL.z_fl, ↓DL.z_flt, ↓DL.z_flf, ↓DL.z_ft, ↓DL.z_ftt, ↓DL.z_lent, ↓DL.z_adds, ↓DL.z_addl, ↓DL.z_addt, ↓DL.z_eqs, ↓DL.z_nes, ↓DL.z_eqb, ↓DL.z_eqn, ↓DL.z_eql, ↓DL.z_nel, ↓DL.z_isn, ↓DL.z_isnn, ↓DL.z_ins, ↓DL.z_nins, ↓DL.z_ixt, ↓DL.z_l0, ↓DL.z_l1, ↓DL.z_l2, ↓DL.z_rng, ↓DL.z_enl, ↓DL.z_ent, ↓DL.z_gtup, ↓DL.z_gcons, ↓DL.z_gnil, ↓DL.z_wipe0, ↓DL.z_wipe, ↓DL.z_mt, ↓DL.z_ty0, ↓DL.z_ty1, ↓DL.z_app0, ↓DL.z_app1, ↓DL.z_raise, ↓DL.z_ra, ↓DL.z_is_i_bool, ↓DL.z_is_i_int, ↓DL.z_is_i_str, ↓DL.z_is_i_tuple, ↓DL.z_is_i_list, ↓DL.z_is_b_bool, ↓DL.z_is_b_int, ↓DL.z_is_b_str, ↓DL.z_is_b_tuple, ↓DL.z_is_b_list, ↓DL.z_is_s_bool, ↓DL.z_is_s_int, ↓DL.z_is_s_str, ↓DL.z_is_s_tuple, ↓DL.z_is_s_list, ↓DL.z_is_l_bool, ↓DL.z_is_l_int, ↓DL.z_is_l_str, ↓DL.z_is_l_tuple, ↓DL.z_is_l_list, ↓DL.z_is_t_bool, ↓DL.z_is_t_int, ↓DL.z_is_t_str, ↓DL.z_is_t_tuple, ↓DL.z_is_t_list, ↓DL.z_is_n_bool, ↓DL.z_is_n_int, ↓DL.z_is_n_str, ↓DL.z_is_n_tuple, ↓DL.z_is_n_list, ↓DL.z_gslc, ↓DL.z_sc0, ↓DL.z_listO, ↓DL.z_lol, ↓DL.z_lot, ↓DL.z_fsum, ↓DL.z_own1, ↓DL.z_glen, ↓DL.z_gall, ↓DL.z_ixown, ↓DL.z_listG, ↓DL.z_ownit, ↓DL.z_fld, ↓DL.z_fz, ↓DL.z_fzs, ↓DL.z_xisi, ↓DL.z_xi, ↓DL.z_xval, ↓DL.z_xv, ↓DL.z_ixm, ↓DL.z_lm, ↓dTrim, ↓dLc, ↓dLcO, ↓dEnds, ↓z_gd1, ↓z_gd2, ↓z_gd3, ↓z_gdi, ↓z_gdo, slots, ↓reduceIte, decide_eq_true_eq, Bool.false_eq_true, Bool.not_true, Bool.not_false, decide_true, decide_false, Int.reduceEq, Int.reduceSub, Int.reduceAdd, Int.reduceLT, Int.reduceNeg, and_self, true_and, and_true, jD]
    rw [cut_to _ _ (by rw [jsD_len]; omega), cut_from _ _ (by rw [jsD_len]; omega), jsD_take, jsD_drop]
    obtain ⟨c1, hc1⟩ : ∃ c1, c1 = js.take m ++ [(g, w)] := ⟨_, rfl⟩
    obtain ⟨c2, hc2⟩ : ∃ c2, c2 = js.take m ++ [(g, w)] ++ js.drop m := ⟨_, rfl⟩
    obtain ⟨c3, hc3⟩ : ∃ c3, c3 = js.take m ++ [(g, w), (-2, [66]), (0, [])] := ⟨_, rfl⟩
    have e1 : jsD (js.take m) ++ [D.tup [D.int g, D.str w]] = jsD c1 := by rw [hc1, jsD_app]; rfl
    have e2 : jsD c1 ++ jsD (js.drop m) = jsD c2 := by rw [hc2, hc1, jsD_app, jsD_app, jsD_app]
    have e3 : jsD (js.take m) ++ [D.tup [D.int g, D.str w], D.tup [D.int (-2), D.str [66]], D.tup [D.int 0, D.str []]] = jsD c3 := by rw [hc3, jsD_app]; rfl
    simp only [e1, e2, e3]
    have t0 : tot s (js.take m) ≤ 10000 := by simp only [tot]; omega
    have t1 := tot_app s (js.take m) (js.drop m)
    rw [List.take_append_drop] at t1
    have t2 : tot s js ≤ 10000 := by simp only [tot]; omega
    have l1 : (js.take m).length ≤ 10000 := by rw [List.length_take]; omega
    have l2 : (js.drop m).length ≤ 10000 := by rw [List.length_drop]; omega
    have s1 : small (js.take m) := fun j h => hsm j (List.mem_of_mem_take h)
    have s2 : small (js.drop m) := fun j h => hsm j (List.mem_of_mem_drop h)
    have sapp : ∀ x y : List J, small x → small y → small (x ++ y) := fun x y hx hy j h => by
      rcases List.mem_append.mp h with h | h
      · exact hx j h
      · exact hy j h
    have s3 : small [(g, w)] := fun j h => by rw [List.mem_singleton.mp h]; exact hj2
    have s4 : small [(g, w), (-2, [66]), (0, [])] := sapp [(g, w)] _ s3 (fun j h => by
      simp only [List.mem_cons, List.not_mem_nil, or_false] at h
      rcases h with rfl | rfl <;> decide +kernel)
    simp only at hj1
    have hmem : ∀ d ∈ [D.lst (jsD c1), D.lst (jsD c2), D.lst (jsD c3)], ∃ c9, d = .lst (jsD c9) ∧ tot s c9 ≤ 100000 ∧ c9.length ≤ 100000 ∧ small c9 := by
      intro d hd
      simp only [List.mem_cons, List.not_mem_nil, or_false] at hd
      rcases hd with rfl | rfl | rfl
      · refine ⟨c1, rfl, ?_⟩
        rw [hc1, tot_app, List.length_append]
        simp only [List.map_cons, List.map_nil, List.sum_cons, List.sum_nil, List.length_cons, List.length_nil]
        exact ⟨by omega, by omega, sapp _ _ s1 s3⟩
      · refine ⟨c2, rfl, ?_⟩
        rw [hc2, tot_app, tot_app, List.length_append, List.length_append]
        simp only [List.map_cons, List.map_nil, List.sum_cons, List.sum_nil, List.length_cons, List.length_nil]
        exact ⟨by omega, by omega, sapp _ _ (sapp _ _ s1 s3) s2⟩
      · refine ⟨c3, rfl, ?_⟩
        rw [hc3, tot_app, List.length_append]
        simp only [List.map_cons, List.map_nil, List.sum_cons, List.sum_nil, List.length_cons, List.length_nil]
        exact ⟨by omega, by omega, sapp _ _ s1 s4⟩
    refine ⟨by rw [jsD_len]; omega, by rw [jsD_len]; omega, ?_, by rw [jsD_len]; omega, fun k δ μ' => ∃ a b c d i' a' b' c', μ' = [(p, .lst (stD cells i' a' b' c'))] ∧ δ = [some (.adr p), some (.str s), some (.lst (jsD js)), some (.int m), some (.int z), a, b, some (.lst (jsD B)), c, d],
      ⟨_, _, _, _, _, _, _, _, rfl, rfl⟩, ?_, fun _ _ h => h⟩
    · rw [jsD_len, jsD_len, hc1, List.length_append]; simp only [List.length_cons, List.length_nil]; omega
    · rintro k d δ μ' hd ⟨a, b, c, d9, i', a', b', c', rfl, rfl⟩
      obtain ⟨c9, rfl, u1, u2, u3⟩ := hmem d (mem_ hd)
      simp only [List.map_cons, List.map_nil, List.length_cons, List.length_nil, Nat.reduceSub, Nat.reduceAdd, Nat.zero_add, Nat.sub_self, List.replicate, List.cons_append, List.nil_append, List.append_nil, List.set_cons_zero, List.set_cons_succ, List.take_succ_cons, List.take_zero, List.drop_zero, List.drop_succ_cons, List.drop_nil, List.take_nil, Nat.reduceLeDiff, ↓DL.z_var0, ↓DL.z_varS, ↓DL.z_name0, ↓DL.z_nameS, ↓DL.z_c, ↓DL.z_seq, ↓DL.z_next, ↓DL.z_if, ↓DL.z_asg, ↓DL.z_ret, ↓DL.z_drop, ↓DL.z_val, ↓DL.z_bl, ↓DL.z_and, ↓DL.z_or, ↓DL.z_not, ↓DL.z_bin, ↓DL.z_cb, ↓DL.z_nil, ↓DL.z_cons, ↓DL.z_i0, ↓DL.z_i, ↓DL.z_mul, ↓DL.z_add, ↓DL.z_lt, ↓DL.z_le, ↓DL.z_gt, ↓DL.z_ge, ↓DL.z_eq, ↓DL.z_ne, ↓DL.z_len, ↓DL.z_lens, ↓DL.z_int, ↓DL.z_intb, ↓DL.z_ixO, ↓DL.z_ix0, ↓DL.z_ix1, ↓DL.z_ix2, ↓DL.z_ix3, ↓DL.z_ix4, ↓DL.z_gsub, ↓DL.z_sub1, ↓DL.z_sub2, ↓DL.z_sub3, ↓DL.z_sub4, ↓DL.z_for, ↓DL.z_itA, ↓DL.z_any, ↓DL.z_itl, ↓DL.z_itt, ↓DL.z_its, ↓DL.z_lcg, ↓DL.z_yes, ↓DL.z_ifx, ↓DL.z_tup, ↓DL.z_lst, ↓DL.z_lstO, ↓DL.z_nop, ↓DL.z_part, ↓DL.z_pa, ↓DL.z_slx, ↓DL.z_sll, ↓DL.z_slt, ↓DL.z_sls, ↓DL.z_chain, ↓DL.z_ch, ↓DL.z_andv, ↓DL.z_orv, ↓DL.z_fnot, ↓DL.z_un, ↓DL.z_neg, ↓DL.z_call, ↓DL.z_prop, ↓DL.z_meth, ↓DL.z_make, ↓DL.z_obj, ↓DL.z_fl, ↓DL.z_flt, ↓DL.z_flf, ↓DL.z_ft, ↓DL.z_ftt, ↓DL.z_lent, ↓DL.z_adds, ↓DL.z_addl, ↓DL.z_addt, ↓DL.z_eqs, ↓DL.z_nes, ↓DL.z_eqb, ↓DL.z_eqn, ↓DL.z_eql, ↓DL.z_nel, ↓DL.z_isn, ↓DL.z_isnn, ↓DL.z_ins, ↓DL.z_nins, ↓DL.z_ixt, ↓DL.z_l0, ↓DL.z_l1, ↓DL.z_l2, ↓DL.z_rng, ↓DL.z_enl, ↓DL.z_ent, ↓DL.z_gtup, ↓DL.z_gcons, ↓DL.z_gnil, ↓DL.z_wipe0, ↓DL.z_wipe, ↓DL.z_mt, ↓DL.z_ty0, ↓DL.z_ty1, ↓DL.z_app0, ↓DL.z_app1, ↓DL.z_raise, ↓DL.z_ra, ↓DL.z_is_i_bool, ↓DL.z_is_i_int, ↓DL.z_is_i_str, ↓DL.z_is_i_tuple, ↓DL.z_is_i_list, ↓DL.z_is_b_bool, ↓DL.z_is_b_int, ↓DL.z_is_b_str, ↓DL.z_is_b_tuple, ↓DL.z_is_b_list, ↓DL.z_is_s_bool, ↓DL.z_is_s_int, ↓DL.z_is_s_str, ↓DL.z_is_s_tuple, ↓DL.z_is_s_list, ↓DL.z_is_l_bool, ↓DL.z_is_l_int, ↓DL.z_is_l_str, ↓DL.z_is_l_tuple, ↓DL.z_is_l_list, ↓DL.z_is_t_bool, ↓DL.z_is_t_int, ↓DL.z_is_t_str, ↓DL.z_is_t_tuple, ↓DL.z_is_t_list, ↓DL.z_is_n_bool, ↓DL.z_is_n_int, ↓DL.z_is_n_str, ↓DL.z_is_n_tuple, ↓DL.z_is_n_list, ↓DL.z_gslc, ↓DL.z_sc0, ↓DL.z_listO, ↓DL.z_lol, ↓DL.z_lot, ↓DL.z_fsum, ↓DL.z_own1, ↓DL.z_glen, ↓DL.z_gall, ↓DL.z_ixown, ↓DL.z_listG, ↓DL.z_ownit, ↓DL.z_fld, ↓DL.z_fz, ↓DL.z_fzs, ↓DL.z_xisi, ↓DL.z_xi, ↓DL.z_xval, ↓DL.z_xv, ↓DL.z_ixm, ↓DL.z_lm, ↓dTrim, ↓dLc, ↓dLcO, ↓dEnds, ↓z_gd1, ↓z_gd2, ↓z_gd3, ↓z_gdi, ↓z_gdo, slots, ↓reduceIte, decide_eq_true_eq, Bool.false_eq_true, Bool.not_true, Bool.not_false, decide_true, decide_false, Int.reduceEq, Int.reduceSub, Int.reduceAdd, Int.reduceLT, Int.reduceNeg, and_self, true_and, and_true]
      refine ⟨s, c9, rfl, u1, u2, u3, ?_⟩
      simp only [List.map_cons, List.map_nil, List.length_cons, List.length_nil, Nat.reduceSub, Nat.reduceAdd, Nat.zero_add, Nat.sub_self, List.replicate, List.cons_append, List.nil_append, List.append_nil, List.set_cons_zero, List.set_cons_succ, List.take_succ_cons, List.take_zero, List.drop_zero, List.drop_succ_cons, List.drop_nil, List.take_nil, Nat.reduceLeDiff, ↓DL.z_var0, ↓DL.z_varS, ↓DL.z_name0, ↓DL.z_nameS, ↓DL.z_c, ↓DL.z_seq, ↓DL.z_next, ↓DL.z_if, ↓DL.z_asg, ↓DL.z_ret, ↓DL.z_drop, ↓DL.z_val, ↓DL.z_bl, ↓DL.z_and, ↓DL.z_or, ↓DL.z_not, ↓DL.z_bin, ↓DL.z_cb, ↓DL.z_nil, ↓DL.z_cons, ↓DL.z_i0, ↓DL.z_i, ↓DL.z_mul, ↓DL.z_add, ↓DL.z_lt, ↓DL.z_le, ↓DL.z_gt, ↓DL.z_ge, ↓DL.z_eq, ↓DL.z_ne, ↓DL.z_len, ↓DL.z_lens, ↓DL.z_int, ↓DL.z_intb, ↓DL.z_ixO, ↓DL.z_ix0, ↓DL.z_ix1, ↓DL.z_ix2, ↓DL.z_ix3, ↓DL.z_ix4, ↓DL.z_gsub, ↓DL.z_sub1, ↓DL.z_sub2, ↓DL.z_sub3, ↓DL.z_sub4, ↓DL.z_for, ↓DL.z_itA, ↓DL.z_any, ↓DL.z_itl, ↓DL.z_itt, ↓DL.z_its, ↓DL.z_lcg, ↓DL.z_yes, ↓DL.z_ifx, ↓DL.z_tup, ↓DL.z_lst, ↓DL.z_lstO, ↓DL.z_nop, ↓DL.z_part, ↓DL.z_pa, ↓DL.z_slx, ↓DL.z_sll, ↓DL.z_slt, ↓DL.z_sls, ↓DL.z_chain, ↓DL.z_ch, ↓DL.z_andv, ↓DL.z_orv, ↓DL.z_fnot, ↓DL.z_un, ↓DL.z_neg, ↓DL.z_call, ↓DL.z_prop, ↓DL.z_meth, ↓DL.z_make, ↓DL.z_obj, ↓DL.z_fl, ↓DL.z_flt, ↓DL.z_flf, ↓DL.z_ft, ↓DL.z_ftt, ↓DL.z_lent, ↓DL.z_adds, ↓DL.z_addl, ↓DL.z_addt, ↓DL.z_eqs, ↓DL.z_nes, ↓DL.z_eqb, ↓DL.z_eqn, ↓DL.z_eql, ↓DL.z_nel, ↓DL.z_isn, ↓DL.z_isnn, ↓DL.z_ins, ↓DL.z_nins, ↓DL.z_ixt, ↓DL.z_l0, ↓DL.z_l1, ↓DL.z_l2, ↓DL.z_rng, ↓DL.z_enl, ↓DL.z_ent, ↓DL.z_gtup, ↓DL.z_gcons, ↓DL.z_gnil, ↓DL.z_wipe0, ↓DL.z_wipe, ↓DL.z_mt, ↓DL.z_ty0, ↓DL.z_ty1, ↓DL.z_app0, ↓DL.z_app1, ↓DL.z_raise, ↓DL.z_ra, ↓DL.z_is_i_bool, ↓DL.z_is_i_int, ↓DL.z_is_i_str, ↓DL.z_is_i_tuple, ↓DL.z_is_i_list, ↓DL.z_is_b_bool, ↓DL.z_is_b_int, ↓DL.z_is_b_str, ↓DL.z_is_b_tuple, ↓DL.z_is_b_list, ↓DL.z_is_s_bool, ↓DL.z_is_s_int, ↓DL.z_is_s_str, ↓DL.z_is_s_tuple, ↓DL.z_is_s_list, ↓DL.z_is_l_bool, ↓DL.z_is_l_int, ↓DL.z_is_l_str, ↓DL.z_is_l_tuple, ↓DL.z_is_l_list, ↓DL.z_is_t_bool, ↓DL.z_is_t_int, ↓DL.z_is_t_str, ↓DL.z_is_t_tuple, ↓DL.z_is_t_list, ↓DL.z_is_n_bool, ↓DL.z_is_n_int, ↓DL.z_is_n_str, ↓DL.z_is_n_tuple, ↓DL.z_is_n_list, ↓DL.z_gslc, ↓DL.z_sc0, ↓DL.z_listO, ↓DL.z_lol, ↓DL.z_lot, ↓DL.z_fsum, ↓DL.z_own1, ↓DL.z_glen, ↓DL.z_gall, ↓DL.z_ixown, ↓DL.z_listG, ↓DL.z_ownit, ↓DL.z_fld, ↓DL.z_fz, ↓DL.z_fzs, ↓DL.z_xisi, ↓DL.z_xi, ↓DL.z_xval, ↓DL.z_xv, ↓DL.z_ixm, ↓DL.z_lm, ↓dTrim, ↓dLc, ↓dLcO, ↓dEnds, ↓z_gd1, ↓z_gd2, ↓z_gd3, ↓z_gdi, ↓z_gdo, slots, ↓reduceIte, decide_eq_true_eq, Bool.false_eq_true, Bool.not_true, Bool.not_false, decide_true, decide_false, Int.reduceEq, Int.reduceSub, Int.reduceAdd, Int.reduceLT, Int.reduceNeg, and_self, true_and, and_true]
      refine ⟨s, c9, rfl, u1, u2, ?_⟩
      refine ⟨_, rfl, sm_outD s c9, ?_⟩
      simp only [List.map_cons, List.map_nil, List.length_cons, List.length_nil, Nat.reduceSub, Nat.reduceAdd, Nat.zero_add, Nat.sub_self, List.replicate, List.cons_append, List.nil_append, List.append_nil, List.set_cons_zero, List.set_cons_succ, List.take_succ_cons, List.take_zero, List.drop_zero, List.drop_succ_cons, List.drop_nil, List.take_nil, Nat.reduceLeDiff, ↓DL.z_var0, ↓DL.z_varS, ↓DL.z_name0, ↓DL.z_nameS, ↓DL.z_c, ↓DL.z_seq, ↓DL.z_next, ↓DL.z_if, ↓DL.z_asg, ↓DL.z_ret, ↓DL.z_drop, ↓DL.z_val, ↓DL.z_bl, ↓DL.z_and, ↓DL.z_or, ↓DL.z_not, ↓DL.z_bin, ↓DL.z_cb, ↓DL.z_nil, ↓DL.z_cons, ↓DL.z_i0, ↓DL.z_i, ↓DL.z_mul, ↓DL.z_add, ↓DL.z_lt, ↓DL.z_le, ↓DL.z_gt, ↓DL.z_ge, ↓DL.z_eq, ↓DL.z_ne, ↓DL.z_len, ↓DL.z_lens, ↓DL.z_int, ↓DL.z_intb, ↓DL.z_ixO, ↓DL.z_ix0, ↓DL.z_ix1, ↓DL.z_ix2, ↓DL.z_ix3, ↓DL.z_ix4, ↓DL.z_gsub, ↓DL.z_sub1, ↓DL.z_sub2, ↓DL.z_sub3, ↓DL.z_sub4, ↓DL.z_for, ↓DL.z_itA, ↓DL.z_any, ↓DL.z_itl, ↓DL.z_itt, ↓DL.z_its, ↓DL.z_lcg, ↓DL.z_yes, ↓DL.z_ifx, ↓DL.z_tup, ↓DL.z_lst, ↓DL.z_lstO, ↓DL.z_nop, ↓DL.z_part, ↓DL.z_pa, ↓DL.z_slx, ↓DL.z_sll, ↓DL.z_slt, ↓DL.z_sls, ↓DL.z_chain, ↓DL.z_ch, ↓DL.z_andv, ↓DL.z_orv, ↓DL.z_fnot, ↓DL.z_un, ↓DL.z_neg, ↓DL.z_call, ↓DL.z_prop, ↓DL.z_meth, ↓DL.z_make, ↓DL.z_obj, ↓DL.z_fl, ↓DL.z_flt, ↓DL.z_flf, ↓DL.z_ft, ↓DL.z_ftt, ↓DL.z_lent, ↓DL.z_adds, ↓DL.z_addl, ↓DL.z_addt, ↓DL.z_eqs, ↓DL.z_nes, ↓DL.z_eqb, ↓DL.z_eqn, ↓DL.z_eql, ↓DL.z_nel, ↓DL.z_isn, ↓DL.z_isnn, ↓DL.z_ins, ↓DL.z_nins, ↓DL.z_ixt, ↓DL.z_l0, ↓DL.z_l1, ↓DL.z_l2, ↓DL.z_rng, ↓DL.z_enl, ↓DL.z_ent, ↓DL.z_gtup, ↓DL.z_gcons, ↓DL.z_gnil, ↓DL.z_wipe0, ↓DL.z_wipe, ↓DL.z_mt, ↓DL.z_ty0, ↓DL.z_ty1, ↓DL.z_app0, ↓DL.z_app1, ↓DL.z_raise, ↓DL.z_ra, ↓DL.z_is_i_bool, ↓DL.z_is_i_int, ↓DL.z_is_i_str, ↓DL.z_is_i_tuple, ↓DL.z_is_i_list, ↓DL.z_is_b_bool, ↓DL.z_is_b_int, ↓DL.z_is_b_str, ↓DL.z_is_b_tuple, ↓DL.z_is_b_list, ↓DL.z_is_s_bool, ↓DL.z_is_s_int, ↓DL.z_is_s_str, ↓DL.z_is_s_tuple, ↓DL.z_is_s_list, ↓DL.z_is_l_bool, ↓DL.z_is_l_int, ↓DL.z_is_l_str, ↓DL.z_is_l_tuple, ↓DL.z_is_l_list, ↓DL.z_is_t_bool, ↓DL.z_is_t_int, ↓DL.z_is_t_str, ↓DL.z_is_t_tuple, ↓DL.z_is_t_list, ↓DL.z_is_n_bool, ↓DL.z_is_n_int, ↓DL.z_is_n_str, ↓DL.z_is_n_tuple, ↓DL.z_is_n_list, ↓DL.z_gslc, ↓DL.z_sc0, ↓DL.z_listO, ↓DL.z_lol, ↓DL.z_lot, ↓DL.z_fsum, ↓DL.z_own1, ↓DL.z_glen, ↓DL.z_gall, ↓DL.z_ixown, ↓DL.z_listG, ↓DL.z_ownit, ↓DL.z_fld, ↓DL.z_fz, ↓DL.z_fzs, ↓DL.z_xisi, ↓DL.z_xi, ↓DL.z_xval, ↓DL.z_xv, ↓DL.z_ixm, ↓DL.z_lm, ↓dTrim, ↓dLc, ↓dLcO, ↓dEnds, ↓z_gd1, ↓z_gd2, ↓z_gd3, ↓z_gdi, ↓z_gdo, slots, ↓reduceIte, decide_eq_true_eq, Bool.false_eq_true, Bool.not_true, Bool.not_false, decide_true, decide_false, Int.reduceEq, Int.reduceSub, Int.reduceAdd, Int.reduceLT, Int.reduceNeg, and_self, true_and, and_true]
      exact ⟨_, _, _, _, _, _, _, _, rfl, rfl⟩
  · rintro δ μ' ⟨a, b, c, d, i', a', b', c', rfl, rfl⟩
    exact hq _ _ _ _
theorem sc_law : FnScope ["script", "state", "pool", "start", "groups", "made", "middle", "joins", "handed", "first", "second", "third"] ["script"] (defScope (top 28)) := ⟨rfl, rfl, rfl, by decide +kernel, rfl, by decide +kernel, by decide +kernel⟩
theorem ok_law (fx : Fx K mg C Dd) (h_law_new : FDa P w K mg base C "_law_new" 1 1 [] (df_law_new)) (h_law_draw : FDa P w K mg base C "_law_draw" 1 2 [] (df_law_draw)) (h_law_word : FDa P w K mg base C "_law_word" 2 4 [] (df_law_word)) (h_law_groups : FDa P w K mg base C "_law_groups" 3 4 [] (df_law_groups)) (h_law_joins : FDa P w K mg base C "_law_joins" 2 4 [] (df_law_joins)) (h_mGrowth2 : KDa P w K mg base C "Growth" 0 4 2 [] df_Growth_init) (h_law_same : FDa P w K mg base C "_law_same" 4 2 [] (df_law_same 4)) (h_mGrowth1 : KDa P w K mg base C "Growth" 0 4 1 [.tup []] df_Growth_init) (h_law_tells : FDa P w K mg base C "_law_tells" 6 3 [] (df_law_tells)) (h_law_refuses : FDa P w K mg base C "_law_refuses" 7 3 [] (df_law_refuses)) (F : FunD K "law" "law" (defArgs (top 28)) (defBody (top 28)) (defScope (top 28)) [] [] fa fd) : FnOk P w K mg base (L2.CX P w) (7 + 1) fa fd ["script"] (spOf C K 1 (df_law)) := by
  refine okD (k := 7) F sc_law (fun cdv A outer s H E hr tk => (ss_cons (s_set 1 sc_law.nd (e_call 0 h_law_new (hr.mono (by decide)) tk (a_cons (e_var 0) a_nil))) (ss_cons (s_set 2 sc_law.nd (e_ix (e_lst (a_cons (e_str [97,98]) (a_cons (e_str [97,98,99,100,101,102,103,104,105,106,107,108,109,110,111,112,113,114,115,116,117,118,119,120,121,122]) a_nil))) (e_call 1 h_law_draw (hr.mono (by decide)) tk (a_cons (e_var 1) (a_cons e_int a_nil))))) (ss_cons (s_set 3 sc_law.nd (e_call 1 h_law_word (hr.mono (by decide)) tk (a_cons (e_var 1) (a_cons (e_var 2) (a_cons e_int (a_cons e_int a_nil)))))) (ss_cons (s_set 4 sc_law.nd (e_op o_add (e_lst (a_cons (e_call 1 h_law_word (hr.mono (by decide)) tk (a_cons (e_var 1) (a_cons (e_var 2) (a_cons e_int (a_cons e_int a_nil))))) a_nil)) (e_call 1 h_law_groups (hr.mono (by decide)) tk (a_cons (e_var 1) (a_cons (e_var 2) (a_cons e_int (a_cons e_int a_nil))))))) (ss_cons (s_set 5 sc_law.nd (e_call 1 h_law_joins (hr.mono (by decide)) tk (a_cons (e_var 1) (a_cons (e_var 3) (a_cons (e_var 4) (a_cons (e_if (t_cmp (o_eq (un64 hr)) (e_call 1 h_law_draw (hr.mono (by decide)) tk (a_cons (e_var 1) (a_cons e_int a_nil))) e_int) e_int e_int) a_nil)))))) (ss_cons (s_set 6 sc_law.nd (e_op o_fdiv (e_bi c_len fx.len (by decide +kernel) (a_cons (e_ix (e_var 5) e_int) a_nil)) e_int)) (ss_cons (s_set 7 sc_law.nd (e_op o_add (e_ix (e_var 5) e_int) (e_lst (a_cons (e_tup (a_cons (e_var 6) (a_cons (e_str [120,121,122]) a_nil))) (a_cons (e_tup (a_cons (e_op o_add (e_var 6) e_int) (a_cons (e_str [119]) a_nil))) (a_cons (e_tup (a_cons (e_op o_add (e_var 6) e_int) (a_cons (e_str [118]) a_nil))) a_nil)))))) (ss_cons (s_set 8 sc_law.nd (e_listO fx.list (a_cons (e_var 7) a_nil))) (ss_cons (s_set 9 sc_law.nd (e_lend 8 (e_make h_mGrowth2 (hr.mono (by decide)) tk (a_cons (e_var 3) (a_cons (e_var 8) a_nil))))) (ss_cons (s_if (t_not (t_val (e_lend 8 (e_call 0 h_law_same (hr.mono (by decide)) tk (a_cons (e_var 8) (a_cons (e_var 7) a_nil)))))) (ss_one (s_ret e_bl)) ss_nil) (ss_cons (s_expr (e_app 1 (e_var 8) (a_cons (e_tup (a_cons e_int (a_cons (e_str [113]) a_nil))) a_nil))) (ss_cons (s_asg (e_tup (a_cons e_int (a_cons (e_str [122,122]) a_nil))) (g_sub (W := noW) 1 (e_var 8) e_int)) (ss_cons (s_set 10 sc_law.nd (e_make h_mGrowth2 (hr.mono (by decide)) tk (a_cons (e_op o_add (e_var 3) (e_str [121])) (a_cons (e_bt c_list fx.list (by decide +kernel) (a_cons (e_ix (e_var 5) e_int) a_nil)) a_nil)))) (ss_cons (s_set 11 sc_law.nd (e_make h_mGrowth1 (hr.mono (by decide)) tk (a_cons (e_var 3) a_nil))) (ss_cons (s_if (DPW.t (w_or (t_not (t_val (e_call 0 h_law_tells (hr.mono (by decide)) tk (a_cons (e_var 9) (a_cons (e_var 3) (a_cons (e_var 7) a_nil)))))) (w_or1 (t_not (t_val (e_call 0 h_law_tells (hr.mono (by decide)) tk (a_cons (e_var 10) (a_cons (e_op o_add (e_var 3) (e_str [121])) (a_cons (e_ix (e_var 5) e_int) a_nil))))))))) (ss_one (s_ret e_bl)) ss_nil) (ss_cons (s_if (DPW.t (w_or (t_not (t_val (e_call 0 h_law_tells (hr.mono (by decide)) tk (a_cons (e_var 11) (a_cons (e_var 3) (a_cons (e_lst a_nil) a_nil)))))) (w_or1 (t_not (t_val (e_call 0 h_law_tells (hr.mono (by decide)) tk (a_cons (e_var 9) (a_cons (e_var 3) (a_cons (e_var 7) a_nil))))))))) (ss_one (s_ret e_bl)) ss_nil) (ss_cons (s_if (DPW.t (w_or (t_not (t_val (e_call 0 h_law_tells (hr.mono (by decide)) tk (a_cons (e_make h_mGrowth2 (hr.mono (by decide)) tk (a_cons (e_var 3) (a_cons (e_bt c_tuple fx.tuple (by decide +kernel) (a_cons (e_var 7) a_nil)) a_nil))) (a_cons (e_var 3) (a_cons (e_var 7) a_nil)))))) (w_or1 (t_not (t_val (e_call 0 h_law_tells (hr.mono (by decide)) tk (a_cons (e_make h_mGrowth2 (hr.mono (by decide)) tk (a_cons (e_str []) (a_cons (e_tup a_nil) a_nil))) (a_cons (e_str []) (a_cons (e_lst a_nil) a_nil))))))))) (ss_one (s_ret e_bl)) ss_nil) (ss_one (s_ret (e_and (e_call 1 h_law_refuses (hr.mono (by decide)) tk (a_cons (e_var 1) (a_cons (e_var 3) (a_cons (e_var 7) a_nil)))) (e_one (e_call 1 h_law_refuses (hr.mono (by decide)) tk (a_cons (e_var 1) (a_cons (e_str []) (a_cons (e_lst (a_cons (e_tup (a_cons e_int (a_cons (e_str [97,98]) a_nil))) (a_cons (e_tup (a_cons e_int (a_cons (e_str [99,100]) a_nil))) (a_cons (e_tup (a_cons e_int (a_cons (e_str [101]) a_nil))) a_nil)))) a_nil)))))))))))))))))))))))))) ?_
  intro ds μ Q R hl h
  obtain ⟨cells, rfl, rfl, hq⟩ := h
  simp only [List.map_cons, List.map_nil, List.length_cons, List.length_nil, Nat.reduceSub, Nat.reduceAdd, Nat.zero_add, Nat.sub_self, List.replicate, List.cons_append, List.nil_append, List.append_nil, List.set_cons_zero, List.set_cons_succ, List.take_succ_cons, List.take_zero, List.drop_zero, List.drop_succ_cons, List.drop_nil, List.take_nil, Nat.reduceLeDiff, ↓DL.z_var0, ↓DL.z_varS, ↓DL.z_name0, ↓DL.z_nameS, ↓DL.z_c, ↓DL.z_seq, ↓DL.z_next, ↓DL.z_if, ↓DL.z_asg, ↓DL.z_ret, ↓DL.z_drop, ↓DL.z_val, ↓DL.z_bl, ↓DL.z_and, ↓DL.z_or, ↓DL.z_not, ↓DL.z_bin, ↓DL.z_cb, ↓DL.z_nil, ↓DL.z_cons, ↓DL.z_i0, ↓DL.z_i, ↓DL.z_mul, ↓DL.z_add, ↓DL.z_lt, ↓DL.z_le, ↓DL.z_gt, ↓DL.z_ge, ↓DL.z_eq, ↓DL.z_ne, ↓DL.z_len, ↓DL.z_lens, ↓DL.z_int, ↓DL.z_intb, ↓DL.z_ixO, ↓DL.z_ix0, ↓DL.z_ix1, ↓DL.z_ix2, ↓DL.z_ix3, ↓DL.z_ix4, ↓DL.z_gsub, ↓DL.z_sub1, ↓DL.z_sub2, ↓DL.z_sub3, ↓DL.z_sub4, ↓DL.z_for, ↓DL.z_itA, ↓DL.z_any, ↓DL.z_itl, ↓DL.z_itt, ↓DL.z_its, ↓DL.z_lcg, ↓DL.z_yes, ↓DL.z_ifx, ↓DL.z_tup, ↓DL.z_lst, ↓DL.z_lstO, ↓DL.z_nop, ↓DL.z_part, ↓DL.z_pa, ↓DL.z_slx, ↓DL.z_sll, ↓DL.z_slt, ↓DL.z_sls, ↓DL.z_chain, ↓DL.z_ch, ↓DL.z_andv, ↓DL.z_orv, ↓DL.z_fnot, ↓DL.z_un, ↓DL.z_neg, ↓DL.z_call, ↓DL.z_prop, ↓DL.z_meth, ↓DL.z_make, ↓DL.z_obj, ↓DL.z_fl, ↓DL.z_flt, ↓DL.z_flf, ↓DL.z_ft, ↓DL.z_ftt, ↓DL.z_lent, ↓DL.z_adds, ↓DL.z_addl, ↓DL.z_addt, ↓DL.z_eqs, ↓DL.z_nes, ↓DL.z_eqb, ↓DL.z_eqn, ↓DL.z_eql, ↓DL.z_nel, ↓DL.z_isn, ↓DL.z_isnn, ↓DL.z_ins, ↓DL.z_nins, ↓DL.z_ixt, ↓DL.z_l0, ↓DL.z_l1, ↓DL.z_l2, ↓DL.z_rng, ↓DL.z_enl, ↓DL.z_ent, ↓DL.z_gtup, ↓DL.z_gcons, ↓DL.z_gnil, ↓DL.z_wipe0, ↓DL.z_wipe, ↓DL.z_mt, ↓DL.z_ty0, ↓DL.z_ty1, ↓DL.z_app0, ↓DL.z_app1, ↓DL.z_raise, ↓DL.z_ra, ↓DL.z_is_i_bool, ↓DL.z_is_i_int, ↓DL.z_is_i_str, ↓DL.z_is_i_tuple, ↓DL.z_is_i_list, ↓DL.z_is_b_bool, ↓DL.z_is_b_int, ↓DL.z_is_b_str, ↓DL.z_is_b_tuple, ↓DL.z_is_b_list, ↓DL.z_is_s_bool, ↓DL.z_is_s_int, ↓DL.z_is_s_str, ↓DL.z_is_s_tuple, ↓DL.z_is_s_list, ↓DL.z_is_l_bool, ↓DL.z_is_l_int, ↓DL.z_is_l_str, ↓DL.z_is_l_tuple, ↓DL.z_is_l_list, ↓DL.z_is_t_bool, ↓DL.z_is_t_int, ↓DL.z_is_t_str, ↓DL.z_is_t_tuple, ↓DL.z_is_t_list, ↓DL.z_is_n_bool, ↓DL.z_is_n_int, ↓DL.z_is_n_str, ↓DL.z_is_n_tuple, ↓DL.z_is_n_list, ↓DL.z_gslc, ↓DL.z_sc0, ↓DL.z_listO, ↓DL.z_lol, ↓DL.z_lot, ↓DL.z_fsum, ↓DL.z_own1, ↓DL.z_glen, ↓DL.z_gall, ↓DL.z_ixown, ↓DL.z_listG, ↓DL.z_ownit, ↓DL.z_fld, ↓DL.z_fz, ↓DL.z_fzs, ↓DL.z_xisi, ↓DL.z_xi, ↓DL.z_xval, ↓DL.z_xv, ↓DL.z_ixm, ↓DL.z_lm, ↓dTrim, ↓dLc, ↓dLcO, ↓dEnds, ↓z_gd1, ↓z_gd2, ↓z_gd3, ↓z_gdi, ↓z_gdo, slots, ↓reduceIte, decide_eq_true_eq, Bool.false_eq_true, Bool.not_true, Bool.not_false, decide_true, decide_false, Int.reduceEq, Int.reduceSub, Int.reduceAdd, Int.reduceLT, Int.reduceNeg, and_self, true_and, and_true]
  refine ⟨cells, rfl, fun p => ?_⟩
  simp only [List.map_cons, List.map_nil, List.length_cons, List.length_nil, Nat.reduceSub, Nat.reduceAdd, Nat.zero_add, Nat.sub_self, List.replicate, List.cons_append, List.nil_append, List.append_nil, List.set_cons_zero, List.set_cons_succ, List.take_succ_cons, List.take_zero, List.drop_zero, List.drop_succ_cons, List.drop_nil, List.take_nil, Nat.reduceLeDiff, ↓DL.z_var0, ↓DL.z_varS, ↓DL.z_name0, ↓DL.z_nameS, ↓DL.z_c, ↓DL.z_seq, ↓DL.z_next, ↓DL.z_if, ↓DL.z_asg, ↓DL.z_ret, ↓DL.z_drop, ↓DL.z_val, ↓DL.z_bl, ↓DL.z_and, ↓DL.z_or, ↓DL.z_not, ↓DL.z_bin, ↓DL.z_cb, ↓DL.z_nil, ↓DL.z_cons, ↓DL.z_i0, ↓DL.z_i, ↓DL.z_mul, ↓DL.z_add, ↓DL.z_lt, ↓DL.z_le, ↓DL.z_gt, ↓DL.z_ge, ↓DL.z_eq, ↓DL.z_ne, ↓DL.z_len, ↓DL.z_lens, ↓DL.z_int, ↓DL.z_intb, ↓DL.z_ixO, ↓DL.z_ix0, ↓DL.z_ix1, ↓DL.z_ix2, ↓DL.z_ix3, ↓DL.z_ix4, ↓DL.z_gsub, ↓DL.z_sub1, ↓DL.z_sub2, ↓DL.z_sub3, ↓DL.z_sub4, ↓DL.z_for, ↓DL.z_itA, ↓DL.z_any, ↓DL.z_itl, ↓DL.z_itt, ↓DL.z_its, ↓DL.z_lcg, ↓DL.z_yes, ↓DL.z_ifx, ↓DL.z_tup, ↓DL.z_lst, ↓DL.z_lstO, ↓DL.z_nop, ↓DL.z_part, ↓DL.z_pa, ↓DL.z_slx, ↓DL.z_sll, ↓DL.z_slt, ↓DL.z_sls, ↓DL.z_chain, ↓DL.z_ch, ↓DL.z_andv, ↓DL.z_orv, ↓DL.z_fnot, ↓DL.z_un, ↓DL.z_neg, ↓DL.z_call, ↓DL.z_prop, ↓DL.z_meth, ↓DL.z_make, ↓DL.z_obj, ↓DL.z_fl, ↓DL.z_flt, ↓DL.z_flf, ↓DL.z_ft, ↓DL.z_ftt, ↓DL.z_lent, ↓DL.z_adds, ↓DL.z_addl, ↓DL.z_addt, ↓DL.z_eqs, ↓DL.z_nes, ↓DL.z_eqb, ↓DL.z_eqn, ↓DL.z_eql, ↓DL.z_nel, ↓DL.z_isn, ↓DL.z_isnn, ↓DL.z_ins, ↓DL.z_nins, ↓DL.z_ixt, ↓DL.z_l0, ↓DL.z_l1, ↓DL.z_l2, ↓DL.z_rng, ↓DL.z_enl, ↓DL.z_ent, ↓DL.z_gtup, ↓DL.z_gcons, ↓DL.z_gnil, ↓DL.z_wipe0, ↓DL.z_wipe, ↓DL.z_mt, ↓DL.z_ty0, ↓DL.z_ty1, ↓DL.z_app0, ↓DL.z_app1, ↓DL.z_raise, ↓DL.z_ra, ↓DL.z_is_i_bool, ↓DL.z_is_i_int, ↓DL.z_is_i_str, ↓DL.z_is_i_tuple, ↓DL.z_is_i_list, ↓DL.z_is_b_bool, ↓DL.z_is_b_int, ↓DL.z_is_b_str, ↓DL.z_is_b_tuple, ↓DL.z_is_b_list, ↓DL.z_is_s_bool, ↓DL.z_is_s_int, ↓DL.z_is_s_str, ↓DL.z_is_s_tuple, ↓DL.z_is_s_list, ↓DL.z_is_l_bool, ↓DL.z_is_l_int, ↓DL.z_is_l_str, ↓DL.z_is_l_tuple, ↓DL.z_is_l_list, ↓DL.z_is_t_bool, ↓DL.z_is_t_int, ↓DL.z_is_t_str, ↓DL.z_is_t_tuple, ↓DL.z_is_t_list, ↓DL.z_is_n_bool, ↓DL.z_is_n_int, ↓DL.z_is_n_str, ↓DL.z_is_n_tuple, ↓DL.z_is_n_list, ↓DL.z_gslc, ↓DL.z_sc0, ↓DL.z_listO, ↓DL.z_lol, ↓DL.z_lot, ↓DL.z_fsum, ↓DL.z_own1, ↓DL.z_glen, ↓DL.z_gall, ↓DL.z_ixown, ↓DL.z_listG, ↓DL.z_ownit, ↓DL.z_fld, ↓DL.z_fz, ↓DL.z_fzs, ↓DL.z_xisi, ↓DL.z_xi, ↓DL.z_xval, ↓DL.z_xv, ↓DL.z_ixm, ↓DL.z_lm, ↓dTrim, ↓dLc, ↓dLcO, ↓dEnds, ↓z_gd1, ↓z_gd2, ↓z_gd3, ↓z_gdi, ↓z_gdo, slots, ↓reduceIte, decide_eq_true_eq, Bool.false_eq_true, Bool.not_true, Bool.not_false, decide_true, decide_false, Int.reduceEq, Int.reduceSub, Int.reduceAdd, Int.reduceLT, Int.reduceNeg, and_self, true_and, and_true]
  refine ⟨p, cells, _, _, _, _, _, rfl, rfl, by decide, log9 (by decide +kernel), fun r i' a' b' c' r0 r1 => ?_⟩
  obtain ⟨P, hP, hPL, hP1⟩ : ∃ P : SS, (∀ F, fIx (D.lst [D.str [97, 98], D.str [97, 98, 99, 100, 101, 102, 103, 104, 105, 106, 107, 108, 109, 110, 111, 112, 113, 114, 115, 116, 117, 118, 119, 120, 121, 122]]) (.int r) F = F (.str P)) ∧ (∀ x ∈ P, x ∈ LET) ∧ 1 ≤ P.length ∧ P.length ≤ 1000 := by
    by_cases h : r = 0
    · subst h; exact ⟨_, fun F => z_l0, by decide, by decide, by decide⟩
    · have : r = 1 := by omega
      subst this; exact ⟨_, fun F => z_l1, by decide, by decide, by decide⟩
  simp only [List.map_cons, List.map_nil, List.length_cons, List.length_nil, Nat.reduceSub, Nat.reduceAdd, Nat.zero_add, Nat.sub_self, List.replicate, List.cons_append, List.nil_append, List.append_nil, List.set_cons_zero, List.set_cons_succ, List.take_succ_cons, List.take_zero, List.drop_zero, List.drop_succ_cons, List.drop_nil, List.take_nil, Nat.reduceLeDiff, ↓DL.z_var0, ↓DL.z_varS, ↓DL.z_name0, ↓DL.z_nameS, ↓DL.z_c, ↓DL.z_seq, ↓DL.z_next, ↓DL.z_if, ↓DL.z_asg, ↓DL.z_ret, ↓DL.z_drop, ↓DL.z_val, ↓DL.z_bl, ↓DL.z_and, ↓DL.z_or, ↓DL.z_not, ↓DL.z_bin, ↓DL.z_cb, ↓DL.z_nil, ↓DL.z_cons, ↓DL.z_i0, ↓DL.z_i, ↓DL.z_mul, ↓DL.z_add, ↓DL.z_lt, ↓DL.z_le, ↓DL.z_gt, ↓DL.z_ge, ↓DL.z_eq, ↓DL.z_ne, ↓DL.z_len, ↓DL.z_lens, ↓DL.z_int, ↓DL.z_intb, ↓DL.z_ixO, ↓DL.z_ix0, ↓DL.z_ix1, ↓DL.z_ix2, ↓DL.z_ix3, ↓DL.z_ix4, ↓DL.z_gsub, ↓DL.z_sub1, ↓DL.z_sub2, ↓DL.z_sub3, ↓DL.z_sub4, ↓DL.z_for, ↓DL.z_itA, ↓DL.z_any, ↓DL.z_itl, ↓DL.z_itt, ↓DL.z_its, ↓DL.z_lcg, ↓DL.z_yes, ↓DL.z_ifx, ↓DL.z_tup, ↓DL.z_lst, ↓DL.z_lstO, ↓DL.z_nop, ↓DL.z_part, ↓DL.z_pa, ↓DL.z_slx, ↓DL.z_sll, ↓DL.z_slt, ↓DL.z_sls, ↓DL.z_chain, ↓DL.z_ch, ↓DL.z_andv, ↓DL.z_orv, ↓DL.z_fnot, ↓DL.z_un, ↓DL.z_neg, ↓DL.z_call, ↓DL.z_prop, ↓DL.z_meth, ↓DL.z_make, ↓DL.z_obj, ↓DL.z_fl, ↓DL.z_flt, ↓DL.z_flf, ↓DL.z_ft, ↓DL.z_ftt, ↓DL.z_lent, ↓DL.z_adds, ↓DL.z_addl, ↓DL.z_addt, ↓DL.z_eqs, ↓DL.z_nes, ↓DL.z_eqb, ↓DL.z_eqn, ↓DL.z_eql, ↓DL.z_nel, ↓DL.z_isn, ↓DL.z_isnn, ↓DL.z_ins, ↓DL.z_nins, ↓DL.z_ixt, ↓DL.z_l0, ↓DL.z_l1, ↓DL.z_l2, ↓DL.z_rng, ↓DL.z_enl, ↓DL.z_ent, ↓DL.z_gtup, ↓DL.z_gcons, ↓DL.z_gnil, ↓DL.z_wipe0, ↓DL.z_wipe, ↓DL.z_mt, ↓DL.z_ty0, ↓DL.z_ty1, ↓DL.z_app0, ↓DL.z_app1, ↓DL.z_raise, ↓DL.z_ra, ↓DL.z_is_i_bool, ↓DL.z_is_i_int, ↓DL.z_is_i_str, ↓DL.z_is_i_tuple, ↓DL.z_is_i_list, ↓DL.z_is_b_bool, ↓DL.z_is_b_int, ↓DL.z_is_b_str, ↓DL.z_is_b_tuple, ↓DL.z_is_b_list, ↓DL.z_is_s_bool, ↓DL.z_is_s_int, ↓DL.z_is_s_str, ↓DL.z_is_s_tuple, ↓DL.z_is_s_list, ↓DL.z_is_l_bool, ↓DL.z_is_l_int, ↓DL.z_is_l_str, ↓DL.z_is_l_tuple, ↓DL.z_is_l_list, ↓DL.z_is_t_bool, ↓DL.z_is_t_int, ↓DL.z_is_t_str, ↓DL.z_is_t_tuple, ↓DL.z_is_t_list, ↓DL.z_is_n_bool, ↓DL.z_is_n_int, ↓DL.z_is_n_str, ↓DL.z_is_n_tuple, ↓DL.z_is_n_list, ↓DL.z_gslc, ↓DL.z_sc0, ↓DL.z_listO, ↓DL.z_lol, ↓DL.z_lot, ↓DL.z_fsum, ↓DL.z_own1, ↓DL.z_glen, ↓DL.z_gall, ↓DL.z_ixown, ↓DL.z_listG, ↓DL.z_ownit, ↓DL.z_fld, ↓DL.z_fz, ↓DL.z_fzs, ↓DL.z_xisi, ↓DL.z_xi, ↓DL.z_xval, ↓DL.z_xv, ↓DL.z_ixm, ↓DL.z_lm, ↓dTrim, ↓dLc, ↓dLcO, ↓dEnds, ↓z_gd1, ↓z_gd2, ↓z_gd3, ↓z_gdi, ↓z_gdo, slots, ↓reduceIte, decide_eq_true_eq, Bool.false_eq_true, Bool.not_true, Bool.not_false, decide_true, decide_false, Int.reduceEq, Int.reduceSub, Int.reduceAdd, Int.reduceLT, Int.reduceNeg, and_self, true_and, and_true, ↓hP]
  refine ⟨p, cells, _, _, _, _, P, 0, 6, rfl, rfl, hP1.1, hP1.2, by omega, by omega, fun s i' a' b' c' s0 s1 s2 => ?_⟩
  simp only [List.map_cons, List.map_nil, List.length_cons, List.length_nil, Nat.reduceSub, Nat.reduceAdd, Nat.zero_add, Nat.sub_self, List.replicate, List.cons_append, List.nil_append, List.append_nil, List.set_cons_zero, List.set_cons_succ, List.take_succ_cons, List.take_zero, List.drop_zero, List.drop_succ_cons, List.drop_nil, List.take_nil, Nat.reduceLeDiff, ↓DL.z_var0, ↓DL.z_varS, ↓DL.z_name0, ↓DL.z_nameS, ↓DL.z_c, ↓DL.z_seq, ↓DL.z_next, ↓DL.z_if, ↓DL.z_asg, ↓DL.z_ret, ↓DL.z_drop, ↓DL.z_val, ↓DL.z_bl, ↓DL.z_and, ↓DL.z_or, ↓DL.z_not, ↓DL.z_bin, ↓DL.z_cb, ↓DL.z_nil, ↓DL.z_cons, ↓DL.z_i0, ↓DL.z_i, ↓DL.z_mul, ↓DL.z_add, ↓DL.z_lt, ↓DL.z_le, ↓DL.z_gt, ↓DL.z_ge, ↓DL.z_eq, ↓DL.z_ne, ↓DL.z_len, ↓DL.z_lens, ↓DL.z_int, ↓DL.z_intb, ↓DL.z_ixO, ↓DL.z_ix0, ↓DL.z_ix1, ↓DL.z_ix2, ↓DL.z_ix3, ↓DL.z_ix4, ↓DL.z_gsub, ↓DL.z_sub1, ↓DL.z_sub2, ↓DL.z_sub3, ↓DL.z_sub4, ↓DL.z_for, ↓DL.z_itA, ↓DL.z_any, ↓DL.z_itl, ↓DL.z_itt, ↓DL.z_its, ↓DL.z_lcg, ↓DL.z_yes, ↓DL.z_ifx, ↓DL.z_tup, ↓DL.z_lst, ↓DL.z_lstO, ↓DL.z_nop, ↓DL.z_part, ↓DL.z_pa, ↓DL.z_slx, ↓DL.z_sll, ↓DL.z_slt, ↓DL.z_sls, ↓DL.z_chain, ↓DL.z_ch, ↓DL.z_andv, ↓DL.z_orv, ↓DL.z_fnot, ↓DL.z_un, ↓DL.z_neg, ↓DL.z_call, ↓DL.z_prop, ↓DL.z_meth, ↓DL.z_make, ↓DL.z_obj, ↓DL.z_fl, ↓DL.z_flt, ↓DL.z_flf, ↓DL.z_ft, ↓DL.z_ftt, ↓DL.z_lent, ↓DL.z_adds, ↓DL.z_addl, ↓DL.z_addt, ↓DL.z_eqs, ↓DL.z_nes, ↓DL.z_eqb, ↓DL.z_eqn, ↓DL.z_eql, ↓DL.z_nel, ↓DL.z_isn, ↓DL.z_isnn, ↓DL.z_ins, ↓DL.z_nins, ↓DL.z_ixt, ↓DL.z_l0, ↓DL.z_l1, ↓DL.z_l2, ↓DL.z_rng, ↓DL.z_enl, ↓DL.z_ent, ↓DL.z_gtup, ↓DL.z_gcons, ↓DL.z_gnil, ↓DL.z_wipe0, ↓DL.z_wipe, ↓DL.z_mt, ↓DL.z_ty0, ↓DL.z_ty1, ↓DL.z_app0, ↓DL.z_app1, ↓DL.z_raise, ↓DL.z_ra, ↓DL.z_is_i_bool, ↓DL.z_is_i_int, ↓DL.z_is_i_str, ↓DL.z_is_i_tuple, ↓DL.z_is_i_list, ↓DL.z_is_b_bool, ↓DL.z_is_b_int, ↓DL.z_is_b_str, ↓DL.z_is_b_tuple, ↓DL.z_is_b_list, ↓DL.z_is_s_bool, ↓DL.z_is_s_int, ↓DL.z_is_s_str, ↓DL.z_is_s_tuple, ↓DL.z_is_s_list, ↓DL.z_is_l_bool, ↓DL.z_is_l_int, ↓DL.z_is_l_str, ↓DL.z_is_l_tuple, ↓DL.z_is_l_list, ↓DL.z_is_t_bool, ↓DL.z_is_t_int, ↓DL.z_is_t_str, ↓DL.z_is_t_tuple, ↓DL.z_is_t_list, ↓DL.z_is_n_bool, ↓DL.z_is_n_int, ↓DL.z_is_n_str, ↓DL.z_is_n_tuple, ↓DL.z_is_n_list, ↓DL.z_gslc, ↓DL.z_sc0, ↓DL.z_listO, ↓DL.z_lol, ↓DL.z_lot, ↓DL.z_fsum, ↓DL.z_own1, ↓DL.z_glen, ↓DL.z_gall, ↓DL.z_ixown, ↓DL.z_listG, ↓DL.z_ownit, ↓DL.z_fld, ↓DL.z_fz, ↓DL.z_fzs, ↓DL.z_xisi, ↓DL.z_xi, ↓DL.z_xval, ↓DL.z_xv, ↓DL.z_ixm, ↓DL.z_lm, ↓dTrim, ↓dLc, ↓dLcO, ↓dEnds, ↓z_gd1, ↓z_gd2, ↓z_gd3, ↓z_gdi, ↓z_gdo, slots, ↓reduceIte, decide_eq_true_eq, Bool.false_eq_true, Bool.not_true, Bool.not_false, decide_true, decide_false, Int.reduceEq, Int.reduceSub, Int.reduceAdd, Int.reduceLT, Int.reduceNeg, and_self, true_and, and_true]
  refine ⟨p, cells, _, _, _, _, P, 1, 4, rfl, rfl, hP1.1, hP1.2, by omega, by omega, fun g0 i' a' b' c' g1 g2 g3 => ?_⟩
  simp only [List.map_cons, List.map_nil, List.length_cons, List.length_nil, Nat.reduceSub, Nat.reduceAdd, Nat.zero_add, Nat.sub_self, List.replicate, List.cons_append, List.nil_append, List.append_nil, List.set_cons_zero, List.set_cons_succ, List.take_succ_cons, List.take_zero, List.drop_zero, List.drop_succ_cons, List.drop_nil, List.take_nil, Nat.reduceLeDiff, ↓DL.z_var0, ↓DL.z_varS, ↓DL.z_name0, ↓DL.z_nameS, ↓DL.z_c, ↓DL.z_seq, ↓DL.z_next, ↓DL.z_if, ↓DL.z_asg, ↓DL.z_ret, ↓DL.z_drop, ↓DL.z_val, ↓DL.z_bl, ↓DL.z_and, ↓DL.z_or, ↓DL.z_not, ↓DL.z_bin, ↓DL.z_cb, ↓DL.z_nil, ↓DL.z_cons, ↓DL.z_i0, ↓DL.z_i, ↓DL.z_mul, ↓DL.z_add, ↓DL.z_lt, ↓DL.z_le, ↓DL.z_gt, ↓DL.z_ge, ↓DL.z_eq, ↓DL.z_ne, ↓DL.z_len, ↓DL.z_lens, ↓DL.z_int, ↓DL.z_intb, ↓DL.z_ixO, ↓DL.z_ix0, ↓DL.z_ix1, ↓DL.z_ix2, ↓DL.z_ix3, ↓DL.z_ix4, ↓DL.z_gsub, ↓DL.z_sub1, ↓DL.z_sub2, ↓DL.z_sub3, ↓DL.z_sub4, ↓DL.z_for, ↓DL.z_itA, ↓DL.z_any, ↓DL.z_itl, ↓DL.z_itt, ↓DL.z_its, ↓DL.z_lcg, ↓DL.z_yes, ↓DL.z_ifx, ↓DL.z_tup, ↓DL.z_lst, ↓DL.z_lstO, ↓DL.z_nop, ↓DL.z_part, ↓DL.z_pa, ↓DL.z_slx, ↓DL.z_sll, ↓DL.z_slt, ↓DL.z_sls, ↓DL.z_chain, ↓DL.z_ch, ↓DL.z_andv, ↓DL.z_orv, ↓DL.z_fnot, ↓DL.z_un, ↓DL.z_neg, ↓DL.z_call, ↓DL.z_prop, ↓DL.z_meth, ↓DL.z_make, ↓DL.z_obj, ↓DL.z_fl, ↓DL.z_flt, ↓DL.z_flf, ↓DL.z_ft, ↓DL.z_ftt, ↓DL.z_lent, ↓DL.z_adds, ↓DL.z_addl, ↓DL.z_addt, ↓DL.z_eqs, ↓DL.z_nes, ↓DL.z_eqb, ↓DL.z_eqn, ↓DL.z_eql, ↓DL.z_nel, ↓DL.z_isn, ↓DL.z_isnn, ↓DL.z_ins, ↓DL.z_nins, ↓DL.z_ixt, ↓DL.z_l0, ↓DL.z_l1, ↓DL.z_l2, ↓DL.z_rng, ↓DL.z_enl, ↓DL.z_ent, ↓DL.z_gtup, ↓DL.z_gcons, ↓DL.z_gnil, ↓DL.z_wipe0, ↓DL.z_wipe, ↓DL.z_mt, ↓DL.z_ty0, ↓DL.z_ty1, ↓DL.z_app0, ↓DL.z_app1, ↓DL.z_raise, ↓DL.z_ra, ↓DL.z_is_i_bool, ↓DL.z_is_i_int, ↓DL.z_is_i_str, ↓DL.z_is_i_tuple, ↓DL.z_is_i_list, ↓DL.z_is_b_bool, ↓DL.z_is_b_int, ↓DL.z_is_b_str, ↓DL.z_is_b_tuple, ↓DL.z_is_b_list, ↓DL.z_is_s_bool, ↓DL.z_is_s_int, ↓DL.z_is_s_str, ↓DL.z_is_s_tuple, ↓DL.z_is_s_list, ↓DL.z_is_l_bool, ↓DL.z_is_l_int, ↓DL.z_is_l_str, ↓DL.z_is_l_tuple, ↓DL.z_is_l_list, ↓DL.z_is_t_bool, ↓DL.z_is_t_int, ↓DL.z_is_t_str, ↓DL.z_is_t_tuple, ↓DL.z_is_t_list, ↓DL.z_is_n_bool, ↓DL.z_is_n_int, ↓DL.z_is_n_str, ↓DL.z_is_n_tuple, ↓DL.z_is_n_list, ↓DL.z_gslc, ↓DL.z_sc0, ↓DL.z_listO, ↓DL.z_lol, ↓DL.z_lot, ↓DL.z_fsum, ↓DL.z_own1, ↓DL.z_glen, ↓DL.z_gall, ↓DL.z_ixown, ↓DL.z_listG, ↓DL.z_ownit, ↓DL.z_fld, ↓DL.z_fz, ↓DL.z_fzs, ↓DL.z_xisi, ↓DL.z_xi, ↓DL.z_xval, ↓DL.z_xv, ↓DL.z_ixm, ↓DL.z_lm, ↓dTrim, ↓dLc, ↓dLcO, ↓dEnds, ↓z_gd1, ↓z_gd2, ↓z_gd3, ↓z_gdi, ↓z_gdo, slots, ↓reduceIte, decide_eq_true_eq, Bool.false_eq_true, Bool.not_true, Bool.not_false, decide_true, decide_false, Int.reduceEq, Int.reduceSub, Int.reduceAdd, Int.reduceLT, Int.reduceNeg, and_self, true_and, and_true]
  refine ⟨p, cells, _, _, _, _, P, 4, 6, rfl, rfl, hP1.1, hP1.2, by omega, by omega, by omega, fun gs i' a' b' c' w0 w1 => ?_⟩
  simp only [List.map_cons, List.map_nil, List.length_cons, List.length_nil, Nat.reduceSub, Nat.reduceAdd, Nat.zero_add, Nat.sub_self, List.replicate, List.cons_append, List.nil_append, List.append_nil, List.set_cons_zero, List.set_cons_succ, List.take_succ_cons, List.take_zero, List.drop_zero, List.drop_succ_cons, List.drop_nil, List.take_nil, Nat.reduceLeDiff, ↓DL.z_var0, ↓DL.z_varS, ↓DL.z_name0, ↓DL.z_nameS, ↓DL.z_c, ↓DL.z_seq, ↓DL.z_next, ↓DL.z_if, ↓DL.z_asg, ↓DL.z_ret, ↓DL.z_drop, ↓DL.z_val, ↓DL.z_bl, ↓DL.z_and, ↓DL.z_or, ↓DL.z_not, ↓DL.z_bin, ↓DL.z_cb, ↓DL.z_nil, ↓DL.z_cons, ↓DL.z_i0, ↓DL.z_i, ↓DL.z_mul, ↓DL.z_add, ↓DL.z_lt, ↓DL.z_le, ↓DL.z_gt, ↓DL.z_ge, ↓DL.z_eq, ↓DL.z_ne, ↓DL.z_len, ↓DL.z_lens, ↓DL.z_int, ↓DL.z_intb, ↓DL.z_ixO, ↓DL.z_ix0, ↓DL.z_ix1, ↓DL.z_ix2, ↓DL.z_ix3, ↓DL.z_ix4, ↓DL.z_gsub, ↓DL.z_sub1, ↓DL.z_sub2, ↓DL.z_sub3, ↓DL.z_sub4, ↓DL.z_for, ↓DL.z_itA, ↓DL.z_any, ↓DL.z_itl, ↓DL.z_itt, ↓DL.z_its, ↓DL.z_lcg, ↓DL.z_yes, ↓DL.z_ifx, ↓DL.z_tup, ↓DL.z_lst, ↓DL.z_lstO, ↓DL.z_nop, ↓DL.z_part, ↓DL.z_pa, ↓DL.z_slx, ↓DL.z_sll, ↓DL.z_slt, ↓DL.z_sls, ↓DL.z_chain, ↓DL.z_ch, ↓DL.z_andv, ↓DL.z_orv, ↓DL.z_fnot, ↓DL.z_un, ↓DL.z_neg, ↓DL.z_call, ↓DL.z_prop, ↓DL.z_meth, ↓DL.z_make, ↓DL.z_obj, ↓DL.z_fl, ↓DL.z_flt, ↓DL.z_flf, ↓DL.z_ft, ↓DL.z_ftt, ↓DL.z_lent, ↓DL.z_adds, ↓DL.z_addl, ↓DL.z_addt, ↓DL.z_eqs, ↓DL.z_nes, ↓DL.z_eqb, ↓DL.z_eqn, ↓DL.z_eql, ↓DL.z_nel, ↓DL.z_isn, ↓DL.z_isnn, ↓DL.z_ins, ↓DL.z_nins, ↓DL.z_ixt, ↓DL.z_l0, ↓DL.z_l1, ↓DL.z_l2, ↓DL.z_rng, ↓DL.z_enl, ↓DL.z_ent, ↓DL.z_gtup, ↓DL.z_gcons, ↓DL.z_gnil, ↓DL.z_wipe0, ↓DL.z_wipe, ↓DL.z_mt, ↓DL.z_ty0, ↓DL.z_ty1, ↓DL.z_app0, ↓DL.z_app1, ↓DL.z_raise, ↓DL.z_ra, ↓DL.z_is_i_bool, ↓DL.z_is_i_int, ↓DL.z_is_i_str, ↓DL.z_is_i_tuple, ↓DL.z_is_i_list, ↓DL.z_is_b_bool, ↓DL.z_is_b_int, ↓DL.z_is_b_str, ↓DL.z_is_b_tuple, ↓DL.z_is_b_list, ↓DL.z_is_s_bool, ↓DL.z_is_s_int, ↓DL.z_is_s_str, ↓DL.z_is_s_tuple, ↓DL.z_is_s_list, ↓DL.z_is_l_bool, ↓DL.z_is_l_int, ↓DL.z_is_l_str, ↓DL.z_is_l_tuple, ↓DL.z_is_l_list, ↓DL.z_is_t_bool, ↓DL.z_is_t_int, ↓DL.z_is_t_str, ↓DL.z_is_t_tuple, ↓DL.z_is_t_list, ↓DL.z_is_n_bool, ↓DL.z_is_n_int, ↓DL.z_is_n_str, ↓DL.z_is_n_tuple, ↓DL.z_is_n_list, ↓DL.z_gslc, ↓DL.z_sc0, ↓DL.z_listO, ↓DL.z_lol, ↓DL.z_lot, ↓DL.z_fsum, ↓DL.z_own1, ↓DL.z_glen, ↓DL.z_gall, ↓DL.z_ixown, ↓DL.z_listG, ↓DL.z_ownit, ↓DL.z_fld, ↓DL.z_fz, ↓DL.z_fzs, ↓DL.z_xisi, ↓DL.z_xi, ↓DL.z_xval, ↓DL.z_xv, ↓DL.z_ixm, ↓DL.z_lm, ↓dTrim, ↓dLc, ↓dLcO, ↓dEnds, ↓z_gd1, ↓z_gd2, ↓z_gd3, ↓z_gdi, ↓z_gdo, slots, ↓reduceIte, decide_eq_true_eq, Bool.false_eq_true, Bool.not_true, Bool.not_false, decide_true, decide_false, Int.reduceEq, Int.reduceSub, Int.reduceAdd, Int.reduceLT, Int.reduceNeg, and_self, true_and, and_true]
  have hws : wordsOf LET 1 6 (g0 :: gs) := by
    intro w hw
    rcases List.mem_cons.mp hw with rfl | hw
    · exact ⟨fun x hx => hPL x (g1 x hx), by omega, by omega⟩
    · exact ⟨fun x hx => hPL x ((w0 w hw).1 x hx), (w0 w hw).2.1, (w0 w hw).2.2⟩
  refine ⟨by simp; omega, p, cells, _, _, _, _, _, rfl, rfl, by decide, log9 (by decide +kernel), fun r2 i' a' b' c' r20 r21 => ?_⟩
  by_cases hr2 : r2 = 1
  all_goals
    simp only [List.map_cons, List.map_nil, List.length_cons, List.length_nil, Nat.reduceSub, Nat.reduceAdd, Nat.zero_add, Nat.sub_self, List.replicate, List.cons_append, List.nil_append, List.append_nil, List.set_cons_zero, List.set_cons_succ, List.take_succ_cons, List.take_zero, List.drop_zero, List.drop_succ_cons, List.drop_nil, List.take_nil, Nat.reduceLeDiff, ↓DL.z_var0, ↓DL.z_varS, ↓DL.z_name0, ↓DL.z_nameS, ↓DL.z_c, ↓DL.z_seq, ↓DL.z_next, ↓DL.z_if, ↓DL.z_asg, ↓DL.z_ret, ↓DL.z_drop, ↓DL.z_val, ↓DL.z_bl, ↓DL.z_and, ↓DL.z_or, ↓DL.z_not, ↓DL.z_bin, ↓DL.z_cb, ↓DL.z_nil, ↓DL.z_cons, ↓DL.z_i0, ↓DL.z_i, ↓DL.z_mul, ↓DL.z_add, ↓DL.z_lt, ↓DL.z_le, ↓DL.z_gt, ↓DL.z_ge, ↓DL.z_eq, ↓DL.z_ne, ↓DL.z_len, ↓DL.z_lens, ↓DL.z_int, ↓DL.z_intb, ↓DL.z_ixO, ↓DL.z_ix0, ↓DL.z_ix1, ↓DL.z_ix2, ↓DL.z_ix3, ↓DL.z_ix4, ↓DL.z_gsub, ↓DL.z_sub1, ↓DL.z_sub2, ↓DL.z_sub3, ↓DL.z_sub4, ↓DL.z_for, ↓DL.z_itA, ↓DL.z_any, ↓DL.z_itl, ↓DL.z_itt, ↓DL.z_its, ↓DL.z_lcg, ↓DL.z_yes, ↓DL.z_ifx, ↓DL.z_tup, ↓DL.z_lst, ↓DL.z_lstO, ↓DL.z_nop, ↓DL.z_part, ↓DL.z_pa, ↓DL.z_slx, ↓DL.z_sll, ↓DL.z_slt, ↓DL.z_sls, ↓DL.z_chain, ↓DL.z_ch, ↓DL.z_andv, ↓DL.z_orv, ↓DL.z_fnot, ↓DL.z_un, ↓DL.z_neg, ↓DL.z_call, ↓DL.z_prop, ↓DL.z_meth, ↓DL.z_make, ↓DL.z_obj, ↓DL.z_fl, ↓DL.z_flt, ↓DL.z_flf, ↓DL.z_ft, ↓DL.z_ftt, ↓DL.z_lent, ↓DL.z_adds, ↓DL.z_addl, ↓DL.z_addt, ↓DL.z_eqs, ↓DL.z_nes, ↓DL.z_eqb, ↓DL.z_eqn, ↓DL.z_eql, ↓DL.z_nel, ↓DL.z_isn, ↓DL.z_isnn, ↓DL.z_ins, ↓DL.z_nins, ↓DL.z_ixt, ↓DL.z_l0, ↓DL.z_l1, ↓DL.z_l2, ↓DL.z_rng, ↓DL.z_enl, ↓DL.z_ent, ↓DL.z_gtup, ↓DL.z_gcons, ↓DL.z_gnil, ↓DL.z_wipe0, ↓DL.z_wipe, ↓DL.z_mt, ↓DL.z_ty0, ↓DL.z_ty1, ↓DL.z_app0, ↓DL.z_app1, ↓DL.z_raise, ↓DL.z_ra, ↓DL.z_is_i_bool, ↓DL.z_is_i_int, ↓DL.z_is_i_str, ↓DL.z_is_i_tuple, ↓DL.z_is_i_list, ↓DL.z_is_b_bool, ↓DL.z_is_b_int, ↓DL.z_is_b_str, ↓DL.z_is_b_tuple, ↓DL.z_is_b_list, ↓DL.z_is_s_bool, ↓DL.z_is_s_int, ↓DL.z_is_s_str, ↓DL.z_is_s_tuple, ↓DL.z_is_s_list, ↓DL.z_is_l_bool, ↓DL.z_is_l_int, ↓DL.z_is_l_str, ↓DL.z_is_l_tuple, ↓DL.z_is_l_list, ↓DL.z_is_t_bool, ↓DL.z_is_t_int, ↓DL.z_is_t_str, ↓DL.z_is_t_tuple, ↓DL.z_is_t_list, ↓DL.z_is_n_bool, ↓DL.z_is_n_int, ↓DL.z_is_n_str, ↓DL.z_is_n_tuple, ↓DL.z_is_n_list, ↓DL.z_gslc, ↓DL.z_sc0, ↓DL.z_listO, ↓DL.z_lol, ↓DL.z_lot, ↓DL.z_fsum, ↓DL.z_own1, ↓DL.z_glen, ↓DL.z_gall, ↓DL.z_ixown, ↓DL.z_listG, ↓DL.z_ownit, ↓DL.z_fld, ↓DL.z_fz, ↓DL.z_fzs, ↓DL.z_xisi, ↓DL.z_xi, ↓DL.z_xval, ↓DL.z_xv, ↓DL.z_ixm, ↓DL.z_lm, ↓dTrim, ↓dLc, ↓dLcO, ↓dEnds, ↓z_gd1, ↓z_gd2, ↓z_gd3, ↓z_gdi, ↓z_gdo, slots, ↓reduceIte, decide_eq_true_eq, Bool.false_eq_true, Bool.not_true, Bool.not_false, decide_true, decide_false, Int.reduceEq, Int.reduceSub, Int.reduceAdd, Int.reduceLT, Int.reduceNeg, and_self, true_and, and_true, hr2]
    first
      | refine ⟨p, cells, _, _, _, _, s, g0 :: gs, 30, 6, rfl, rfl, hws, by simp, by simp; omega, by omega, by omega, by omega, fun js e i' a' b' c' hp hjn hj => ?_⟩
      | refine ⟨p, cells, _, _, _, _, s, g0 :: gs, 8, 6, rfl, rfl, hws, by simp, by simp; omega, by omega, by omega, by omega, fun js e i' a' b' c' hp hjn hj => ?_⟩
    have hjn : js.length ≤ 30 := by omega
    have hsum := sum_le (z := 6) fun j h => (hj j h).2
    obtain ⟨m, hm⟩ : ∃ m : Nat, (e.length : Int) / 2 = m := ⟨e.length / 2, by omega⟩
    obtain ⟨J3, hJ3⟩ : ∃ J3 : List J, J3 = js ++ [((m : Int), [120, 121, 122]), ((m : Int) + 1, [119]), ((m : Int) + 4, [118])] := ⟨_, rfl⟩
    have eJ : jsD js ++ [D.tup [D.int m, D.str [120, 121, 122]], D.tup [D.int ((m : Int) + 1), D.str [119]], D.tup [D.int ((m : Int) + 4), D.str [118]]] = jsD J3 := by rw [hJ3, jsD_app]; rfl
    obtain ⟨e3, hp3⟩ : ∃ e3, play s J3 = .inr e3 := by
      rw [hJ3, play_app, hp]
      exact play3 (by omega)
    have ht0 : tot s js ≤ 1000 := by simp only [tot]; omega
    have ht3 : tot s J3 ≤ 2000 := by
      rw [hJ3, tot_app]; simp only [List.map_cons, List.map_nil, List.sum_cons, List.sum_nil, List.length_cons, List.length_nil]; omega
    have hn3 : J3.length ≤ 1000 := by rw [hJ3, List.length_append]; simp only [List.length_cons, List.length_nil]; omega
    have hn3' : 0 < J3.length := by rw [hJ3, List.length_append]; simp only [List.length_cons, List.length_nil]; omega
    simp only [List.map_cons, List.map_nil, List.length_cons, List.length_nil, Nat.reduceSub, Nat.reduceAdd, Nat.zero_add, Nat.sub_self, List.replicate, List.cons_append, List.nil_append, List.append_nil, List.set_cons_zero, List.set_cons_succ, List.take_succ_cons, List.take_zero, List.drop_zero, List.drop_succ_cons, List.drop_nil, List.take_nil, Nat.reduceLeDiff, ↓DL.z_var0, ↓DL.z_varS, ↓DL.z_name0, ↓DL.z_nameS, ↓DL.z_c, ↓DL.z_seq, ↓DL.z_next, ↓DL.z_if, ↓DL.z_asg, ↓DL.z_ret, ↓DL.z_drop, ↓DL.z_val, ↓DL.z_bl, ↓DL.z_and, ↓DL.z_or, ↓DL.z_not, ↓DL.z_bin, ↓DL.z_cb, ↓DL.z_nil, ↓DL.z_cons, ↓DL.z_i0, ↓DL.z_i, ↓DL.z_mul, ↓DL.z_add, ↓DL.z_lt, ↓DL.z_le, ↓DL.z_gt, ↓DL.z_ge, ↓DL.z_eq, ↓DL.z_ne, ↓DL.z_len, ↓DL.z_lens, ↓DL.z_int, ↓DL.z_intb, ↓DL.z_ixO, ↓DL.z_ix0, ↓DL.z_ix1, ↓DL.z_ix2, ↓DL.z_ix3, ↓DL.z_ix4, ↓DL.z_gsub, ↓DL.z_sub1, ↓DL.z_sub2, ↓DL.z_sub3, ↓DL.z_sub4, ↓DL.z_for, ↓DL.z_itA, ↓DL.z_any, ↓DL.z_itl, ↓DL.z_itt, ↓DL.z_its, ↓DL.z_lcg, ↓DL.z_yes, ↓DL.z_ifx, ↓DL.z_tup, ↓DL.z_lst, ↓DL.z_lstO, ↓DL.z_nop, ↓DL.z_part, ↓DL.z_pa, ↓DL.z_slx, ↓DL.z_sll, ↓DL.z_slt, ↓DL.z_sls, ↓DL.z_chain, ↓DL.z_ch, ↓DL.z_andv, ↓DL.z_orv, ↓DL.z_fnot, ↓DL.z_un, ↓DL.z_neg, ↓DL.z_call, ↓DL.z_prop, ↓DL.z_meth, ↓DL.z_make, ↓DL.z_obj, ↓DL.z_fl, ↓DL.z_flt, ↓DL.z_flf, ↓DL.z_ft, ↓DL.z_ftt, ↓DL.z_lent, ↓DL.z_adds, ↓DL.z_addl, ↓DL.z_addt, ↓DL.z_eqs, ↓DL.z_nes, ↓DL.z_eqb, ↓DL.z_eqn, ↓DL.z_eql, ↓DL.z_nel, ↓DL.z_isn, ↓DL.z_isnn, ↓DL.z_ins, ↓DL.z_nins, ↓DL.z_ixt, ↓DL.z_l0, ↓DL.z_l1, ↓DL.z_l2, ↓DL.z_rng, ↓DL.z_enl, ↓DL.z_ent, ↓DL.z_gtup, ↓DL.z_gcons, ↓DL.z_gnil, ↓DL.z_wipe0, ↓DL.z_wipe, ↓DL.z_mt, ↓DL.z_ty0, ↓DL.z_ty1, ↓DL.z_app0, ↓DL.z_app1, ↓DL.z_raise, ↓DL.z_ra, ↓DL.z_is_i_bool, ↓DL.z_is_i_int, ↓DL.z_is_i_str, ↓DL.z_is_i_tuple, ↓DL.z_is_i_list, ↓DL.z_is_b_bool, ↓DL.z_is_b_int, ↓DL.z_is_b_str, ↓DL.z_is_b_tuple, ↓DL.z_is_b_list, ↓DL.z_is_s_bool, ↓DL.z_is_s_int, ↓DL.z_is_s_str, ↓DL.z_is_s_tuple, ↓DL.z_is_s_list, ↓DL.z_is_l_bool, ↓DL.z_is_l_int, ↓DL.z_is_l_str, ↓DL.z_is_l_tuple, ↓DL.z_is_l_list, ↓DL.z_is_t_bool, ↓DL.z_is_t_int, ↓DL.z_is_t_str, ↓DL.z_is_t_tuple, ↓DL.z_is_t_list, ↓DL.z_is_n_bool, ↓DL.z_is_n_int, ↓DL.z_is_n_str, ↓DL.z_is_n_tuple, ↓DL.z_is_n_list, ↓DL.z_gslc, ↓DL.z_sc0, ↓DL.z_listO, ↓DL.z_lol, ↓DL.z_lot, ↓DL.z_fsum, ↓DL.z_own1, ↓DL.z_glen, ↓DL.z_gall, ↓DL.z_ixown, ↓DL.z_listG, ↓DL.z_ownit, ↓DL.z_fld, ↓DL.z_fz, ↓DL.z_fzs, ↓DL.z_xisi, ↓DL.z_xi, ↓DL.z_xval, ↓DL.z_xv, ↓DL.z_ixm, ↓DL.z_lm, ↓dTrim, ↓dLc, ↓dLcO, ↓dEnds, ↓z_gd1, ↓z_gd2, ↓z_gd3, ↓z_gdi, ↓z_gdo, slots, ↓reduceIte, decide_eq_true_eq, Bool.false_eq_true, Bool.not_true, Bool.not_false, decide_true, decide_false, Int.reduceEq, Int.reduceSub, Int.reduceAdd, Int.reduceLT, Int.reduceNeg, and_self, true_and, and_true, ↓hm, eJ]
    refine ⟨⟨by decide, by decide +kernel⟩, by rw [jsD_len]; omega, fun q => ?_⟩
    refine ⟨1, q, _, rfl, rfl, ?_⟩
    simp only [List.map_cons, List.map_nil, List.length_cons, List.length_nil, Nat.reduceSub, Nat.reduceAdd, Nat.zero_add, Nat.sub_self, List.replicate, List.cons_append, List.nil_append, List.append_nil, List.set_cons_zero, List.set_cons_succ, List.take_succ_cons, List.take_zero, List.drop_zero, List.drop_succ_cons, List.drop_nil, List.take_nil, Nat.reduceLeDiff, ↓DL.z_var0, ↓DL.z_varS, ↓DL.z_name0, ↓DL.z_nameS, ↓DL.z_c, ↓DL.z_seq, ↓DL.z_next, ↓DL.z_if, ↓DL.z_asg, ↓DL.z_ret, ↓DL.z_drop, ↓DL.z_val, ↓DL.z_bl, ↓DL.z_and, ↓DL.z_or, ↓DL.z_not, ↓DL.z_bin, ↓DL.z_cb, ↓DL.z_nil, ↓DL.z_cons, ↓DL.z_i0, ↓DL.z_i, ↓DL.z_mul, ↓DL.z_add, ↓DL.z_lt, ↓DL.z_le, ↓DL.z_gt, ↓DL.z_ge, ↓DL.z_eq, ↓DL.z_ne, ↓DL.z_len, ↓DL.z_lens, ↓DL.z_int, ↓DL.z_intb, ↓DL.z_ixO, ↓DL.z_ix0, ↓DL.z_ix1, ↓DL.z_ix2, ↓DL.z_ix3, ↓DL.z_ix4, ↓DL.z_gsub, ↓DL.z_sub1, ↓DL.z_sub2, ↓DL.z_sub3, ↓DL.z_sub4, ↓DL.z_for, ↓DL.z_itA, ↓DL.z_any, ↓DL.z_itl, ↓DL.z_itt, ↓DL.z_its, ↓DL.z_lcg, ↓DL.z_yes, ↓DL.z_ifx, ↓DL.z_tup, ↓DL.z_lst, ↓DL.z_lstO, ↓DL.z_nop, ↓DL.z_part, ↓DL.z_pa, ↓DL.z_slx, ↓DL.z_sll, ↓DL.z_slt, ↓DL.z_sls, ↓DL.z_chain, ↓DL.z_ch, ↓DL.z_andv, ↓DL.z_orv, ↓DL.z_fnot, ↓DL.z_un, ↓DL.z_neg, ↓DL.z_call, ↓DL.z_prop, ↓DL.z_meth, ↓DL.z_make, ↓DL.z_obj, ↓DL.z_fl, ↓DL.z_flt, ↓DL.z_flf, ↓DL.z_ft, ↓DL.z_ftt, ↓DL.z_lent, ↓DL.z_adds, ↓DL.z_addl, ↓DL.z_addt, ↓DL.z_eqs, ↓DL.z_nes, ↓DL.z_eqb, ↓DL.z_eqn, ↓DL.z_eql, ↓DL.z_nel, ↓DL.z_isn, ↓DL.z_isnn, ↓DL.z_ins, ↓DL.z_nins, ↓DL.z_ixt, ↓DL.z_l0, ↓DL.z_l1, ↓DL.z_l2, ↓DL.z_rng, ↓DL.z_enl, ↓DL.z_ent, ↓DL.z_gtup, ↓DL.z_gcons, ↓DL.z_gnil, ↓DL.z_wipe0, ↓DL.z_wipe, ↓DL.z_mt, ↓DL.z_ty0, ↓DL.z_ty1, ↓DL.z_app0, ↓DL.z_app1, ↓DL.z_raise, ↓DL.z_ra, ↓DL.z_is_i_bool, ↓DL.z_is_i_int, ↓DL.z_is_i_str, ↓DL.z_is_i_tuple, ↓DL.z_is_i_list, ↓DL.z_is_b_bool, ↓DL.z_is_b_int, ↓DL.z_is_b_str, ↓DL.z_is_b_tuple, ↓DL.z_is_b_list, ↓DL.z_is_s_bool, ↓DL.z_is_s_int, ↓DL.z_is_s_str, ↓DL.z_is_s_tuple, ↓DL.z_is_s_list, ↓DL.z_is_l_bool, ↓DL.z_is_l_int, ↓DL.z_is_l_str, ↓DL.z_is_l_tuple, ↓DL.z_is_l_list, ↓DL.z_is_t_bool, ↓DL.z_is_t_int, ↓DL.z_is_t_str, ↓DL.z_is_t_tuple, ↓DL.z_is_t_list, ↓DL.z_is_n_bool, ↓DL.z_is_n_int, ↓DL.z_is_n_str, ↓DL.z_is_n_tuple, ↓DL.z_is_n_list, ↓DL.z_gslc, ↓DL.z_sc0, ↓DL.z_listO, ↓DL.z_lol, ↓DL.z_lot, ↓DL.z_fsum, ↓DL.z_own1, ↓DL.z_glen, ↓DL.z_gall, ↓DL.z_ixown, ↓DL.z_listG, ↓DL.z_ownit, ↓DL.z_fld, ↓DL.z_fz, ↓DL.z_fzs, ↓DL.z_xisi, ↓DL.z_xi, ↓DL.z_xval, ↓DL.z_xv, ↓DL.z_ixm, ↓DL.z_lm, ↓dTrim, ↓dLc, ↓dLcO, ↓dEnds, ↓z_gd1, ↓z_gd2, ↓z_gd3, ↓z_gdi, ↓z_gdo, slots, ↓reduceIte, decide_eq_true_eq, Bool.false_eq_true, Bool.not_true, Bool.not_false, decide_true, decide_false, Int.reduceEq, Int.reduceSub, Int.reduceAdd, Int.reduceLT, Int.reduceNeg, and_self, true_and, and_true]
    refine fun p1 => mk_ hp3 (.inl rfl) (by omega) (by omega) ⟨noLst_g _ _ _, 1, q, _, rfl, rfl, ?_⟩ p1
    simp only [List.map_cons, List.map_nil, List.length_cons, List.length_nil, Nat.reduceSub, Nat.reduceAdd, Nat.zero_add, Nat.sub_self, List.replicate, List.cons_append, List.nil_append, List.append_nil, List.set_cons_zero, List.set_cons_succ, List.take_succ_cons, List.take_zero, List.drop_zero, List.drop_succ_cons, List.drop_nil, List.take_nil, Nat.reduceLeDiff, ↓DL.z_var0, ↓DL.z_varS, ↓DL.z_name0, ↓DL.z_nameS, ↓DL.z_c, ↓DL.z_seq, ↓DL.z_next, ↓DL.z_if, ↓DL.z_asg, ↓DL.z_ret, ↓DL.z_drop, ↓DL.z_val, ↓DL.z_bl, ↓DL.z_and, ↓DL.z_or, ↓DL.z_not, ↓DL.z_bin, ↓DL.z_cb, ↓DL.z_nil, ↓DL.z_cons, ↓DL.z_i0, ↓DL.z_i, ↓DL.z_mul, ↓DL.z_add, ↓DL.z_lt, ↓DL.z_le, ↓DL.z_gt, ↓DL.z_ge, ↓DL.z_eq, ↓DL.z_ne, ↓DL.z_len, ↓DL.z_lens, ↓DL.z_int, ↓DL.z_intb, ↓DL.z_ixO, ↓DL.z_ix0, ↓DL.z_ix1, ↓DL.z_ix2, ↓DL.z_ix3, ↓DL.z_ix4, ↓DL.z_gsub, ↓DL.z_sub1, ↓DL.z_sub2, ↓DL.z_sub3, ↓DL.z_sub4, ↓DL.z_for, ↓DL.z_itA, ↓DL.z_any, ↓DL.z_itl, ↓DL.z_itt, ↓DL.z_its, ↓DL.z_lcg, ↓DL.z_yes, ↓DL.z_ifx, ↓DL.z_tup, ↓DL.z_lst, ↓DL.z_lstO, ↓DL.z_nop, ↓DL.z_part, ↓DL.z_pa, ↓DL.z_slx, ↓DL.z_sll, ↓DL.z_slt, ↓DL.z_sls, ↓DL.z_chain, ↓DL.z_ch, ↓DL.z_andv, ↓DL.z_orv, ↓DL.z_fnot, ↓DL.z_un, ↓DL.z_neg, ↓DL.z_call, ↓DL.z_prop, ↓DL.z_meth, ↓DL.z_make, ↓DL.z_obj, ↓DL.z_fl, ↓DL.z_flt, ↓DL.z_flf, ↓DL.z_ft, ↓DL.z_ftt, ↓DL.z_lent, ↓DL.z_adds, ↓DL.z_addl, ↓DL.z_addt, ↓DL.z_eqs, ↓DL.z_nes, ↓DL.z_eqb, ↓DL.z_eqn, ↓DL.z_eql, ↓DL.z_nel, ↓DL.z_isn, ↓DL.z_isnn, ↓DL.z_ins, ↓DL.z_nins, ↓DL.z_ixt, ↓DL.z_l0, ↓DL.z_l1, ↓DL.z_l2, ↓DL.z_rng, ↓DL.z_enl, ↓DL.z_ent, ↓DL.z_gtup, ↓DL.z_gcons, ↓DL.z_gnil, ↓DL.z_wipe0, ↓DL.z_wipe, ↓DL.z_mt, ↓DL.z_ty0, ↓DL.z_ty1, ↓DL.z_app0, ↓DL.z_app1, ↓DL.z_raise, ↓DL.z_ra, ↓DL.z_is_i_bool, ↓DL.z_is_i_int, ↓DL.z_is_i_str, ↓DL.z_is_i_tuple, ↓DL.z_is_i_list, ↓DL.z_is_b_bool, ↓DL.z_is_b_int, ↓DL.z_is_b_str, ↓DL.z_is_b_tuple, ↓DL.z_is_b_list, ↓DL.z_is_s_bool, ↓DL.z_is_s_int, ↓DL.z_is_s_str, ↓DL.z_is_s_tuple, ↓DL.z_is_s_list, ↓DL.z_is_l_bool, ↓DL.z_is_l_int, ↓DL.z_is_l_str, ↓DL.z_is_l_tuple, ↓DL.z_is_l_list, ↓DL.z_is_t_bool, ↓DL.z_is_t_int, ↓DL.z_is_t_str, ↓DL.z_is_t_tuple, ↓DL.z_is_t_list, ↓DL.z_is_n_bool, ↓DL.z_is_n_int, ↓DL.z_is_n_str, ↓DL.z_is_n_tuple, ↓DL.z_is_n_list, ↓DL.z_gslc, ↓DL.z_sc0, ↓DL.z_listO, ↓DL.z_lol, ↓DL.z_lot, ↓DL.z_fsum, ↓DL.z_own1, ↓DL.z_glen, ↓DL.z_gall, ↓DL.z_ixown, ↓DL.z_listG, ↓DL.z_ownit, ↓DL.z_fld, ↓DL.z_fz, ↓DL.z_fzs, ↓DL.z_xisi, ↓DL.z_xi, ↓DL.z_xval, ↓DL.z_xv, ↓DL.z_ixm, ↓DL.z_lm, ↓dTrim, ↓dLc, ↓dLcO, ↓dEnds, ↓z_gd1, ↓z_gd2, ↓z_gd3, ↓z_gdi, ↓z_gdo, slots, ↓reduceIte, decide_eq_true_eq, Bool.false_eq_true, Bool.not_true, Bool.not_false, decide_true, decide_false, Int.reduceEq, Int.reduceSub, Int.reduceAdd, Int.reduceLT, Int.reduceNeg, and_self, true_and, and_true]
    refine ⟨_, rfl, (sm_js (by omega) 1).1, ?_⟩
    have hsub : ∀ c x y F, sub_ 1 x (.adr q) (.int 0) [c, (q, .lst (jsD J3 ++ [y]))] F = F [c, (q, .lst ((jsD J3 ++ [y]).set 0 x))] := fun c x y F => z_jsub (k := 0) (by simp)
    simp only [List.map_cons, List.map_nil, List.length_cons, List.length_nil, Nat.reduceSub, Nat.reduceAdd, Nat.zero_add, Nat.sub_self, List.replicate, List.cons_append, List.nil_append, List.append_nil, List.set_cons_zero, List.set_cons_succ, List.take_succ_cons, List.take_zero, List.drop_zero, List.drop_succ_cons, List.drop_nil, List.take_nil, Nat.reduceLeDiff, ↓DL.z_var0, ↓DL.z_varS, ↓DL.z_name0, ↓DL.z_nameS, ↓DL.z_c, ↓DL.z_seq, ↓DL.z_next, ↓DL.z_if, ↓DL.z_asg, ↓DL.z_ret, ↓DL.z_drop, ↓DL.z_val, ↓DL.z_bl, ↓DL.z_and, ↓DL.z_or, ↓DL.z_not, ↓DL.z_bin, ↓DL.z_cb, ↓DL.z_nil, ↓DL.z_cons, ↓DL.z_i0, ↓DL.z_i, ↓DL.z_mul, ↓DL.z_add, ↓DL.z_lt, ↓DL.z_le, ↓DL.z_gt, ↓DL.z_ge, ↓DL.z_eq, ↓DL.z_ne, ↓DL.z_len, ↓DL.z_lens, ↓DL.z_int, ↓DL.z_intb, ↓DL.z_ixO, ↓DL.z_ix0, ↓DL.z_ix1, ↓DL.z_ix2, ↓DL.z_ix3, ↓DL.z_ix4, ↓DL.z_gsub, ↓DL.z_sub1, ↓DL.z_sub2, ↓DL.z_sub3, ↓DL.z_sub4, ↓DL.z_for, ↓DL.z_itA, ↓DL.z_any, ↓DL.z_itl, ↓DL.z_itt, ↓DL.z_its, ↓DL.z_lcg, ↓DL.z_yes, ↓DL.z_ifx, ↓DL.z_tup, ↓DL.z_lst, ↓DL.z_lstO, ↓DL.z_nop, ↓DL.z_part, ↓DL.z_pa, ↓DL.z_slx, ↓DL.z_sll, ↓DL.z_slt, ↓DL.z_sls, ↓DL.z_chain, ↓DL.z_ch, ↓DL.z_andv, ↓DL.z_orv, ↓DL.z_fnot, ↓DL.z_un, ↓DL.z_neg, ↓DL.z_call, ↓DL.z_prop, ↓DL.z_meth, ↓DL.z_make, ↓DL.z_obj, ↓DL.z_fl, ↓DL.z_flt, ↓DL.z_flf, ↓DL.z_ft, ↓DL.z_ftt, ↓DL.z_lent, ↓DL.z_adds, ↓DL.z_addl, ↓DL.z_addt, ↓DL.z_eqs, ↓DL.z_nes, ↓DL.z_eqb, ↓DL.z_eqn, ↓DL.z_eql, ↓DL.z_nel, ↓DL.z_isn, ↓DL.z_isnn, ↓DL.z_ins, ↓DL.z_nins, ↓DL.z_ixt, ↓DL.z_l0, ↓DL.z_l1, ↓DL.z_l2, ↓DL.z_rng, ↓DL.z_enl, ↓DL.z_ent, ↓DL.z_gtup, ↓DL.z_gcons, ↓DL.z_gnil, ↓DL.z_wipe0, ↓DL.z_wipe, ↓DL.z_mt, ↓DL.z_ty0, ↓DL.z_ty1, ↓DL.z_app0, ↓DL.z_app1, ↓DL.z_raise, ↓DL.z_ra, ↓DL.z_is_i_bool, ↓DL.z_is_i_int, ↓DL.z_is_i_str, ↓DL.z_is_i_tuple, ↓DL.z_is_i_list, ↓DL.z_is_b_bool, ↓DL.z_is_b_int, ↓DL.z_is_b_str, ↓DL.z_is_b_tuple, ↓DL.z_is_b_list, ↓DL.z_is_s_bool, ↓DL.z_is_s_int, ↓DL.z_is_s_str, ↓DL.z_is_s_tuple, ↓DL.z_is_s_list, ↓DL.z_is_l_bool, ↓DL.z_is_l_int, ↓DL.z_is_l_str, ↓DL.z_is_l_tuple, ↓DL.z_is_l_list, ↓DL.z_is_t_bool, ↓DL.z_is_t_int, ↓DL.z_is_t_str, ↓DL.z_is_t_tuple, ↓DL.z_is_t_list, ↓DL.z_is_n_bool, ↓DL.z_is_n_int, ↓DL.z_is_n_str, ↓DL.z_is_n_tuple, ↓DL.z_is_n_list, ↓DL.z_gslc, ↓DL.z_sc0, ↓DL.z_listO, ↓DL.z_lol, ↓DL.z_lot, ↓DL.z_fsum, ↓DL.z_own1, ↓DL.z_glen, ↓DL.z_gall, ↓DL.z_ixown, ↓DL.z_listG, ↓DL.z_ownit, ↓DL.z_fld, ↓DL.z_fz, ↓DL.z_fzs, ↓DL.z_xisi, ↓DL.z_xi, ↓DL.z_xval, ↓DL.z_xv, ↓DL.z_ixm, ↓DL.z_lm, ↓dTrim, ↓dLc, ↓dLcO, ↓dEnds, ↓z_gd1, ↓z_gd2, ↓z_gd3, ↓z_gdi, ↓z_gdo, slots, ↓reduceIte, decide_eq_true_eq, Bool.false_eq_true, Bool.not_true, Bool.not_false, decide_true, decide_false, Int.reduceEq, Int.reduceSub, Int.reduceAdd, Int.reduceLT, Int.reduceNeg, and_self, true_and, and_true, ↓hsub]
    have hp2 := play_ext [121] hp
    have ht2 : tot (s ++ [121]) js ≤ 1001 := by simp only [tot, List.length_append, List.length_cons, List.length_nil] at ht0 ⊢; omega
    have ht1 : tot s [] ≤ 1000 := by simp only [tot, List.map_nil, List.sum_nil]; omega
    refine ⟨rfl, by rw [jsD_len]; omega, by omega, fun p2 => mk_ hp2 (.inl rfl) (by omega) (by omega) (fun p3 => mk_ (js := []) rfl (.inr rfl) (by omega) (by simp) ?_ p3) p2⟩
    refine ⟨s, J3, e3, rfl, rfl, hp3, by omega, by omega, ?_⟩
    simp only [List.map_cons, List.map_nil, List.length_cons, List.length_nil, Nat.reduceSub, Nat.reduceAdd, Nat.zero_add, Nat.sub_self, List.replicate, List.cons_append, List.nil_append, List.append_nil, List.set_cons_zero, List.set_cons_succ, List.take_succ_cons, List.take_zero, List.drop_zero, List.drop_succ_cons, List.drop_nil, List.take_nil, Nat.reduceLeDiff, ↓DL.z_var0, ↓DL.z_varS, ↓DL.z_name0, ↓DL.z_nameS, ↓DL.z_c, ↓DL.z_seq, ↓DL.z_next, ↓DL.z_if, ↓DL.z_asg, ↓DL.z_ret, ↓DL.z_drop, ↓DL.z_val, ↓DL.z_bl, ↓DL.z_and, ↓DL.z_or, ↓DL.z_not, ↓DL.z_bin, ↓DL.z_cb, ↓DL.z_nil, ↓DL.z_cons, ↓DL.z_i0, ↓DL.z_i, ↓DL.z_mul, ↓DL.z_add, ↓DL.z_lt, ↓DL.z_le, ↓DL.z_gt, ↓DL.z_ge, ↓DL.z_eq, ↓DL.z_ne, ↓DL.z_len, ↓DL.z_lens, ↓DL.z_int, ↓DL.z_intb, ↓DL.z_ixO, ↓DL.z_ix0, ↓DL.z_ix1, ↓DL.z_ix2, ↓DL.z_ix3, ↓DL.z_ix4, ↓DL.z_gsub, ↓DL.z_sub1, ↓DL.z_sub2, ↓DL.z_sub3, ↓DL.z_sub4, ↓DL.z_for, ↓DL.z_itA, ↓DL.z_any, ↓DL.z_itl, ↓DL.z_itt, ↓DL.z_its, ↓DL.z_lcg, ↓DL.z_yes, ↓DL.z_ifx, ↓DL.z_tup, ↓DL.z_lst, ↓DL.z_lstO, ↓DL.z_nop, ↓DL.z_part, ↓DL.z_pa, ↓DL.z_slx, ↓DL.z_sll, ↓DL.z_slt, ↓DL.z_sls, ↓DL.z_chain, ↓DL.z_ch, ↓DL.z_andv, ↓DL.z_orv, ↓DL.z_fnot, ↓DL.z_un, ↓DL.z_neg, ↓DL.z_call, ↓DL.z_prop, ↓DL.z_meth, ↓DL.z_make, ↓DL.z_obj, ↓DL.z_fl, ↓DL.z_flt, ↓DL.z_flf, ↓DL.z_ft, ↓DL.z_ftt, ↓DL.z_lent, ↓DL.z_adds, ↓DL.z_addl, ↓DL.z_addt, ↓DL.z_eqs, ↓DL.z_nes, ↓DL.z_eqb, ↓DL.z_eqn, ↓DL.z_eql, ↓DL.z_nel, ↓DL.z_isn, ↓DL.z_isnn, ↓DL.z_ins, ↓DL.z_nins, ↓DL.z_ixt, ↓DL.z_l0, ↓DL.z_l1, ↓DL.z_l2, ↓DL.z_rng, ↓DL.z_enl, ↓DL.z_ent, ↓DL.z_gtup, ↓DL.z_gcons, ↓DL.z_gnil, ↓DL.z_wipe0, ↓DL.z_wipe, ↓DL.z_mt, ↓DL.z_ty0, ↓DL.z_ty1, ↓DL.z_app0, ↓DL.z_app1, ↓DL.z_raise, ↓DL.z_ra, ↓DL.z_is_i_bool, ↓DL.z_is_i_int, ↓DL.z_is_i_str, ↓DL.z_is_i_tuple, ↓DL.z_is_i_list, ↓DL.z_is_b_bool, ↓DL.z_is_b_int, ↓DL.z_is_b_str, ↓DL.z_is_b_tuple, ↓DL.z_is_b_list, ↓DL.z_is_s_bool, ↓DL.z_is_s_int, ↓DL.z_is_s_str, ↓DL.z_is_s_tuple, ↓DL.z_is_s_list, ↓DL.z_is_l_bool, ↓DL.z_is_l_int, ↓DL.z_is_l_str, ↓DL.z_is_l_tuple, ↓DL.z_is_l_list, ↓DL.z_is_t_bool, ↓DL.z_is_t_int, ↓DL.z_is_t_str, ↓DL.z_is_t_tuple, ↓DL.z_is_t_list, ↓DL.z_is_n_bool, ↓DL.z_is_n_int, ↓DL.z_is_n_str, ↓DL.z_is_n_tuple, ↓DL.z_is_n_list, ↓DL.z_gslc, ↓DL.z_sc0, ↓DL.z_listO, ↓DL.z_lol, ↓DL.z_lot, ↓DL.z_fsum, ↓DL.z_own1, ↓DL.z_glen, ↓DL.z_gall, ↓DL.z_ixown, ↓DL.z_listG, ↓DL.z_ownit, ↓DL.z_fld, ↓DL.z_fz, ↓DL.z_fzs, ↓DL.z_xisi, ↓DL.z_xi, ↓DL.z_xval, ↓DL.z_xv, ↓DL.z_ixm, ↓DL.z_lm, ↓dTrim, ↓dLc, ↓dLcO, ↓dEnds, ↓z_gd1, ↓z_gd2, ↓z_gd3, ↓z_gdi, ↓z_gdo, slots, ↓reduceIte, decide_eq_true_eq, Bool.false_eq_true, Bool.not_true, Bool.not_false, decide_true, decide_false, Int.reduceEq, Int.reduceSub, Int.reduceAdd, Int.reduceLT, Int.reduceNeg, and_self, true_and, and_true]
    refine ⟨by omega, _, js, _, rfl, rfl, hp2, by omega, by omega, ?_⟩
    simp only [List.map_cons, List.map_nil, List.length_cons, List.length_nil, Nat.reduceSub, Nat.reduceAdd, Nat.zero_add, Nat.sub_self, List.replicate, List.cons_append, List.nil_append, List.append_nil, List.set_cons_zero, List.set_cons_succ, List.take_succ_cons, List.take_zero, List.drop_zero, List.drop_succ_cons, List.drop_nil, List.take_nil, Nat.reduceLeDiff, ↓DL.z_var0, ↓DL.z_varS, ↓DL.z_name0, ↓DL.z_nameS, ↓DL.z_c, ↓DL.z_seq, ↓DL.z_next, ↓DL.z_if, ↓DL.z_asg, ↓DL.z_ret, ↓DL.z_drop, ↓DL.z_val, ↓DL.z_bl, ↓DL.z_and, ↓DL.z_or, ↓DL.z_not, ↓DL.z_bin, ↓DL.z_cb, ↓DL.z_nil, ↓DL.z_cons, ↓DL.z_i0, ↓DL.z_i, ↓DL.z_mul, ↓DL.z_add, ↓DL.z_lt, ↓DL.z_le, ↓DL.z_gt, ↓DL.z_ge, ↓DL.z_eq, ↓DL.z_ne, ↓DL.z_len, ↓DL.z_lens, ↓DL.z_int, ↓DL.z_intb, ↓DL.z_ixO, ↓DL.z_ix0, ↓DL.z_ix1, ↓DL.z_ix2, ↓DL.z_ix3, ↓DL.z_ix4, ↓DL.z_gsub, ↓DL.z_sub1, ↓DL.z_sub2, ↓DL.z_sub3, ↓DL.z_sub4, ↓DL.z_for, ↓DL.z_itA, ↓DL.z_any, ↓DL.z_itl, ↓DL.z_itt, ↓DL.z_its, ↓DL.z_lcg, ↓DL.z_yes, ↓DL.z_ifx, ↓DL.z_tup, ↓DL.z_lst, ↓DL.z_lstO, ↓DL.z_nop, ↓DL.z_part, ↓DL.z_pa, ↓DL.z_slx, ↓DL.z_sll, ↓DL.z_slt, ↓DL.z_sls, ↓DL.z_chain, ↓DL.z_ch, ↓DL.z_andv, ↓DL.z_orv, ↓DL.z_fnot, ↓DL.z_un, ↓DL.z_neg, ↓DL.z_call, ↓DL.z_prop, ↓DL.z_meth, ↓DL.z_make, ↓DL.z_obj, ↓DL.z_fl, ↓DL.z_flt, ↓DL.z_flf, ↓DL.z_ft, ↓DL.z_ftt, ↓DL.z_lent, ↓DL.z_adds, ↓DL.z_addl, ↓DL.z_addt, ↓DL.z_eqs, ↓DL.z_nes, ↓DL.z_eqb, ↓DL.z_eqn, ↓DL.z_eql, ↓DL.z_nel, ↓DL.z_isn, ↓DL.z_isnn, ↓DL.z_ins, ↓DL.z_nins, ↓DL.z_ixt, ↓DL.z_l0, ↓DL.z_l1, ↓DL.z_l2, ↓DL.z_rng, ↓DL.z_enl, ↓DL.z_ent, ↓DL.z_gtup, ↓DL.z_gcons, ↓DL.z_gnil, ↓DL.z_wipe0, ↓DL.z_wipe, ↓DL.z_mt, ↓DL.z_ty0, ↓DL.z_ty1, ↓DL.z_app0, ↓DL.z_app1, ↓DL.z_raise, ↓DL.z_ra, ↓DL.z_is_i_bool, ↓DL.z_is_i_int, ↓DL.z_is_i_str, ↓DL.z_is_i_tuple, ↓DL.z_is_i_list, ↓DL.z_is_b_bool, ↓DL.z_is_b_int, ↓DL.z_is_b_str, ↓DL.z_is_b_tuple, ↓DL.z_is_b_list, ↓DL.z_is_s_bool, ↓DL.z_is_s_int, ↓DL.z_is_s_str, ↓DL.z_is_s_tuple, ↓DL.z_is_s_list, ↓DL.z_is_l_bool, ↓DL.z_is_l_int, ↓DL.z_is_l_str, ↓DL.z_is_l_tuple, ↓DL.z_is_l_list, ↓DL.z_is_t_bool, ↓DL.z_is_t_int, ↓DL.z_is_t_str, ↓DL.z_is_t_tuple, ↓DL.z_is_t_list, ↓DL.z_is_n_bool, ↓DL.z_is_n_int, ↓DL.z_is_n_str, ↓DL.z_is_n_tuple, ↓DL.z_is_n_list, ↓DL.z_gslc, ↓DL.z_sc0, ↓DL.z_listO, ↓DL.z_lol, ↓DL.z_lot, ↓DL.z_fsum, ↓DL.z_own1, ↓DL.z_glen, ↓DL.z_gall, ↓DL.z_ixown, ↓DL.z_listG, ↓DL.z_ownit, ↓DL.z_fld, ↓DL.z_fz, ↓DL.z_fzs, ↓DL.z_xisi, ↓DL.z_xi, ↓DL.z_xval, ↓DL.z_xv, ↓DL.z_ixm, ↓DL.z_lm, ↓dTrim, ↓dLc, ↓dLcO, ↓dEnds, ↓z_gd1, ↓z_gd2, ↓z_gd3, ↓z_gdi, ↓z_gdo, slots, ↓reduceIte, decide_eq_true_eq, Bool.false_eq_true, Bool.not_true, Bool.not_false, decide_true, decide_false, Int.reduceEq, Int.reduceSub, Int.reduceAdd, Int.reduceLT, Int.reduceNeg, and_self, true_and, and_true]
    refine ⟨s, [], s, rfl, rfl, rfl, by omega, by simp, ?_⟩
    simp only [List.map_cons, List.map_nil, List.length_cons, List.length_nil, Nat.reduceSub, Nat.reduceAdd, Nat.zero_add, Nat.sub_self, List.replicate, List.cons_append, List.nil_append, List.append_nil, List.set_cons_zero, List.set_cons_succ, List.take_succ_cons, List.take_zero, List.drop_zero, List.drop_succ_cons, List.drop_nil, List.take_nil, Nat.reduceLeDiff, ↓DL.z_var0, ↓DL.z_varS, ↓DL.z_name0, ↓DL.z_nameS, ↓DL.z_c, ↓DL.z_seq, ↓DL.z_next, ↓DL.z_if, ↓DL.z_asg, ↓DL.z_ret, ↓DL.z_drop, ↓DL.z_val, ↓DL.z_bl, ↓DL.z_and, ↓DL.z_or, ↓DL.z_not, ↓DL.z_bin, ↓DL.z_cb, ↓DL.z_nil, ↓DL.z_cons, ↓DL.z_i0, ↓DL.z_i, ↓DL.z_mul, ↓DL.z_add, ↓DL.z_lt, ↓DL.z_le, ↓DL.z_gt, ↓DL.z_ge, ↓DL.z_eq, ↓DL.z_ne, ↓DL.z_len, ↓DL.z_lens, ↓DL.z_int, ↓DL.z_intb, ↓DL.z_ixO, ↓DL.z_ix0, ↓DL.z_ix1, ↓DL.z_ix2, ↓DL.z_ix3, ↓DL.z_ix4, ↓DL.z_gsub, ↓DL.z_sub1, ↓DL.z_sub2, ↓DL.z_sub3, ↓DL.z_sub4, ↓DL.z_for, ↓DL.z_itA, ↓DL.z_any, ↓DL.z_itl, ↓DL.z_itt, ↓DL.z_its, ↓DL.z_lcg, ↓DL.z_yes, ↓DL.z_ifx, ↓DL.z_tup, ↓DL.z_lst, ↓DL.z_lstO, ↓DL.z_nop, ↓DL.z_part, ↓DL.z_pa, ↓DL.z_slx, ↓DL.z_sll, ↓DL.z_slt, ↓DL.z_sls, ↓DL.z_chain, ↓DL.z_ch, ↓DL.z_andv, ↓DL.z_orv, ↓DL.z_fnot, ↓DL.z_un, ↓DL.z_neg, ↓DL.z_call, ↓DL.z_prop, ↓DL.z_meth, ↓DL.z_make, ↓DL.z_obj, ↓DL.z_fl, ↓DL.z_flt, ↓DL.z_flf, ↓DL.z_ft, ↓DL.z_ftt, ↓DL.z_lent, ↓DL.z_adds, ↓DL.z_addl, ↓DL.z_addt, ↓DL.z_eqs, ↓DL.z_nes, ↓DL.z_eqb, ↓DL.z_eqn, ↓DL.z_eql, ↓DL.z_nel, ↓DL.z_isn, ↓DL.z_isnn, ↓DL.z_ins, ↓DL.z_nins, ↓DL.z_ixt, ↓DL.z_l0, ↓DL.z_l1, ↓DL.z_l2, ↓DL.z_rng, ↓DL.z_enl, ↓DL.z_ent, ↓DL.z_gtup, ↓DL.z_gcons, ↓DL.z_gnil, ↓DL.z_wipe0, ↓DL.z_wipe, ↓DL.z_mt, ↓DL.z_ty0, ↓DL.z_ty1, ↓DL.z_app0, ↓DL.z_app1, ↓DL.z_raise, ↓DL.z_ra, ↓DL.z_is_i_bool, ↓DL.z_is_i_int, ↓DL.z_is_i_str, ↓DL.z_is_i_tuple, ↓DL.z_is_i_list, ↓DL.z_is_b_bool, ↓DL.z_is_b_int, ↓DL.z_is_b_str, ↓DL.z_is_b_tuple, ↓DL.z_is_b_list, ↓DL.z_is_s_bool, ↓DL.z_is_s_int, ↓DL.z_is_s_str, ↓DL.z_is_s_tuple, ↓DL.z_is_s_list, ↓DL.z_is_l_bool, ↓DL.z_is_l_int, ↓DL.z_is_l_str, ↓DL.z_is_l_tuple, ↓DL.z_is_l_list, ↓DL.z_is_t_bool, ↓DL.z_is_t_int, ↓DL.z_is_t_str, ↓DL.z_is_t_tuple, ↓DL.z_is_t_list, ↓DL.z_is_n_bool, ↓DL.z_is_n_int, ↓DL.z_is_n_str, ↓DL.z_is_n_tuple, ↓DL.z_is_n_list, ↓DL.z_gslc, ↓DL.z_sc0, ↓DL.z_listO, ↓DL.z_lol, ↓DL.z_lot, ↓DL.z_fsum, ↓DL.z_own1, ↓DL.z_glen, ↓DL.z_gall, ↓DL.z_ixown, ↓DL.z_listG, ↓DL.z_ownit, ↓DL.z_fld, ↓DL.z_fz, ↓DL.z_fzs, ↓DL.z_xisi, ↓DL.z_xi, ↓DL.z_xval, ↓DL.z_xv, ↓DL.z_ixm, ↓DL.z_lm, ↓dTrim, ↓dLc, ↓dLcO, ↓dEnds, ↓z_gd1, ↓z_gd2, ↓z_gd3, ↓z_gdi, ↓z_gdo, slots, ↓reduceIte, decide_eq_true_eq, Bool.false_eq_true, Bool.not_true, Bool.not_false, decide_true, decide_false, Int.reduceEq, Int.reduceSub, Int.reduceAdd, Int.reduceLT, Int.reduceNeg, and_self, true_and, and_true]
    refine ⟨s, J3, e3, rfl, rfl, hp3, by omega, by omega, ?_⟩
    simp only [List.map_cons, List.map_nil, List.length_cons, List.length_nil, Nat.reduceSub, Nat.reduceAdd, Nat.zero_add, Nat.sub_self, List.replicate, List.cons_append, List.nil_append, List.append_nil, List.set_cons_zero, List.set_cons_succ, List.take_succ_cons, List.take_zero, List.drop_zero, List.drop_succ_cons, List.drop_nil, List.take_nil, Nat.reduceLeDiff, ↓DL.z_var0, ↓DL.z_varS, ↓DL.z_name0, ↓DL.z_nameS, ↓DL.z_c, ↓DL.z_seq, ↓DL.z_next, ↓DL.z_if, ↓DL.z_asg, ↓DL.z_ret, ↓DL.z_drop, ↓DL.z_val, ↓DL.z_bl, ↓DL.z_and, ↓DL.z_or, ↓DL.z_not, ↓DL.z_bin, ↓DL.z_cb, ↓DL.z_nil, ↓DL.z_cons, ↓DL.z_i0, ↓DL.z_i, ↓DL.z_mul, ↓DL.z_add, ↓DL.z_lt, ↓DL.z_le, ↓DL.z_gt, ↓DL.z_ge, ↓DL.z_eq, ↓DL.z_ne, ↓DL.z_len, ↓DL.z_lens, ↓DL.z_int, ↓DL.z_intb, ↓DL.z_ixO, ↓DL.z_ix0, ↓DL.z_ix1, ↓DL.z_ix2, ↓DL.z_ix3, ↓DL.z_ix4, ↓DL.z_gsub, ↓DL.z_sub1, ↓DL.z_sub2, ↓DL.z_sub3, ↓DL.z_sub4, ↓DL.z_for, ↓DL.z_itA, ↓DL.z_any, ↓DL.z_itl, ↓DL.z_itt, ↓DL.z_its, ↓DL.z_lcg, ↓DL.z_yes, ↓DL.z_ifx, ↓DL.z_tup, ↓DL.z_lst, ↓DL.z_lstO, ↓DL.z_nop, ↓DL.z_part, ↓DL.z_pa, ↓DL.z_slx, ↓DL.z_sll, ↓DL.z_slt, ↓DL.z_sls, ↓DL.z_chain, ↓DL.z_ch, ↓DL.z_andv, ↓DL.z_orv, ↓DL.z_fnot, ↓DL.z_un, ↓DL.z_neg, ↓DL.z_call, ↓DL.z_prop, ↓DL.z_meth, ↓DL.z_make, ↓DL.z_obj, ↓DL.z_fl, ↓DL.z_flt, ↓DL.z_flf, ↓DL.z_ft, ↓DL.z_ftt, ↓DL.z_lent, ↓DL.z_adds, ↓DL.z_addl, ↓DL.z_addt, ↓DL.z_eqs, ↓DL.z_nes, ↓DL.z_eqb, ↓DL.z_eqn, ↓DL.z_eql, ↓DL.z_nel, ↓DL.z_isn, ↓DL.z_isnn, ↓DL.z_ins, ↓DL.z_nins, ↓DL.z_ixt, ↓DL.z_l0, ↓DL.z_l1, ↓DL.z_l2, ↓DL.z_rng, ↓DL.z_enl, ↓DL.z_ent, ↓DL.z_gtup, ↓DL.z_gcons, ↓DL.z_gnil, ↓DL.z_wipe0, ↓DL.z_wipe, ↓DL.z_mt, ↓DL.z_ty0, ↓DL.z_ty1, ↓DL.z_app0, ↓DL.z_app1, ↓DL.z_raise, ↓DL.z_ra, ↓DL.z_is_i_bool, ↓DL.z_is_i_int, ↓DL.z_is_i_str, ↓DL.z_is_i_tuple, ↓DL.z_is_i_list, ↓DL.z_is_b_bool, ↓DL.z_is_b_int, ↓DL.z_is_b_str, ↓DL.z_is_b_tuple, ↓DL.z_is_b_list, ↓DL.z_is_s_bool, ↓DL.z_is_s_int, ↓DL.z_is_s_str, ↓DL.z_is_s_tuple, ↓DL.z_is_s_list, ↓DL.z_is_l_bool, ↓DL.z_is_l_int, ↓DL.z_is_l_str, ↓DL.z_is_l_tuple, ↓DL.z_is_l_list, ↓DL.z_is_t_bool, ↓DL.z_is_t_int, ↓DL.z_is_t_str, ↓DL.z_is_t_tuple, ↓DL.z_is_t_list, ↓DL.z_is_n_bool, ↓DL.z_is_n_int, ↓DL.z_is_n_str, ↓DL.z_is_n_tuple, ↓DL.z_is_n_list, ↓DL.z_gslc, ↓DL.z_sc0, ↓DL.z_listO, ↓DL.z_lol, ↓DL.z_lot, ↓DL.z_fsum, ↓DL.z_own1, ↓DL.z_glen, ↓DL.z_gall, ↓DL.z_ixown, ↓DL.z_listG, ↓DL.z_ownit, ↓DL.z_fld, ↓DL.z_fz, ↓DL.z_fzs, ↓DL.z_xisi, ↓DL.z_xi, ↓DL.z_xval, ↓DL.z_xv, ↓DL.z_ixm, ↓DL.z_lm, ↓dTrim, ↓dLc, ↓dLcO, ↓dEnds, ↓z_gd1, ↓z_gd2, ↓z_gd3, ↓z_gdi, ↓z_gdo, slots, ↓reduceIte, decide_eq_true_eq, Bool.false_eq_true, Bool.not_true, Bool.not_false, decide_true, decide_false, Int.reduceEq, Int.reduceSub, Int.reduceAdd, Int.reduceLT, Int.reduceNeg, and_self, true_and, and_true]
    refine fun p1 => mk_ hp3 (.inr rfl) (by omega) (by omega) ?_ p1
    refine ⟨s, J3, e3, rfl, rfl, hp3, by omega, by omega, ?_⟩
    simp only [List.map_cons, List.map_nil, List.length_cons, List.length_nil, Nat.reduceSub, Nat.reduceAdd, Nat.zero_add, Nat.sub_self, List.replicate, List.cons_append, List.nil_append, List.append_nil, List.set_cons_zero, List.set_cons_succ, List.take_succ_cons, List.take_zero, List.drop_zero, List.drop_succ_cons, List.drop_nil, List.take_nil, Nat.reduceLeDiff, ↓DL.z_var0, ↓DL.z_varS, ↓DL.z_name0, ↓DL.z_nameS, ↓DL.z_c, ↓DL.z_seq, ↓DL.z_next, ↓DL.z_if, ↓DL.z_asg, ↓DL.z_ret, ↓DL.z_drop, ↓DL.z_val, ↓DL.z_bl, ↓DL.z_and, ↓DL.z_or, ↓DL.z_not, ↓DL.z_bin, ↓DL.z_cb, ↓DL.z_nil, ↓DL.z_cons, ↓DL.z_i0, ↓DL.z_i, ↓DL.z_mul, ↓DL.z_add, ↓DL.z_lt, ↓DL.z_le, ↓DL.z_gt, ↓DL.z_ge, ↓DL.z_eq, ↓DL.z_ne, ↓DL.z_len, ↓DL.z_lens, ↓DL.z_int, ↓DL.z_intb, ↓DL.z_ixO, ↓DL.z_ix0, ↓DL.z_ix1, ↓DL.z_ix2, ↓DL.z_ix3, ↓DL.z_ix4, ↓DL.z_gsub, ↓DL.z_sub1, ↓DL.z_sub2, ↓DL.z_sub3, ↓DL.z_sub4, ↓DL.z_for, ↓DL.z_itA, ↓DL.z_any, ↓DL.z_itl, ↓DL.z_itt, ↓DL.z_its, ↓DL.z_lcg, ↓DL.z_yes, ↓DL.z_ifx, ↓DL.z_tup, ↓DL.z_lst, ↓DL.z_lstO, ↓DL.z_nop, ↓DL.z_part, ↓DL.z_pa, ↓DL.z_slx, ↓DL.z_sll, ↓DL.z_slt, ↓DL.z_sls, ↓DL.z_chain, ↓DL.z_ch, ↓DL.z_andv, ↓DL.z_orv, ↓DL.z_fnot, ↓DL.z_un, ↓DL.z_neg, ↓DL.z_call, ↓DL.z_prop, ↓DL.z_meth, ↓DL.z_make, ↓DL.z_obj, ↓DL.z_fl, ↓DL.z_flt, ↓DL.z_flf, ↓DL.z_ft, ↓DL.z_ftt, ↓DL.z_lent, ↓DL.z_adds, ↓DL.z_addl, ↓DL.z_addt, ↓DL.z_eqs, ↓DL.z_nes, ↓DL.z_eqb, ↓DL.z_eqn, ↓DL.z_eql, ↓DL.z_nel, ↓DL.z_isn, ↓DL.z_isnn, ↓DL.z_ins, ↓DL.z_nins, ↓DL.z_ixt, ↓DL.z_l0, ↓DL.z_l1, ↓DL.z_l2, ↓DL.z_rng, ↓DL.z_enl, ↓DL.z_ent, ↓DL.z_gtup, ↓DL.z_gcons, ↓DL.z_gnil, ↓DL.z_wipe0, ↓DL.z_wipe, ↓DL.z_mt, ↓DL.z_ty0, ↓DL.z_ty1, ↓DL.z_app0, ↓DL.z_app1, ↓DL.z_raise, ↓DL.z_ra, ↓DL.z_is_i_bool, ↓DL.z_is_i_int, ↓DL.z_is_i_str, ↓DL.z_is_i_tuple, ↓DL.z_is_i_list, ↓DL.z_is_b_bool, ↓DL.z_is_b_int, ↓DL.z_is_b_str, ↓DL.z_is_b_tuple, ↓DL.z_is_b_list, ↓DL.z_is_s_bool, ↓DL.z_is_s_int, ↓DL.z_is_s_str, ↓DL.z_is_s_tuple, ↓DL.z_is_s_list, ↓DL.z_is_l_bool, ↓DL.z_is_l_int, ↓DL.z_is_l_str, ↓DL.z_is_l_tuple, ↓DL.z_is_l_list, ↓DL.z_is_t_bool, ↓DL.z_is_t_int, ↓DL.z_is_t_str, ↓DL.z_is_t_tuple, ↓DL.z_is_t_list, ↓DL.z_is_n_bool, ↓DL.z_is_n_int, ↓DL.z_is_n_str, ↓DL.z_is_n_tuple, ↓DL.z_is_n_list, ↓DL.z_gslc, ↓DL.z_sc0, ↓DL.z_listO, ↓DL.z_lol, ↓DL.z_lot, ↓DL.z_fsum, ↓DL.z_own1, ↓DL.z_glen, ↓DL.z_gall, ↓DL.z_ixown, ↓DL.z_listG, ↓DL.z_ownit, ↓DL.z_fld, ↓DL.z_fz, ↓DL.z_fzs, ↓DL.z_xisi, ↓DL.z_xi, ↓DL.z_xval, ↓DL.z_xv, ↓DL.z_ixm, ↓DL.z_lm, ↓dTrim, ↓dLc, ↓dLcO, ↓dEnds, ↓z_gd1, ↓z_gd2, ↓z_gd3, ↓z_gdi, ↓z_gdo, slots, ↓reduceIte, decide_eq_true_eq, Bool.false_eq_true, Bool.not_true, Bool.not_false, decide_true, decide_false, Int.reduceEq, Int.reduceSub, Int.reduceAdd, Int.reduceLT, Int.reduceNeg, and_self, true_and, and_true]
    refine fun p1 => mk_ (s := []) (js := []) rfl (.inr rfl) (by decide) (by decide) ?_ p1
    refine ⟨[], [], [], rfl, rfl, rfl, by decide, by decide, ?_⟩
    simp only [List.map_cons, List.map_nil, List.length_cons, List.length_nil, Nat.reduceSub, Nat.reduceAdd, Nat.zero_add, Nat.sub_self, List.replicate, List.cons_append, List.nil_append, List.append_nil, List.set_cons_zero, List.set_cons_succ, List.take_succ_cons, List.take_zero, List.drop_zero, List.drop_succ_cons, List.drop_nil, List.take_nil, Nat.reduceLeDiff, ↓DL.z_var0, ↓DL.z_varS, ↓DL.z_name0, ↓DL.z_nameS, ↓DL.z_c, ↓DL.z_seq, ↓DL.z_next, ↓DL.z_if, ↓DL.z_asg, ↓DL.z_ret, ↓DL.z_drop, ↓DL.z_val, ↓DL.z_bl, ↓DL.z_and, ↓DL.z_or, ↓DL.z_not, ↓DL.z_bin, ↓DL.z_cb, ↓DL.z_nil, ↓DL.z_cons, ↓DL.z_i0, ↓DL.z_i, ↓DL.z_mul, ↓DL.z_add, ↓DL.z_lt, ↓DL.z_le, ↓DL.z_gt, ↓DL.z_ge, ↓DL.z_eq, ↓DL.z_ne, ↓DL.z_len, ↓DL.z_lens, ↓DL.z_int, ↓DL.z_intb, ↓DL.z_ixO, ↓DL.z_ix0, ↓DL.z_ix1, ↓DL.z_ix2, ↓DL.z_ix3, ↓DL.z_ix4, ↓DL.z_gsub, ↓DL.z_sub1, ↓DL.z_sub2, ↓DL.z_sub3, ↓DL.z_sub4, ↓DL.z_for, ↓DL.z_itA, ↓DL.z_any, ↓DL.z_itl, ↓DL.z_itt, ↓DL.z_its, ↓DL.z_lcg, ↓DL.z_yes, ↓DL.z_ifx, ↓DL.z_tup, ↓DL.z_lst, ↓DL.z_lstO, ↓DL.z_nop, ↓DL.z_part, ↓DL.z_pa, ↓DL.z_slx, ↓DL.z_sll, ↓DL.z_slt, ↓DL.z_sls, ↓DL.z_chain, ↓DL.z_ch, ↓DL.z_andv, ↓DL.z_orv, ↓DL.z_fnot, ↓DL.z_un, ↓DL.z_neg, ↓DL.z_call, ↓DL.z_prop, ↓DL.z_meth, ↓DL.z_make, ↓DL.z_obj, ↓DL.z_fl, ↓DL.z_flt, ↓DL.z_flf, ↓DL.z_ft, ↓DL.z_ftt, ↓DL.z_lent, ↓DL.z_adds, ↓DL.z_addl, ↓DL.z_addt, ↓DL.z_eqs, ↓DL.z_nes, ↓DL.z_eqb, ↓DL.z_eqn, ↓DL.z_eql, ↓DL.z_nel, ↓DL.z_isn, ↓DL.z_isnn, ↓DL.z_ins, ↓DL.z_nins, ↓DL.z_ixt, ↓DL.z_l0, ↓DL.z_l1, ↓DL.z_l2, ↓DL.z_rng, ↓DL.z_enl, ↓DL.z_ent, ↓DL.z_gtup, ↓DL.z_gcons, ↓DL.z_gnil, ↓DL.z_wipe0, ↓DL.z_wipe, ↓DL.z_mt, ↓DL.z_ty0, ↓DL.z_ty1, ↓DL.z_app0, ↓DL.z_app1, ↓DL.z_raise, ↓DL.z_ra, ↓DL.z_is_i_bool, ↓DL.z_is_i_int, ↓DL.z_is_i_str, ↓DL.z_is_i_tuple, ↓DL.z_is_i_list, ↓DL.z_is_b_bool, ↓DL.z_is_b_int, ↓DL.z_is_b_str, ↓DL.z_is_b_tuple, ↓DL.z_is_b_list, ↓DL.z_is_s_bool, ↓DL.z_is_s_int, ↓DL.z_is_s_str, ↓DL.z_is_s_tuple, ↓DL.z_is_s_list, ↓DL.z_is_l_bool, ↓DL.z_is_l_int, ↓DL.z_is_l_str, ↓DL.z_is_l_tuple, ↓DL.z_is_l_list, ↓DL.z_is_t_bool, ↓DL.z_is_t_int, ↓DL.z_is_t_str, ↓DL.z_is_t_tuple, ↓DL.z_is_t_list, ↓DL.z_is_n_bool, ↓DL.z_is_n_int, ↓DL.z_is_n_str, ↓DL.z_is_n_tuple, ↓DL.z_is_n_list, ↓DL.z_gslc, ↓DL.z_sc0, ↓DL.z_listO, ↓DL.z_lol, ↓DL.z_lot, ↓DL.z_fsum, ↓DL.z_own1, ↓DL.z_glen, ↓DL.z_gall, ↓DL.z_ixown, ↓DL.z_listG, ↓DL.z_ownit, ↓DL.z_fld, ↓DL.z_fz, ↓DL.z_fzs, ↓DL.z_xisi, ↓DL.z_xi, ↓DL.z_xval, ↓DL.z_xv, ↓DL.z_ixm, ↓DL.z_lm, ↓dTrim, ↓dLc, ↓dLcO, ↓dEnds, ↓z_gd1, ↓z_gd2, ↓z_gd3, ↓z_gdi, ↓z_gdo, slots, ↓reduceIte, decide_eq_true_eq, Bool.false_eq_true, Bool.not_true, Bool.not_false, decide_true, decide_false, Int.reduceEq, Int.reduceSub, Int.reduceAdd, Int.reduceLT, Int.reduceNeg, and_self, true_and, and_true]
    refine ⟨p, cells, _, _, _, _, s, J3, e3, rfl, rfl, hp3, by omega, by omega, fun i' a' b' c' => ?_⟩
    simp only [List.map_cons, List.map_nil, List.length_cons, List.length_nil, Nat.reduceSub, Nat.reduceAdd, Nat.zero_add, Nat.sub_self, List.replicate, List.cons_append, List.nil_append, List.append_nil, List.set_cons_zero, List.set_cons_succ, List.take_succ_cons, List.take_zero, List.drop_zero, List.drop_succ_cons, List.drop_nil, List.take_nil, Nat.reduceLeDiff, ↓DL.z_var0, ↓DL.z_varS, ↓DL.z_name0, ↓DL.z_nameS, ↓DL.z_c, ↓DL.z_seq, ↓DL.z_next, ↓DL.z_if, ↓DL.z_asg, ↓DL.z_ret, ↓DL.z_drop, ↓DL.z_val, ↓DL.z_bl, ↓DL.z_and, ↓DL.z_or, ↓DL.z_not, ↓DL.z_bin, ↓DL.z_cb, ↓DL.z_nil, ↓DL.z_cons, ↓DL.z_i0, ↓DL.z_i, ↓DL.z_mul, ↓DL.z_add, ↓DL.z_lt, ↓DL.z_le, ↓DL.z_gt, ↓DL.z_ge, ↓DL.z_eq, ↓DL.z_ne, ↓DL.z_len, ↓DL.z_lens, ↓DL.z_int, ↓DL.z_intb, ↓DL.z_ixO, ↓DL.z_ix0, ↓DL.z_ix1, ↓DL.z_ix2, ↓DL.z_ix3, ↓DL.z_ix4, ↓DL.z_gsub, ↓DL.z_sub1, ↓DL.z_sub2, ↓DL.z_sub3, ↓DL.z_sub4, ↓DL.z_for, ↓DL.z_itA, ↓DL.z_any, ↓DL.z_itl, ↓DL.z_itt, ↓DL.z_its, ↓DL.z_lcg, ↓DL.z_yes, ↓DL.z_ifx, ↓DL.z_tup, ↓DL.z_lst, ↓DL.z_lstO, ↓DL.z_nop, ↓DL.z_part, ↓DL.z_pa, ↓DL.z_slx, ↓DL.z_sll, ↓DL.z_slt, ↓DL.z_sls, ↓DL.z_chain, ↓DL.z_ch, ↓DL.z_andv, ↓DL.z_orv, ↓DL.z_fnot, ↓DL.z_un, ↓DL.z_neg, ↓DL.z_call, ↓DL.z_prop, ↓DL.z_meth, ↓DL.z_make, ↓DL.z_obj, ↓DL.z_fl, ↓DL.z_flt, ↓DL.z_flf, ↓DL.z_ft, ↓DL.z_ftt, ↓DL.z_lent, ↓DL.z_adds, ↓DL.z_addl, ↓DL.z_addt, ↓DL.z_eqs, ↓DL.z_nes, ↓DL.z_eqb, ↓DL.z_eqn, ↓DL.z_eql, ↓DL.z_nel, ↓DL.z_isn, ↓DL.z_isnn, ↓DL.z_ins, ↓DL.z_nins, ↓DL.z_ixt, ↓DL.z_l0, ↓DL.z_l1, ↓DL.z_l2, ↓DL.z_rng, ↓DL.z_enl, ↓DL.z_ent, ↓DL.z_gtup, ↓DL.z_gcons, ↓DL.z_gnil, ↓DL.z_wipe0, ↓DL.z_wipe, ↓DL.z_mt, ↓DL.z_ty0, ↓DL.z_ty1, ↓DL.z_app0, ↓DL.z_app1, ↓DL.z_raise, ↓DL.z_ra, ↓DL.z_is_i_bool, ↓DL.z_is_i_int, ↓DL.z_is_i_str, ↓DL.z_is_i_tuple, ↓DL.z_is_i_list, ↓DL.z_is_b_bool, ↓DL.z_is_b_int, ↓DL.z_is_b_str, ↓DL.z_is_b_tuple, ↓DL.z_is_b_list, ↓DL.z_is_s_bool, ↓DL.z_is_s_int, ↓DL.z_is_s_str, ↓DL.z_is_s_tuple, ↓DL.z_is_s_list, ↓DL.z_is_l_bool, ↓DL.z_is_l_int, ↓DL.z_is_l_str, ↓DL.z_is_l_tuple, ↓DL.z_is_l_list, ↓DL.z_is_t_bool, ↓DL.z_is_t_int, ↓DL.z_is_t_str, ↓DL.z_is_t_tuple, ↓DL.z_is_t_list, ↓DL.z_is_n_bool, ↓DL.z_is_n_int, ↓DL.z_is_n_str, ↓DL.z_is_n_tuple, ↓DL.z_is_n_list, ↓DL.z_gslc, ↓DL.z_sc0, ↓DL.z_listO, ↓DL.z_lol, ↓DL.z_lot, ↓DL.z_fsum, ↓DL.z_own1, ↓DL.z_glen, ↓DL.z_gall, ↓DL.z_ixown, ↓DL.z_listG, ↓DL.z_ownit, ↓DL.z_fld, ↓DL.z_fz, ↓DL.z_fzs, ↓DL.z_xisi, ↓DL.z_xi, ↓DL.z_xval, ↓DL.z_xv, ↓DL.z_ixm, ↓DL.z_lm, ↓dTrim, ↓dLc, ↓dLcO, ↓dEnds, ↓z_gd1, ↓z_gd2, ↓z_gd3, ↓z_gdi, ↓z_gdo, slots, ↓reduceIte, decide_eq_true_eq, Bool.false_eq_true, Bool.not_true, Bool.not_false, decide_true, decide_false, Int.reduceEq, Int.reduceSub, Int.reduceAdd, Int.reduceLT, Int.reduceNeg, and_self, true_and, and_true]
    refine ⟨p, cells, _, _, _, _, [], [(0, [97, 98]), (1, [99, 100]), (4, [101])], [97, 99, 100, 98, 101], rfl, rfl, by rfl, by decide, by decide, fun i' a' b' c' => ?_⟩
    exact hq _
theorem sc_Growth_stages : GScope ["self", "row", "gap", "group"] ["self"] (defScope (cb 15 2)) := ⟨rfl, rfl, rfl, by decide +kernel, rfl, by decide +kernel, by decide +kernel⟩
theorem ok_Growth_stages (fx : Fx K mg C Dd) (h_row_after : FDa P w K mg base C "row_after" 1 3 [] (df_row_after)) (F : FunD K "stages" "Growth.stages" (defArgs (cb 15 2)) (defBody (cb 15 2)) (defScope (cb 15 2)) [] [] fa fd) : GFn P w K mg base 2 fa fd ["self"] (spGn C K df_Growth_stages) := by
  refine okG (k := 1) F sc_Growth_stages (fun cdv A outer s H E pn hr => (gss_cn (gs_pl (s_set 1 sc_Growth_stages.nd (e_fld 1 fx.fn_1 fx.fo_1 (e_var 0)))) (gss_cn (gs_yl (e_var 1)) (gss_cn (gs_fr PassesOwn.leaving rfl (i_any (e_fld 2 fx.fn_2 fx.fo_2 (e_var 0))) (g_tup (n := 2) rfl (gs_cons (g_name 2 sc_Growth_stages.nd) (gs_cons (g_name 3 sc_Growth_stages.nd) gs_nil))) (gss_cn (gs_pl (s_set 1 sc_Growth_stages.nd (e_call 0 h_row_after (hr.mono (by decide)) takes0 (a_cons (e_var 1) (a_cons (e_var 2) (a_cons (e_var 3) a_nil)))))) (gss_cn (gs_yl (e_var 1)) gss_nl))) gss_nl)))) ?_
  intro d Q h
  obtain ⟨s, js, e, rfl, hp, ht, hn, hq⟩ := h
  simp only [dSeq, dNext, dRet, dRetN, dDrop, dBreak, dCont, dAsg, dIfS, dFor, dWhile, dAny, dItA, dVar, dC, dBin, dUn, dVal, dChain, dAnd, dOr, dNot, dAndV, dOrV, dIf, dTup, dLst, dLstO, dNil, dCons, dIxO, dNoP, dPart, dSl, dCB, dCall, dMeth, dProp, dFld, dMake, dSetF, dMt, dFz, dFzS, dTrim, dLend, dgName, dgTup, dgCons, dgSub, dgSlc, dLc, dLcO, dLcG, tYesD, dRaise, dTry, dXval, dXisi, dOwn1, dIxOwn, dOwnIt, dListG, dListO, dEnds, slots, fItems, fAdd, fI, fI0, fIx, fLen, fInt, fList, fTuple, fIsi, fRng1, fRng2, fEnumA, fNot, fNeg, fEq, fNe, fLt, fLe, fGt, fGe, fIs, fIsNot, fIn, fNotIn, fMul, eqG, inG, gLen, gAll, fApp, hush, gPlain, gYield, gThen, gNx, gFor, List.map_cons, List.map_nil, List.length_cons, List.length_nil, Nat.reduceSub, Nat.reduceAdd, Nat.zero_add, Nat.sub_self, List.replicate, List.cons_append, List.nil_append, List.append_nil, List.getElem?_cons_zero, List.getElem?_cons_succ, List.set_cons_zero, List.set_cons_succ, List.take_succ_cons, List.take_zero, List.drop_zero, List.drop_succ_cons, List.drop_nil, List.take_nil, gD, Option.some.injEq, exists_eq_left', List.lookup_cons, Nat.reduceBEq, List.mem_cons, List.mem_singleton, true_and, and_true, List.mem_nil_iff, or_false, List.not_mem_nil]
  refine ⟨by omega, fun k os δ μ => ∃ r a b, play s (js.take k) = .inr r ∧ os ++ ((stg r (js.drop k)).drop 1).map D.str = (stg s js).map D.str ∧ os.length = k + 1 ∧ μ = [] ∧ δ = [some (gD s js e), some (.str r), a, b],
    ⟨s, _, _, rfl, ?_, rfl, rfl, rfl⟩, ?_, ?_⟩
  · rw [List.drop_zero]; cases js <;> rfl
  · rintro k d os δ μ hd ⟨r, a, b, h1, h2, h3, rfl, rfl⟩
    obtain ⟨⟨g, w⟩, hj, rfl⟩ := jsD_get hd
    have hk := lt_ hj
    obtain ⟨r', h4, h5, h6, h7, h8, h9⟩ := step_ hp hj
    cases h4.symm.trans h1
    simp only [dSeq, dNext, dRet, dRetN, dDrop, dBreak, dCont, dAsg, dIfS, dFor, dWhile, dAny, dItA, dVar, dC, dBin, dUn, dVal, dChain, dAnd, dOr, dNot, dAndV, dOrV, dIf, dTup, dLst, dLstO, dNil, dCons, dIxO, dNoP, dPart, dSl, dCB, dCall, dMeth, dProp, dFld, dMake, dSetF, dMt, dFz, dFzS, dTrim, dLend, dgName, dgTup, dgCons, dgSub, dgSlc, dLc, dLcO, dLcG, tYesD, dRaise, dTry, dXval, dXisi, dOwn1, dIxOwn, dOwnIt, dListG, dListO, dEnds, slots, fItems, fAdd, fI, fI0, fIx, fLen, fInt, fList, fTuple, fIsi, fRng1, fRng2, fEnumA, fNot, fNeg, fEq, fNe, fLt, fLe, fGt, fGe, fIs, fIsNot, fIn, fNotIn, fMul, eqG, inG, gLen, gAll, fApp, hush, gPlain, gYield, gThen, gNx, gFor, List.map_cons, List.map_nil, List.length_cons, List.length_nil, Nat.reduceSub, Nat.reduceAdd, Nat.zero_add, Nat.sub_self, List.replicate, List.cons_append, List.nil_append, List.append_nil, List.getElem?_cons_zero, List.getElem?_cons_succ, List.set_cons_zero, List.set_cons_succ, List.take_succ_cons, List.take_zero, List.drop_zero, List.drop_succ_cons, List.drop_nil, List.take_nil, gD, Option.some.injEq, exists_eq_left', List.lookup_cons, Nat.reduceBEq, List.mem_cons, List.mem_singleton, true_and, and_true, List.mem_nil_iff, or_false, List.not_mem_nil, jD]
    refine ⟨r, w, g, rfl, h5, h6, by omega, ?_⟩
    simp only [dSeq, dNext, dRet, dRetN, dDrop, dBreak, dCont, dAsg, dIfS, dFor, dWhile, dAny, dItA, dVar, dC, dBin, dUn, dVal, dChain, dAnd, dOr, dNot, dAndV, dOrV, dIf, dTup, dLst, dLstO, dNil, dCons, dIxO, dNoP, dPart, dSl, dCB, dCall, dMeth, dProp, dFld, dMake, dSetF, dMt, dFz, dFzS, dTrim, dLend, dgName, dgTup, dgCons, dgSub, dgSlc, dLc, dLcO, dLcG, tYesD, dRaise, dTry, dXval, dXisi, dOwn1, dIxOwn, dOwnIt, dListG, dListO, dEnds, slots, fItems, fAdd, fI, fI0, fIx, fLen, fInt, fList, fTuple, fIsi, fRng1, fRng2, fEnumA, fNot, fNeg, fEq, fNe, fLt, fLe, fGt, fGe, fIs, fIsNot, fIn, fNotIn, fMul, eqG, inG, gLen, gAll, fApp, hush, gPlain, gYield, gThen, gNx, gFor, List.map_cons, List.map_nil, List.length_cons, List.length_nil, Nat.reduceSub, Nat.reduceAdd, Nat.zero_add, Nat.sub_self, List.replicate, List.cons_append, List.nil_append, List.append_nil, List.getElem?_cons_zero, List.getElem?_cons_succ, List.set_cons_zero, List.set_cons_succ, List.take_succ_cons, List.take_zero, List.drop_zero, List.drop_succ_cons, List.drop_nil, List.take_nil, gD, Option.some.injEq, exists_eq_left', List.lookup_cons, Nat.reduceBEq, List.mem_cons, List.mem_singleton, true_and, and_true, List.mem_nil_iff, or_false, List.not_mem_nil]
    refine ⟨by omega, _, _, _, h8, ?_, by simp [h3], rfl⟩
    rw [drop1 hj] at h2
    rw [← h2]
    simp only [stg, List.drop_succ_cons, List.drop_zero, List.append_assoc, List.cons_append, List.nil_append]
    cases js.drop (k + 1) <;> rfl
  · rintro os δ μ ⟨r, a, b, h1, h2, h3, rfl, rfl⟩
    rw [jsD_len, List.drop_length] at h2
    simp only [stg, List.drop_succ_cons, List.drop_nil, List.map_nil, List.append_nil] at h2
    rw [h2]; exact hq
end
end K04

namespace K04
open PySem PySem.Spec PyProof.Rows L2 DL
def fldN : List PySem.Str := ["value", "start", "joins", "_end"]
def clsA (K : PySem.W.Frag) : Nat → Addr
  | 0 => He.ga K "Growth"
  | 1 => He.ga K "InvalidGroup"
  | 2 => He.ga K "GapOutOfRange"
  | _ => 0
def CC (K : PySem.W.Frag) : DC := ⟨fldOf fldN, clsA K, fld_inj fldN (by decide +kernel) (by decide +kernel)⟩
theorem sc_iter : FnScope ["self"] ["self"] (defScope (cb 15 9)) := ⟨rfl, rfl, rfl, by decide +kernel, rfl, by decide +kernel, by decide +kernel⟩
section
variable {w : World} {K : PySem.W.Frag} {h : Heap} {mg : PySem.Str → Option Value} {f : Addr}
theorem fx_ (X : K.In h) (G : h.Ns mainGlobals mg) (c : SaysB fa fn ge ex K) : Fx K mg (CC K) (He.ga K "GrowsError") := by
  obtain ⟨e0, e1⟩ := dec2 c.more
  obtain ⟨e2, e1⟩ := dec2 e1
  obtain ⟨e3, e1⟩ := dec2 e1
  obtain ⟨e4, e1⟩ := dec2 e1
  obtain ⟨k11, e1⟩ := dec2 e1
  obtain ⟨k12, e1⟩ := dec2 e1
  obtain ⟨k21, e1⟩ := dec2 e1
  obtain ⟨k22, e1⟩ := dec2 e1
  obtain ⟨k1v, k2v⟩ := dec2 e1
  obtain ⟨g0, g1⟩ := dec2 e0
  simp only [List.all_cons, List.all_nil, Bool.and_true] at g1
  obtain ⟨i1, i2⟩ := dec2 g1
  obtain ⟨i1a, i1b⟩ := dec2 i1
  obtain ⟨i1b, i1c⟩ := dec2 i1b
  obtain ⟨i2a, i2b⟩ := dec2 i2
  obtain ⟨i2b, i2c⟩ := dec2 i2b
  obtain ⟨x1, y1⟩ := excB_ok i1b
  obtain ⟨x2, y2⟩ := excB_ok i2b
  have two : ∀ {p : Nat → Prop} {c : Nat}, isGE c = some true → p 1 → p 2 → p c := fun {p c} hc h1 h2 => by
    unfold isGE at hc
    split at hc
    · rename_i hc2; rcases hc2 with rfl | rfl
      · exact h1
      · exact h2
    · cases hc
  have cg := He.cls_ok (c.a.fact 35 (f := .cls "Growth") rfl)
  exact {
    ValueError := (He.free_ok X G (c.a.fact 31 (f := .free "ValueError") rfl))
    abs := (He.free_ok X G (c.a.fact 26 (f := .free "abs") rfl))
    bool := (He.free_ok X G (c.a.fact 32 (f := .free "bool") rfl))
    enumerate := (He.free_ok X G (c.a.fact 24 (f := .free "enumerate") rfl))
    int := (He.free_ok X G (c.a.fact 21 (f := .free "int") rfl))
    isinstance := (He.free_ok X G (c.a.fact 22 (f := .free "isinstance") rfl))
    len := (He.free_ok X G (c.a.fact 19 (f := .free "len") rfl))
    list := (He.free_ok X G (c.a.fact 20 (f := .free "list") rfl))
    range := (He.free_ok X G (c.a.fact 23 (f := .free "range") rfl))
    str := (He.free_ok X G (c.a.fact 33 (f := .free "str") rfl))
    sum := (He.free_ok X G (c.a.fact 27 (f := .free "sum") rfl))
    tuple := (He.free_ok X G (c.a.fact 25 (f := .free "tuple") rfl))
    c_LETTERS := by
      obtain ⟨t, ht⟩ := He.str_ok X G (c.a.fact 34 (f := .str "LETTERS" "abcdefghijklmnopqrstuvwxyz") rfl)
      exact ⟨_, ht, t, rfl⟩
    f_getitem := fun fa hf => by
      have m := (He.meth_ok (c.a.fact 44 (f := .meth "Growth" "__getitem__") rfl)).at_
      have := m.symm.trans hf
      simp only [Option.some.injEq, Value.ref.injEq] at this
      rw [← this]
      exact e4
    fn_0 := rfl
    fn_1 := rfl
    fn_2 := rfl
    fn_3 := rfl
    fo_1 := fun c9 hc => by
      rw [List.mem_singleton.mp hc]
      exact ⟨cg, He.noat_ok (c.a.fact 36 (f := .noat "Growth" "start") rfl)⟩
    fo_2 := fun c9 hc => by
      rw [List.mem_singleton.mp hc]
      exact ⟨cg, He.noat_ok (c.a.fact 37 (f := .noat "Growth" "joins") rfl)⟩
    fo_3 := fun c9 hc => by
      rw [List.mem_singleton.mp hc]
      exact ⟨cg, He.noat_ok (c.a.fact 38 (f := .noat "Growth" "_end") rfl)⟩
    k_InvalidGroup := (He.glo_ok X G (c.a.fact 1 (f := .glo "InvalidGroup") rfl))
    k_GapOutOfRange := (He.glo_ok X G (c.a.fact 2 (f := .glo "GapOutOfRange") rfl))
    n_GrowsError := (He.glo_ok X G (c.a.fact 0 (f := .glo "GrowsError") rfl))
    x_GrowsError := fun c9 b hb => by
      have hb2 : isGE c9 = some true ∧ b = true := by
        unfold isGE at hb ⊢
        split at hb
        · rename_i h; cases hb; simp [h]
        · cases hb
      obtain ⟨hb2, rfl⟩ := hb2
      exact two (p := fun c => PySem.W.exmOne K (.ref ((CC K).cls c)) (.ref (He.ga K "GrowsError")) = some true) hb2 (He.exm_ok (c.a.fact 46 (f := .exm "InvalidGroup" "GrowsError" true) rfl)) (He.exm_ok (c.a.fact 47 (f := .exm "GapOutOfRange" "GrowsError" true) rfl))
    xc := fun c hc => two (p := fun c => ExcC K ((CC K).cls c)) hc y1 y2
    xf := fun c hc => two (p := fun c => XfC K ((CC K).cls c)) hc x1 x2
    xn := fun c hc => two (p := fun c => PySem.W.findIn K (.ref ((CC K).cls c)) "value" = some none) hc (geCB_ok i1a).no (geCB_ok i2a).no
    xi := fun c hc k b hb => by
      refine two (p := fun c => isX c k = some b → ∃ cv, clsV (CC K) k = some cv ∧ PySem.W.kitOne K (.ref ((CC K).cls c)) cv = some b) hc ?_ ?_ hb
      all_goals
        intro hb
        unfold isX at hb
        split at hb
        · rename_i c'
          split at hb
          · rename_i h; rcases h with rfl | rfl <;> cases hb
            · exact ⟨_, rfl, kitB_ok ‹_›⟩
            · exact ⟨_, rfl, kitB_ok ‹_›⟩
          · cases hb
        · rename_i n
          split at hb
          · rename_i h; cases hb; rw [h]; exact ⟨_, rfl, kitB_ok ‹_›⟩
          · cases hb
        · cases hb }
theorem facts (X : K.In h) (G : h.Ns mainGlobals mg) (hfa : mg ("law" : PySem.Str) = some (.ref f)) (c : SaysB fa fn ge ex K) :
    ∃ fd : FuncData, (∀ (s : Shared) (v : Value), BindsTo s fd ⟨[v], []⟩ [("script", v)]) ∧ ∀ base : Heap, FnOk PG w K mg base (L2.CX PG w) 8 f fd ["script"] (spOf (CC K) K 1 df_law) := by
  have fx := fx_ X G c
  obtain ⟨e0, e1⟩ := dec2 c.more
  obtain ⟨e2, e1⟩ := dec2 e1
  obtain ⟨e3, e1⟩ := dec2 e1
  obtain ⟨g0, g1⟩ := dec2 e0
  simp only [List.all_cons, List.all_nil, Bool.and_true] at g1
  obtain ⟨i1, i2⟩ := dec2 g1
  obtain ⟨i1a, i1b⟩ := dec2 i1
  obtain ⟨i1b, i1c⟩ := dec2 i1b
  obtain ⟨i2a, i2b⟩ := dec2 i2
  obtain ⟨i2b, i2c⟩ := dec2 i2b
  have cg : Cls K ((CC K).cls 0) := He.cls_ok (c.a.fact 35 (f := .cls "Growth") rfl)
  have nf : ∀ m : PySem.Str, m ∉ fldN → m.cps.toList.length < 100 → ∀ i, (CC K).fld i ≠ m := fun m h1 h2 => fld_ne fldN h1 h2
  obtain ⟨ti, fdE, gf, bE⟩ := geF_ok (P := PG) (mg := mg) (D := He.ga K "GrowsError") (fI := geI K) (qual := "GrowsError.__init__") g0 (c.ge 0) rfl (fun env => ⟨_, rfl⟩) (He.free_ok X G (c.a.fact 30 (f := .free "super") rfl)) (He.free_ok X G (c.a.fact 29 (f := .free "repr") rfl)) (by decide +kernel)
  obtain ⟨d0, F0⟩ := c.a.def_ 0 (d := gd "is_group" 10) rfl
  obtain ⟨d1, F1⟩ := c.a.def_ 1 (d := gd "check_group" 11) rfl
  obtain ⟨d2, F2⟩ := c.a.def_ 2 (d := gd "row_after" 14) rfl
  obtain ⟨d3, F3⟩ := c.a.def_ 3 (d := gd "_law_new" 17) rfl
  obtain ⟨d4, F4⟩ := c.a.def_ 4 (d := gd "_law_draw" 18) rfl
  obtain ⟨d5, F5⟩ := c.a.def_ 5 (d := gd "_law_same" 19) rfl
  obtain ⟨d6, F6⟩ := c.a.def_ 6 (d := gd "_law_word" 20) rfl
  obtain ⟨d7, F7⟩ := c.a.def_ 7 (d := gd "_law_groups" 21) rfl
  obtain ⟨d8, F8⟩ := c.a.def_ 8 (d := gd "_law_joins" 22) rfl
  obtain ⟨d9, F9⟩ := c.a.def_ 9 (d := gd "_law_line" 23) rfl
  obtain ⟨d10, F10⟩ := c.a.def_ 10 (d := gd "_law_tells" 24) rfl
  obtain ⟨d11, F11⟩ := c.a.def_ 11 (d := gd "_law_told" 25) rfl
  obtain ⟨d12, F12⟩ := c.a.def_ 12 (d := gd "_law_due" 26) rfl
  obtain ⟨d13, F13⟩ := c.a.def_ 13 (d := gd "_law_refuses" 27) rfl
  obtain ⟨d14, F14⟩ := c.a.def_ 14 (d := gd "law" 28) rfl
  obtain ⟨d15, F15⟩ := c.a.def_ 15 (d := md "Growth" "__init__" "Growth.__init__" 15 0 [.adr (He.dflAt ("Growth", some "__init__") 0)]) rfl
  obtain ⟨d16, F16⟩ := c.a.def_ 16 (d := ⟨pAt "Growth" "row", "row", "Growth.row", defArgs (cb 15 1), defBody (cb 15 1), defScope (cb 15 1), [], []⟩) rfl
  obtain ⟨d17, F17⟩ := c.a.def_ 17 (d := md "Growth" "stages" "Growth.stages" 15 2) rfl
  obtain ⟨d18, F18⟩ := c.a.def_ 18 (d := md "Growth" "owners" "Growth.owners" 15 3) rfl
  obtain ⟨d19, F19⟩ := c.a.def_ 19 (d := md "Growth" "__len__" "Growth.__len__" 15 8) rfl
  obtain ⟨d20, F20⟩ := c.a.def_ 20 (d := md "Growth" "__iter__" "Growth.__iter__" 15 9) rfl
  obtain ⟨d21, F21⟩ := c.a.def_ 21 (d := md "Growth" "__getitem__" "Growth.__getitem__" 15 10) rfl
  obtain ⟨d22, F22⟩ := c.a.def_ 22 (d := md "Growth" "__abs__" "Growth.__abs__" 15 15) rfl
  have B0 := FunD.bindsN (ps := ["group"]) F0 fun _ _ _ _ _ _ us hl => match us, hl with | [_], _ => rfl
  have B1 := FunD.bindsN (ps := ["group"]) F1 fun _ _ _ _ _ _ us hl => match us, hl with | [_], _ => rfl
  have B2 := FunD.bindsN (ps := ["row", "gap", "group"]) F2 fun _ _ _ _ _ _ us hl => match us, hl with | [_, _, _], _ => rfl
  have B3 := FunD.bindsN (ps := ["script"]) F3 fun _ _ _ _ _ _ us hl => match us, hl with | [_], _ => rfl
  have B4 := FunD.bindsN (ps := ["state", "many"]) F4 fun _ _ _ _ _ _ us hl => match us, hl with | [_, _], _ => rfl
  have B5 := FunD.bindsN (ps := ["actual", "due"]) F5 fun _ _ _ _ _ _ us hl => match us, hl with | [_, _], _ => rfl
  have B6 := FunD.bindsN (ps := ["state", "signs", "least", "top"]) F6 fun _ _ _ _ _ _ us hl => match us, hl with | [_, _, _, _], _ => rfl
  have B7 := FunD.bindsN (ps := ["state", "signs", "top", "size"]) F7 fun _ _ _ _ _ _ us hl => match us, hl with | [_, _, _, _], _ => rfl
  have B8 := FunD.bindsN (ps := ["state", "row", "groups", "top"]) F8 fun _ _ _ _ _ _ us hl => match us, hl with | [_, _, _, _], _ => rfl
  have B9 := FunD.bindsN (ps := ["start", "joins"]) F9 fun _ _ _ _ _ _ us hl => match us, hl with | [_, _], _ => rfl
  have B10 := FunD.bindsN (ps := ["growth", "start", "joins"]) F10 fun _ _ _ _ _ _ us hl => match us, hl with | [_, _, _], _ => rfl
  have B11 := FunD.bindsN (ps := ["start", "joins"]) F11 fun _ _ _ _ _ _ us hl => match us, hl with | [_, _], _ => rfl
  have B12 := FunD.bindsN (ps := ["start", "joins"]) F12 fun _ _ _ _ _ _ us hl => match us, hl with | [_, _], _ => rfl
  have B13 := FunD.bindsN (ps := ["state", "start", "joins"]) F13 fun _ _ _ _ _ _ us hl => match us, hl with | [_, _, _], _ => rfl
  have B14 := FunD.bindsN (ps := ["script"]) F14 fun _ _ _ _ _ _ us hl => match us, hl with | [_], _ => rfl
  obtain ⟨ds1, v1, b1⟩ := FunD.binds1 (ps := ["self", "start", "joins"]) F15 2 0 (List.cons_ne_nil _ _) rfl fun T kV doc pm an cdv ct us its hu hi => match us, its, hu, hi with | [_, _], [_], _, _ => ⟨_, rfl, rfl⟩
  obtain ⟨ds2, v2, b2⟩ := FunD.binds1 (ps := ["self", "start", "joins"]) F15 3 1 (List.cons_ne_nil _ _) rfl fun T kV doc pm an cdv ct us its hu hi => match us, its, hu, hi with | [_, _, _], [_], _, _ => ⟨_, rfl, rfl⟩
  have B16 := FunD.bindsN (ps := ["self"]) F16 fun _ _ _ _ _ _ us hl => match us, hl with | [_], _ => rfl
  have B17 := FunD.bindsN (ps := ["self"]) F17 fun _ _ _ _ _ _ us hl => match us, hl with | [_], _ => rfl
  have B18 := FunD.bindsN (ps := ["self"]) F18 fun _ _ _ _ _ _ us hl => match us, hl with | [_], _ => rfl
  have B19 := FunD.bindsN (ps := ["self"]) F19 fun _ _ _ _ _ _ us hl => match us, hl with | [_], _ => rfl
  have B20 := FunD.bindsN (ps := ["self"]) F20 fun _ _ _ _ _ _ us hl => match us, hl with | [_], _ => rfl
  have B21 := FunD.bindsN (ps := ["self", "at"]) F21 fun _ _ _ _ _ _ us hl => match us, hl with | [_, _], _ => rfl
  have B22 := FunD.bindsN (ps := ["self"]) F22 fun _ _ _ _ _ _ us hl => match us, hl with | [_], _ => rfl
  have L : (∀ (s : Shared) (v : Value), BindsTo s d14 ⟨[v], []⟩ [("script", v)]) := fun s v => FunD.bindsA (ps := ["script"]) F14 (fun _ _ _ _ _ _ us hl => match us, hl with | [_], _ => rfl) s [v] rfl
  have e := hfa.symm.trans (He.glo_ok X G (c.a.fact 18 (f := .glo "law") rfl))
  cases e
  refine ⟨_, L, fun base => ?_⟩
  have E1 : EDa PG w K mg base (CC K) (He.ga K "GrowsError") "InvalidGroup" 1 := EDa.of (He.glo_ok X G (c.a.fact 1 (f := .glo "InvalidGroup") rfl)) (geCB_ok i1a) rfl i1c ti gf bE
  have E2 : EDa PG w K mg base (CC K) (He.ga K "GrowsError") "GapOutOfRange" 2 := EDa.of (He.glo_ok X G (c.a.fact 2 (f := .glo "GapOutOfRange") rfl)) (geCB_ok i2a) rfl i2c ti gf bE
  have Q0 : FDa PG w K mg base (CC K) "is_group" 1 1 [] df_is_group := FDa.of F0 (He.glo_ok X G (c.a.fact 4 (f := .glo "is_group") rfl)) B0 (ok_is_group fx  F0) rfl
  have Q1 : FDa PG w K mg base (CC K) "check_group" 3 1 [] df_check_group := FDa.of F1 (He.glo_ok X G (c.a.fact 5 (f := .glo "check_group") rfl)) B1 (ok_check_group fx Q0 E1 F1) rfl
  have Q2 : FDa PG w K mg base (CC K) "row_after" 1 3 [] df_row_after := FDa.of F2 (He.glo_ok X G (c.a.fact 6 (f := .glo "row_after") rfl)) B2 (ok_row_after fx  F2) rfl
  have o0 : FnOk PG w K mg base (L2.CX PG w) 4 _ _ ["self", "start", "joins"] (spOf (CC K) K 3 df_Growth_init) := (ok_Growth_init fx E2 Q2 Q1 F15)
  have M2 : KDa PG w K mg base (CC K) "Growth" 0 4 2 [] df_Growth_init := KDa.of (He.glo_ok X G (c.a.fact 3 (f := .glo "Growth") rfl)) (He.mkr_ok (c.a.fact 39 (f := .mkr "Growth") rfl)) o0 v2 b2 (fun _ => .nil) rfl
  have M1 : KDa PG w K mg base (CC K) "Growth" 0 4 1 [.tup []] df_Growth_init := KDa.of (He.glo_ok X G (c.a.fact 3 (f := .glo "Growth") rfl)) (He.mkr_ok (c.a.fact 39 (f := .mkr "Growth") rfl)) o0 v1 b1 (fun G => .cons (.tup (mtB_ok e2 G) .nil) .nil) rfl
  have P0 : PDa PG w K mg base (CC K) 0 "row" 1 df_Growth_row := ⟨cg, _, _, _, _, propB_ok e3, (ok_Growth_row fx  F16), B16, rfl⟩
  have N0 : MDa PG w K mg base (CC K) 0 "owners" 1 0 [] df_Growth_owners := MDa.of cg (nf _ (by decide +kernel) (by decide +kernel)) (He.meth_ok (c.a.fact 41 (f := .meth "Growth" "owners") rfl)) B18 (ok_Growth_owners fx  F18) rfl
  have O_len : ODa PG w K mg base (CC K) 0 "__len__" 1 1 df_Growth_len := ODa.of cg (He.meth_ok (c.a.fact 42 (f := .meth "Growth" "__len__") rfl)) B19 (ok_Growth_len fx  F19) rfl
  have O_getitem : ODa PG w K mg base (CC K) 0 "__getitem__" 1 2 df_Growth_getitem := ODa.of cg (He.meth_ok (c.a.fact 44 (f := .meth "Growth" "__getitem__") rfl)) B21 (ok_Growth_getitem fx  F21) rfl
  have O_abs : ODa PG w K mg base (CC K) 0 "__abs__" 1 1 df_Growth_abs := ODa.of cg (He.meth_ok (c.a.fact 45 (f := .meth "Growth" "__abs__") rfl)) B22 (ok_Growth_abs fx  F22) rfl
  have G0 : GDa PG w K mg base (CC K) 0 "stages" 2 df_Growth_stages := GDa.of cg (nf _ (by decide +kernel) (by decide +kernel)) (He.meth_ok (c.a.fact 40 (f := .meth "Growth" "stages") rfl)) B17 (ok_Growth_stages fx Q2 F17) rfl
  have I0 : ItOwn PG w K mg base ((CC K).cls 0) "joins" 1 := ⟨cg, He.noat_ok (c.a.fact 37 (f := .noat "Growth" "joins") rfl), _, ⟨(He.meth_ok (c.a.fact 43 (f := .meth "Growth" "__iter__") rfl)).at_, (He.meth_ok (c.a.fact 43 (f := .meth "Growth" "__iter__") rfl)).fn⟩, fun A outer s H a dx t fs xs hr e0 ea l ht => iter_def F20 sc_iter (by decide +kernel) (by decide +kernel) (He.free_ok X G (c.a.fact 28 (f := .free "iter") rfl)) B20 hr e0 ea cg (He.noat_ok (c.a.fact 37 (f := .noat "Growth" "joins") rfl)) l ht⟩
  have Q3 : FDa PG w K mg base (CC K) "_law_new" 1 1 [] df_law_new := FDa.of F3 (He.glo_ok X G (c.a.fact 7 (f := .glo "_law_new") rfl)) B3 (ok_law_new fx  F3) rfl
  have Q4 : FDa PG w K mg base (CC K) "_law_draw" 1 2 [] df_law_draw := FDa.of F4 (He.glo_ok X G (c.a.fact 8 (f := .glo "_law_draw") rfl)) B4 (ok_law_draw fx  F4) rfl
  have S0 : FDa PG w K mg base (CC K) "_law_same" 0 2 [] (df_law_same 0) := FDa.of F5 (He.glo_ok X G (c.a.fact 9 (f := .glo "_law_same") rfl)) B5 (FnOk.no _ fun ds μ Q R ⟨x, _, h, _⟩ => by simp [sm] at h) rfl
  have S1 : FDa PG w K mg base (CC K) "_law_same" 1 2 [] (df_law_same 1) := FDa.of F5 (He.glo_ok X G (c.a.fact 9 (f := .glo "_law_same") rfl)) B5 (ok_law_same fx S0 F5) rfl
  have S2 : FDa PG w K mg base (CC K) "_law_same" 2 2 [] (df_law_same 2) := FDa.of F5 (He.glo_ok X G (c.a.fact 9 (f := .glo "_law_same") rfl)) B5 (ok_law_same fx S1 F5) rfl
  have S3 : FDa PG w K mg base (CC K) "_law_same" 3 2 [] (df_law_same 3) := FDa.of F5 (He.glo_ok X G (c.a.fact 9 (f := .glo "_law_same") rfl)) B5 (ok_law_same fx S2 F5) rfl
  have S4 : FDa PG w K mg base (CC K) "_law_same" 4 2 [] (df_law_same 4) := FDa.of F5 (He.glo_ok X G (c.a.fact 9 (f := .glo "_law_same") rfl)) B5 (ok_law_same fx S3 F5) rfl
  have Q6 : FDa PG w K mg base (CC K) "_law_word" 2 4 [] df_law_word := FDa.of F6 (He.glo_ok X G (c.a.fact 10 (f := .glo "_law_word") rfl)) B6 (ok_law_word fx Q4 F6) rfl
  have Q7 : FDa PG w K mg base (CC K) "_law_groups" 3 4 [] df_law_groups := FDa.of F7 (He.glo_ok X G (c.a.fact 11 (f := .glo "_law_groups") rfl)) B7 (ok_law_groups fx Q4 Q6 F7) rfl
  have Q8 : FDa PG w K mg base (CC K) "_law_joins" 2 4 [] df_law_joins := FDa.of F8 (He.glo_ok X G (c.a.fact 12 (f := .glo "_law_joins") rfl)) B8 (ok_law_joins fx Q4 F8) rfl
  have Q9 : FDa PG w K mg base (CC K) "_law_line" 1 2 [] df_law_line := FDa.of F9 (He.glo_ok X G (c.a.fact 13 (f := .glo "_law_line") rfl)) B9 (ok_law_line fx  F9) rfl
  have Q10 : FDa PG w K mg base (CC K) "_law_tells" 6 3 [] df_law_tells := FDa.of F10 (He.glo_ok X G (c.a.fact 14 (f := .glo "_law_tells") rfl)) B10 (ok_law_tells fx Q9 S4 P0 G0 N0 I0 O_getitem O_abs O_len F10) rfl
  have Q11 : FDa PG w K mg base (CC K) "_law_told" 6 2 [] df_law_told := FDa.of F11 (He.glo_ok X G (c.a.fact 15 (f := .glo "_law_told") rfl)) B11 (ok_law_told fx P0 M2 F11) rfl
  have Q12 : FDa PG w K mg base (CC K) "_law_due" 1 2 [] df_law_due := FDa.of F12 (He.glo_ok X G (c.a.fact 16 (f := .glo "_law_due") rfl)) B12 (ok_law_due fx  F12) rfl
  have Q13 : FDa PG w K mg base (CC K) "_law_refuses" 7 3 [] df_law_refuses := FDa.of F13 (He.glo_ok X G (c.a.fact 17 (f := .glo "_law_refuses") rfl)) B13 (ok_law_refuses fx Q4 S4 Q12 Q11 F13) rfl
  exact ok_law fx Q3 Q4 Q6 Q7 Q8 M2 S4 M1 Q10 Q13 F14
end
end K04

open PySem PySem.W PySem.Calls PyProof.Rows
set_option maxHeartbeats 0 in
theorem PySem.Challenge.cw_countedgrowth_k04_growths_played_holds : PySem.Challenge.rw_countedgrowth_k04_growths_played.Holds := by
  w_on; o_law
  refine HandSHeadRun.head_any (r := OpenLaw.row PySem.Challenge.rw_countedgrowth_k04_growths_played) (q := view (OpenLaw.row PySem.Challenge.rw_countedgrowth_k04_growths_played).prog [28]) (H := K04.hk) (ob := K04.ob) (M := 9000) (loose := K04.loose) (d := HandSHeadRun.topDef (OpenLaw.row PySem.Challenge.rw_countedgrowth_k04_growths_played).prog 28) (kwd := []) K04.ob_eq
    (by kernel_rfl) (fun s => by kernel_rfl) K04.run (by kernel_rfl) (by kernel_rfl) (by kernel_rfl) (by rfl) (by first | assumption | decide +kernel) (by decide +kernel) ⟨rfl, rfl, rfl, rfl, rfl, by decide +kernel⟩ ?hw ?hc
  case hw => w_witness2
  case hc =>
    refine DL.ends (l := PySem.Challenge.rw_countedgrowth_k04_growths_played) (n := 63) (k := 8) (x := "script") rfl (by decide) (by kernel_rfl) ⟨rfl, by decide, by decide⟩ ?F
    intro w mg fa h Y G hmg0
    obtain ⟨K, KX, c⟩ := Y
    have hmg : mg ("law" : PySem.Str) = some (.ref fa) := by
      have e : (HandSHeadRun.topDef (OpenLaw.row PySem.Challenge.rw_countedgrowth_k04_growths_played).prog 28).name = ("law" : PySem.Str) := by kernel_rfl
      rw [← e]
      exact hmg0
    obtain ⟨fd, hb, hF⟩ := K04.facts (w := w) KX G hmg c
    exact ⟨K, fd, K04.CC K, K04.df_law, KX, hb, fun ns _ => ⟨ns, rfl, rfl, fun _ => rfl⟩, hF⟩
