import PyProof.Rows.All
import HandS.Conv
import HandS.Defaults
import HandS.ExcIs
import HandS.ForExc
import HandS.ForMost
import HandS.GenCall
import HandS.GenList
import HandS.Head0
import HandS.Head1
import HandS.Head2
import HandS.HeadEnd
import HandS.HeadHook1
import HandS.HeadHook2
import HandS.HeadHook3
import HandS.HeadHook4
import HandS.HeadWalk
import HandS.IsInst
import HandS.Lambda
import HandS.SortInts
import HandS.SortKw
import HandS.Strs
import HandS.Style
import HandS.TryMany
import HandS.TupAny
import HandS.TupLe
import HandS.TupMul
import HandS.TupSets
import HandS.Walk
import HandS.Zip
import KE.GoesEnum
import KE.KDictDisplayH
import KE.KStateDown
import KE.SortKeyHeap
import PyProof.ForAny
import PySem.Challenge.RW_chosenmoves_k66_whole_least_deciding_cha
set_option Elab.async false
set_option linter.all false
set_option maxRecDepth 100000
set_option maxHeartbeats 4000000
namespace DL
open PySem PySem.Spec PyProof.Rows L2

/-! ### data -/
inductive D where
  | non | bl (b : Bool) | int (i : Int) | str (x : Str)
  | tup (ds : List D) | tupx (ds : List D) | lst (ds : List D) | obj (C : Addr) (fs : List (Str × D)) | scr (ns : List Int)
  | tupk (ds : List D) | dct (kvs : List (List Key × V))

mutual
inductive Rep (K : PySem.W.Frag) (Z : Hp) : V → D → Prop
  | non : Rep K Z .non .non
  | bl {b : Bool} : Rep K Z (.bl b) (.bl b)
  | int {i : Int} : Rep K Z (.int i) (.int i)
  | str {x : Str} : Rep K Z (.str x) (.str x)
  | tup {a : Addr} {xs : List V} {ds : List D} : Rd Z a (.tup xs) → RepL K Z xs ds → Rep K Z (.ref a) (.tup ds)
  | tupx {a : Addr} {o : Obj} {xs : List V} {ds : List D} : Z a = some (.frz o (.tup xs)) → o.dict = none → RepL K Z xs ds → Rep K Z (.ref a) (.tupx ds)
  | lst {a : Addr} {xs : List V} {ds : List D} : Z a = some (.lst xs) → RepL K Z xs ds → Rep K Z (.ref a) (.lst ds)
  | obj {a C dx : Addr} {vs : List (Str × V)} {fs : List (Str × D)} : Z a = some (.ins C dx vs) → RepF K Z vs fs → Rep K Z (.ref a) (.obj C fs)
  | scr {a : Addr} {ns : List Int} : SqL K Z a (ns.map V.int) → Rep K Z (.ref a) (.scr ns)
  | tupk {a : Addr} {xs : List V} {ds : List D} : Z a = some (.tup xs) → RepL K Z xs ds → Rep K Z (.ref a) (.tupk ds)
  | dct {a : Addr} {kvs : List (List Key × V)} : Z a = some (.dT kvs) → Rep K Z (.ref a) (.dct kvs)
inductive RepL (K : PySem.W.Frag) (Z : Hp) : List V → List D → Prop
  | nil : RepL K Z [] []
  | cons {v : V} {d : D} {vs : List V} {ds : List D} : Rep K Z v d → RepL K Z vs ds → RepL K Z (v :: vs) (d :: ds)
inductive RepF (K : PySem.W.Frag) (Z : Hp) : List (Str × V) → List (Str × D) → Prop
  | nil : RepF K Z [] []
  | cons {x : Str} {v : V} {d : D} {vs : List (Str × V)} {ds : List (Str × D)} : Rep K Z v d → RepF K Z vs ds → RepF K Z ((x, v) :: vs) ((x, d) :: ds)
end

def Ex (H H' : Hp) : Prop := ∀ a o, H a = some o → H' a = some o
theorem Ex.refl (H : Hp) : Ex H H := fun _ _ h => h
theorem Ex.trans {H H1 H2 : Hp} (a : Ex H H1) (b : Ex H1 H2) : Ex H H2 := fun x o h => b x o (a x o h)
theorem Ex.new {H : Hp} {p : Addr} {o : HO} (h : H p = none) : Ex H (upd H p o) := fun a u e => by
  rw [upd_ne (ne_of_none e h)]
  exact e
theorem Ex.free {H H' : Hp} {p : Addr} (e : Ex H H') (h : H' p = none) : H p = none := by
  cases q : H p with
  | none => rfl
  | some o => rw [e p o q] at h; cases h
theorem Ex.both {Z H : Hp} {p : Addr} {o : HO} (e : Ex Z H) : Ex (upd Z p o) (upd H p o) := fun a u h => by
  by_cases hb : a = p
  · subst hb; rw [upd_same] at h ⊢; exact h
  · rw [upd_ne hb] at h ⊢; exact e a u h
/-- an object that Z does not know may change -/
theorem Ex.mut {Z H : Hp} {p : Addr} {o : HO} (e : Ex Z H) (h : Z p = none) : Ex Z (upd H p o) := fun a u ha => by
  rw [upd_ne (ne_of_none ha h)]
  exact e a u ha
theorem sqL_ex {K : PySem.W.Frag} {H H' : Hp} {a : Addr} {xs : List V} (e : Ex H H') (h : SqL K H a xs) : SqL K H' a xs := by
  rcases h with (h | ⟨o, h⟩) | h
  · exact .inl (.inl (e _ _ h))
  · exact .inl (.inr ⟨o, e _ _ h⟩)
  · exact .inr h

theorem rd_ex {H H' : Hp} {a : Addr} {u : HO} (e : Ex H H') (h : Rd H a u) : Rd H' a u := by
  rcases h with h | ⟨o, h⟩
  · exact .inl (e _ _ h)
  · exact .inr ⟨o, e _ _ h⟩
theorem sq_t {K : PySem.W.Frag} {H H' : Hp} {a : Addr} {xs : List V} (e : Ex H H') (h : Rd H a (.tup xs)) : SqT K H' a xs := .inl (rd_ex e h)
mutual
theorem Rep.mono {K : PySem.W.Frag} {Z Z' : Hp} (e : Ex Z Z') : ∀ {v : V} {d : D}, Rep K Z v d → Rep K Z' v d
  | _, _, .non => .non
  | _, _, .bl => .bl
  | _, _, .int => .int
  | _, _, .str => .str
  | _, _, .tup h r => .tup (rd_ex e h) (RepL.mono e r)
  | _, _, .tupx h n r => .tupx (e _ _ h) n (RepL.mono e r)
  | _, _, .lst h r => .lst (e _ _ h) (RepL.mono e r)
  | _, _, .obj h r => .obj (e _ _ h) (RepF.mono e r)
  | _, _, .scr h => .scr (sqL_ex e h)
  | _, _, .tupk h r => .tupk (e _ _ h) (RepL.mono e r)
  | _, _, .dct h => .dct (e _ _ h)
theorem RepL.mono {K : PySem.W.Frag} {Z Z' : Hp} (e : Ex Z Z') : ∀ {vs : List V} {ds : List D}, RepL K Z vs ds → RepL K Z' vs ds
  | _, _, .nil => .nil
  | _, _, .cons h r => .cons (Rep.mono e h) (RepL.mono e r)
theorem RepF.mono {K : PySem.W.Frag} {Z Z' : Hp} (e : Ex Z Z') : ∀ {vs : List (Str × V)} {ds : List (Str × D)}, RepF K Z vs ds → RepF K Z' vs ds
  | _, _, .nil => .nil
  | _, _, .cons h r => .cons (Rep.mono e h) (RepF.mono e r)
end
section
variable {K : PySem.W.Frag} {Z : Hp}
theorem RepL.length {vs : List V} {ds : List D} (r : RepL K Z vs ds) : vs.length = ds.length := by
  induction vs generalizing ds with
  | nil => cases r; rfl
  | cons v vs ih => cases r with | cons h r => simp [ih r]
theorem RepL.get {vs : List V} {ds : List D} (r : RepL K Z vs ds) {i : Nat} {d : D} (h : ds[i]? = some d) : ∃ v, vs[i]? = some v ∧ Rep K Z v d := by
  induction vs generalizing ds i with
  | nil => cases r; simp at h
  | cons v vs ih =>
    cases r with
    | cons hv r =>
      cases i with
      | zero => simp at h; subst h; exact ⟨v, rfl, hv⟩
      | succ i => simpa using ih r (i := i) (by simpa using h)
theorem RepL.get' {vs : List V} {ds : List D} (r : RepL K Z vs ds) {i : Nat} {v : V} (h : vs[i]? = some v) : ∃ d, ds[i]? = some d ∧ Rep K Z v d := by
  induction vs generalizing ds i with
  | nil => simp at h
  | cons x vs ih =>
    cases r with
    | cons hv r =>
      cases i with
      | zero => simp at h; subst h; exact ⟨_, rfl, hv⟩
      | succ i => simpa using ih r (i := i) (by simpa using h)
theorem RepL.app {vs us : List V} {ds es : List D} (r : RepL K Z vs ds) (q : RepL K Z us es) : RepL K Z (vs ++ us) (ds ++ es) := by
  induction vs generalizing ds with
  | nil => cases r; exact q
  | cons v vs ih => cases r with | cons h r => exact .cons h (ih r)
theorem RepL.set {vs : List V} {ds : List D} (r : RepL K Z vs ds) (i : Nat) {v : V} {d : D} (q : Rep K Z v d) : RepL K Z (vs.set i v) (ds.set i d) := by
  induction vs generalizing ds i with
  | nil => cases r; exact .nil
  | cons x vs ih =>
    cases r with
    | cons h r =>
      cases i with
      | zero => exact .cons q r
      | succ i => exact .cons h (ih r i)
theorem RepL.take {vs : List V} {ds : List D} (r : RepL K Z vs ds) (n : Nat) : RepL K Z (vs.take n) (ds.take n) := by
  induction vs generalizing ds n with
  | nil => cases r; simp; exact .nil
  | cons x vs ih =>
    cases r with
    | cons h r =>
      cases n with
      | zero => exact .nil
      | succ n => exact .cons h (ih r n)
theorem RepL.drop {vs : List V} {ds : List D} (r : RepL K Z vs ds) (n : Nat) : RepL K Z (vs.drop n) (ds.drop n) := by
  induction vs generalizing ds n with
  | nil => cases r; simp; exact .nil
  | cons x vs ih =>
    cases r with
    | cons h r =>
      cases n with
      | zero => exact .cons h r
      | succ n => exact ih r n
theorem RepL.dropLast {vs : List V} {ds : List D} (r : RepL K Z vs ds) : RepL K Z vs.dropLast ds.dropLast := by
  rw [List.dropLast_eq_take, List.dropLast_eq_take, r.length]
  exact r.take _
theorem RepL.rev {vs : List V} {ds : List D} (r : RepL K Z vs ds) : RepL K Z vs.reverse ds.reverse := by
  induction vs generalizing ds with
  | nil => cases r; exact .nil
  | cons x vs ih =>
    cases r with
    | cons h r =>
      rw [List.reverse_cons, List.reverse_cons]
      exact (ih r).app (.cons h .nil)
theorem RepL.ints {vs : List V} {ns : List Int} (r : RepL K Z vs (ns.map D.int)) : vs = ns.map V.int := by
  induction vs generalizing ns with
  | nil => cases ns with | nil => rfl | cons n ns => cases r
  | cons x vs ih =>
    cases ns with
    | nil => cases r
    | cons n ns => cases r with | cons h r => cases h; simp [ih r]
theorem RepL.ofInts : ∀ (ns : List Int), RepL K Z (ns.map V.int) (ns.map D.int)
  | [] => .nil
  | n :: ns => .cons .int (RepL.ofInts ns)
theorem RepL.bls {vs : List V} {bs : List Bool} (r : RepL K Z vs (bs.map D.bl)) : vs = bs.map V.bl := by
  induction vs generalizing bs with
  | nil => cases bs with | nil => rfl | cons n ns => cases r
  | cons x vs ih =>
    cases bs with
    | nil => cases r
    | cons n ns => cases r with | cons h r => cases h; simp [ih r]
theorem RepL.rep {v : V} {d : D} (q : Rep K Z v d) : ∀ n, RepL K Z (List.replicate n v) (List.replicate n d)
  | 0 => .nil
  | n + 1 => .cons q (RepL.rep q n)
theorem RepF.look {vs : List (Str × V)} {fs : List (Str × D)} (r : RepF K Z vs fs) {f : Str} {d : D} (h : fs.lookup f = some d) : ∃ v, vs.lookup f = some v ∧ Rep K Z v d := by
  induction vs generalizing fs with
  | nil => cases r; simp at h
  | cons x vs ih =>
    cases r with
    | cons hv r =>
      rename_i y v dd ds
      rw [List.lookup_cons] at h ⊢
      cases e : f == y with
      | true => simp only [e] at h ⊢; cases h; exact ⟨_, rfl, hv⟩
      | false => simp only [e] at h ⊢; exact ih r h
end

/-! ### the state by data -/
/-- new, but for a table -/
def Frsh (H : Hp) (a : Addr) : Prop := ∀ o, H a = some o → ∃ ps, o = .tbl ps
theorem Frsh.none {H : Hp} {a : Addr} (h : H a = none) : Frsh H a := fun o e => by rw [h] at e; cases e
theorem Frsh.back {H H' : Hp} {a : Addr} (e : LamX.ExtN H H') (h : Frsh H' a) : Frsh H a := fun o q => by
  by_cases ht : ∃ ps, o = HO.tbl ps
  · exact ht
  · exact absurd (h o (e a o q fun ps z => ht ⟨ps, z⟩)) ht
theorem Frsh.ne {H : Hp} {a b : Addr} {o : HO} (h : Frsh H a) (e : H b = some o) (n : ∀ ps, o ≠ .tbl ps) : b ≠ a := fun z => by
  subst z
  obtain ⟨ps, q⟩ := h o e
  exact n ps q
inductive Sl where
  | no | val (d : D) | own (ds : List D) | raw (v : V)
structure Cfg where
  T : List (Addr × Str)
  Z0 : Hp
  B0 : Hp
  B : Hp
def SlOk (K : PySem.W.Frag) (E : Cfg) (Z H : Hp) (x : Option (Option V)) : Sl → Prop
  | .no => True
  | .val d => ∃ v, x = some (some v) ∧ Rep K Z v d
  | .own ds => ∃ l xs, x = some (some (.ref l)) ∧ H l = some (.lst xs) ∧ Z l = none ∧ Frsh E.B l ∧ Frsh E.B0 l ∧ RepL K Z xs ds
  | .raw v => x = some (some v)
/-- no table among them -/
def NoT (Z : Hp) : Prop := ∀ a ps, Z a ≠ some (.tbl ps)
structure SS (K : PySem.W.Frag) (E : Cfg) (Z H : Hp) (σ : L2.St) (ρ : List Sl) : Prop where
  zh : Ex Z H
  bh : LamX.ExtN E.B H
  b0 : LamX.ExtN E.B0 H
  tb : LamX.Tabs E.T H
  fr : ∀ a, Z a ≠ none → E.Z0 a ≠ none ∨ Frsh E.B0 a
  z0 : Ex E.Z0 Z
  nz : NoT Z
  len : σ.length = ρ.length
  at_ : ∀ (i : Nat) (s : Sl), ρ[i]? = some s → SlOk K E Z H σ[i]? s
  ap : ∀ (i j : Nat) (ds es : List D) (l : Addr), i ≠ j → ρ[i]? = some (.own ds) → ρ[j]? = some (.own es) → σ[i]? = some (some (.ref l)) → σ[j]? ≠ some (some (.ref l))
/-- what grows behind an expression -/
structure Gr (T : List (Addr × Str)) (Z H Z' H' : Hp) : Prop where
  z : Ex Z Z'
  h : LamX.ExtN H H'
  zh : Ex Z' H'
  tb : LamX.Tabs T H'
  fr : ∀ a, Z' a ≠ none → Z a ≠ none ∨ Frsh H a
  nz : NoT Z → NoT Z'
section
variable {K : PySem.W.Frag} {E : Cfg} {T : List (Addr × Str)} {Z H Z' H' Z2 H2 : Hp} {σ : L2.St} {ρ : List Sl}
theorem Gr.refl (zh : Ex Z H) (tb : LamX.Tabs T H) : Gr T Z H Z H := ⟨Ex.refl _, LamX.ExtN.refl _, zh, tb, fun _ h => .inl h, id⟩
theorem Gr.trans (a : Gr T Z H Z' H') (b : Gr T Z' H' Z2 H2) : Gr T Z H Z2 H2 := ⟨a.z.trans b.z, a.h.trans b.h, b.zh, b.tb, fun x h => by
  rcases b.fr x h with q | q
  · exact a.fr x q
  · exact .inr (q.back a.h), fun n => b.nz (a.nz n)⟩
theorem SS.same (S : SS K E Z H σ ρ) : Gr E.T Z H Z H := Gr.refl S.zh S.tb
theorem SlOk.grow {x : Option (Option V)} (g : Gr T Z H Z' H') : ∀ {s : Sl}, SlOk K E Z H x s → SlOk K E Z' H' x s
  | .no, _ => trivial
  | .val d, ⟨v, e, r⟩ => ⟨v, e, r.mono g.z⟩
  | .own ds, ⟨l, xs, e, h, zl, f1, f2, r⟩ => by
    refine ⟨l, xs, e, g.h l _ h (fun _ z => nomatch z), ?_, f1, f2, r.mono g.z⟩
    cases q : Z' l with
    | none => rfl
    | some o =>
      rcases g.fr l (by rw [q]; exact fun z => nomatch z) with w | w
      · exact absurd zl w
      · obtain ⟨ps, z⟩ := w _ h
        cases z
  | .raw v, h => h
theorem SS.grow (S : SS K E Z H σ ρ) (g : Gr E.T Z H Z' H') : SS K E Z' H' σ ρ :=
  ⟨g.zh, S.bh.trans g.h, S.b0.trans g.h, g.tb, fun a h => by
    rcases g.fr a h with q | q
    · exact S.fr a q
    · exact .inr (q.back S.b0), S.z0.trans g.z, g.nz S.nz, S.len, fun i s h => (S.at_ i s h).grow g, S.ap⟩
/-- a new object that nobody changes -/
theorem NoT.upd {Z : Hp} {p : Addr} {o : HO} (n : NoT Z) (ho : ∀ ps, o ≠ .tbl ps) : NoT (upd Z p o) := fun a ps e => by
  by_cases hb : a = p
  · subst hb; rw [upd_same] at e; exact ho ps (Option.some.inj e)
  · rw [upd_ne hb] at e; exact n a ps e
theorem Gr.new {p : Addr} {o : HO} (g : Gr T Z H Z' H') (hp : H' p = none) (ho : ∀ ps, o ≠ .tbl ps := by intro _ z; cases z) : Gr T Z H (upd Z' p o) (upd H' p o) :=
  g.trans ⟨Ex.new (g.zh.free hp), LamX.ExtN.of (Ex.new hp), g.zh.both, g.tb.ext (Ex.new hp), fun a h => by
    by_cases hb : a = p
    · subst hb; exact .inr (Frsh.none hp)
    · rw [upd_ne hb] at h; exact .inl h, fun n => n.upd ho⟩
/-- a new object outside of the zone -/
theorem Gr.newH {p : Addr} {o : HO} (g : Gr T Z H Z' H') (hp : H' p = none) : Gr T Z H Z' (upd H' p o) :=
  g.trans ⟨Ex.refl _, LamX.ExtN.of (Ex.new hp), g.zh.trans (Ex.new hp), g.tb.ext (Ex.new hp), fun a h => .inl h, id⟩
theorem SS.look {i : Nat} {d : D} (S : SS K E Z H σ ρ) (h : ρ[i]? = some (.val d)) : ∃ v, σ[i]? = some (some v) ∧ Rep K Z v d := S.at_ i _ h
theorem SS.lookO {i : Nat} {ds : List D} (S : SS K E Z H σ ρ) (h : ρ[i]? = some (.own ds)) : ∃ l xs, σ[i]? = some (some (.ref l)) ∧ H l = some (.lst xs) ∧ Z l = none ∧ Frsh E.B l ∧ Frsh E.B0 l ∧ RepL K Z xs ds := S.at_ i _ h
/-- a slot is stored -/
theorem SS.put (S : SS K E Z H σ ρ) (i : Nat) {v : V} {d : D} (r : Rep K Z v d) : SS K E Z H (σ.set i (some v)) (ρ.set i (.val d)) := by
  refine ⟨S.zh, S.bh, S.b0, S.tb, S.fr, S.z0, S.nz, by simpa using S.len, fun j s h => ?_, fun j k ds es l hjk h1 h2 h3 => ?_⟩
  · by_cases hj : i = j
    · subst hj
      by_cases hi : i < ρ.length
      · rw [List.getElem?_set_self hi] at h; cases h
        exact ⟨v, by rw [List.getElem?_set_self (by rw [S.len]; exact hi)], r⟩
      · rw [List.getElem?_eq_none (by simpa using hi)] at h; cases h
    · rw [List.getElem?_set_ne hj] at h ⊢
      exact S.at_ j s h
  · have n1 : i ≠ j := fun z => by
      subst z
      by_cases hi : i < ρ.length
      · rw [List.getElem?_set_self hi] at h1; cases h1
      · rw [List.getElem?_eq_none (by simpa using hi)] at h1; cases h1
    have n2 : i ≠ k := fun z => by
      subst z
      by_cases hi : i < ρ.length
      · rw [List.getElem?_set_self hi] at h2; cases h2
      · rw [List.getElem?_eq_none (by simpa using hi)] at h2; cases h2
    rw [List.getElem?_set_ne n1] at h1 h3
    rw [List.getElem?_set_ne n2] at h2 ⊢
    exact S.ap j k ds es l hjk h1 h2 h3
theorem SS.putR (S : SS K E Z H σ ρ) (i : Nat) {v : V} : SS K E Z H (σ.set i (some v)) (ρ.set i (.raw v)) := by
  refine ⟨S.zh, S.bh, S.b0, S.tb, S.fr, S.z0, S.nz, by simpa using S.len, fun j s h => ?_, fun j k ds es l hjk h1 h2 h3 => ?_⟩
  · by_cases hj : i = j
    · subst hj
      by_cases hi : i < ρ.length
      · rw [List.getElem?_set_self hi] at h; cases h
        show (σ.set i (some v))[i]? = _
        rw [List.getElem?_set_self (by rw [S.len]; exact hi)]
      · rw [List.getElem?_eq_none (by simpa using hi)] at h; cases h
    · rw [List.getElem?_set_ne hj] at h ⊢
      exact S.at_ j s h
  · have n1 : i ≠ j := fun z => by
      subst z
      by_cases hi : i < ρ.length
      · rw [List.getElem?_set_self hi] at h1; cases h1
      · rw [List.getElem?_eq_none (by simpa using hi)] at h1; cases h1
    have n2 : i ≠ k := fun z => by
      subst z
      by_cases hi : i < ρ.length
      · rw [List.getElem?_set_self hi] at h2; cases h2
      · rw [List.getElem?_eq_none (by simpa using hi)] at h2; cases h2
    rw [List.getElem?_set_ne n1] at h1 h3
    rw [List.getElem?_set_ne n2] at h2 ⊢
    exact S.ap j k ds es l hjk h1 h2 h3
/-- a list that is new -/
theorem SS.putO (S : SS K E Z H σ ρ) (i : Nat) {l : Addr} {xs : List V} {ds : List D} (hl : H l = some (.lst xs)) (zl : Z l = none) (f1 : Frsh E.B l) (f2 : Frsh E.B0 l) (r : RepL K Z xs ds)
    (hne : ∀ (j : Nat) (es : List D), j ≠ i → ρ[j]? = some (.own es) → σ[j]? ≠ some (some (.ref l))) : SS K E Z H (σ.set i (some (.ref l))) (ρ.set i (.own ds)) := by
  refine ⟨S.zh, S.bh, S.b0, S.tb, S.fr, S.z0, S.nz, by simpa using S.len, fun j s h => ?_, fun j k ds' es l' hjk h1 h2 h3 => ?_⟩
  · by_cases hj : i = j
    · subst hj
      by_cases hi : i < ρ.length
      · rw [List.getElem?_set_self hi] at h; cases h
        exact ⟨l, xs, by rw [List.getElem?_set_self (by rw [S.len]; exact hi)], hl, zl, f1, f2, r⟩
      · rw [List.getElem?_eq_none (by simpa using hi)] at h; cases h
    · rw [List.getElem?_set_ne hj] at h ⊢
      exact S.at_ j s h
  · by_cases hj : i = j
    · subst hj
      have n2 : i ≠ k := hjk
      rw [List.getElem?_set_ne n2] at h2 ⊢
      by_cases hi : i < ρ.length
      · rw [List.getElem?_set_self (by rw [S.len]; exact hi)] at h3
        cases h3
        exact hne k es (Ne.symm n2) h2
      · rw [List.getElem?_eq_none (by simpa using hi)] at h1; cases h1
    · rw [List.getElem?_set_ne hj] at h1 h3
      by_cases hk : i = k
      · subst hk
        by_cases hi : i < ρ.length
        · rw [List.getElem?_set_self (by rw [S.len]; exact hi)]
          intro z
          cases z
          exact hne j ds' (Ne.symm hj) h1 h3
        · rw [List.getElem?_eq_none (by simpa using hi)] at h2; cases h2
      · rw [List.getElem?_set_ne hk] at h2 ⊢
        exact S.ap j k ds' es l' hjk h1 h2 h3
/-- a slot is forgotten -/
theorem SS.drop (S : SS K E Z H σ ρ) (i : Nat) : SS K E Z H σ (ρ.set i .no) := by
  have key : ∀ (j : Nat) (s : Sl), (ρ.set i .no)[j]? = some s → s = .no ∨ ρ[j]? = some s := fun j s h => by
    by_cases hj : i = j
    · subst hj
      by_cases hi : i < ρ.length
      · rw [List.getElem?_set_self hi] at h; cases h; exact .inl rfl
      · rw [List.getElem?_eq_none (by simpa using hi)] at h; cases h
    · rw [List.getElem?_set_ne hj] at h; exact .inr h
  refine ⟨S.zh, S.bh, S.b0, S.tb, S.fr, S.z0, S.nz, by simpa using S.len, fun j s h => ?_, fun j k ds es l hjk h1 h2 h3 => ?_⟩
  · rcases key j s h with z | z
    · subst z; trivial
    · exact S.at_ j s z
  · rcases key j _ h1 with z | z
    · cases z
    · rcases key k _ h2 with z' | z'
      · cases z'
      · exact S.ap j k ds es l hjk z z' h3
/-- the owned list of a slot is written -/
theorem SS.wr (S : SS K E Z H σ ρ) {i : Nat} {l : Addr} {xs ys : List V} {ds es : List D} (h : ρ[i]? = some (.own ds)) (hs : σ[i]? = some (some (.ref l))) (hl : H l = some (.lst xs)) (r : RepL K Z ys es) :
    SS K E Z (upd H l (.lst ys)) σ (ρ.set i (.own es)) := by
  obtain ⟨l', xs', e1, h1, zl, f1, f2, _⟩ := S.lookO h
  rw [hs] at e1; cases e1
  have hi : i < ρ.length := (List.getElem?_eq_some_iff.mp h).1
  have ext : ∀ {B : Hp}, LamX.ExtN B H → Frsh B l → LamX.ExtN B (upd H l (.lst ys)) := fun {B} e f b o q n => by
    rw [upd_ne (f.ne q n)]; exact e b o q n
  refine ⟨S.zh.mut zl, ext S.bh f1, ext S.b0 f2, ?_, S.fr, S.z0, S.nz, by simpa using S.len, fun j s q => ?_, fun j k ds' es' l' hjk q1 q2 q3 => ?_⟩
  · intro p hp
    obtain ⟨ps, a1, a2, a3⟩ := S.tb p hp
    refine ⟨ps, by rw [upd_ne (ne_of a1 hl (by intro z; cases z))]; exact a1, a2, fun pos cv hc => ?_⟩
    obtain ⟨c, b1, b2⟩ := a3 pos cv hc
    exact ⟨c, b1, by rw [upd_ne (ne_of b2 hl (by unfold LamX.CodeO; intro z; cases z))]; exact b2⟩
  · by_cases hj : i = j
    · subst hj
      rw [List.getElem?_set_self hi] at q; cases q
      exact ⟨l, ys, hs, upd_same, zl, f1, f2, r⟩
    · rw [List.getElem?_set_ne hj] at q
      have w := S.at_ j s q
      cases s with
      | no => trivial
      | val d => exact w
      | raw v => exact w
      | own es' =>
        obtain ⟨l2, xs2, c1, c2, c3, c4, c5, c6⟩ := w
        refine ⟨l2, xs2, c1, ?_, c3, c4, c5, c6⟩
        have ne : l2 ≠ l := fun z => by
          subst z
          exact S.ap i j ds es' l2 hj h q hs c1
        rw [upd_ne ne]; exact c2
  · have key : ∀ (j : Nat) (ds' : List D), (ρ.set i (.own es))[j]? = some (.own ds') → ∃ ds2, ρ[j]? = some (.own ds2) := fun j ds' q => by
      by_cases hj : i = j
      · subst hj; exact ⟨ds, h⟩
      · rw [List.getElem?_set_ne hj] at q; exact ⟨_, q⟩
    obtain ⟨_, w1⟩ := key j _ q1
    obtain ⟨_, w2⟩ := key k _ q2
    exact S.ap j k _ _ l' hjk w1 w2 q3
end
end DL
set_option maxHeartbeats 4000000
namespace DL
open PySem PySem.Spec PyProof.Rows L2

/-- the tables of code objects of the two defs that make a lambda -/
def tabs (K : PySem.W.Frag) : List (Addr × Str) := [((He.cT K ("light_inputs", none)).2, "light_inputs.<locals>.<lambda>"), ((He.cT K ("_law_inputs", none)).2, "_law_inputs.<locals>.<lambda>")]

abbrev G (K : PySem.W.Frag) (Z H Z' H' : Hp) : Prop := Gr (tabs K) Z H Z' H'
/-- the state; T is the text's own -/
structure St1 (K : PySem.W.Frag) (E : Cfg) (Z H : Hp) (σ : L2.St) (ρ : List Sl) : Prop where
  s : SS K E Z H σ ρ
  t : E.T = tabs K

/-! ### weakest preconditions -/
def WE (X : Cx) (e : Expr) : TE := fun σ H Q => ∀ pins s, Inv X pins σ H s → wpAny (model X.prog X.w) X.A (eval e X.env) (EP X pins σ Q) X.xe s
def WT (X : Cx) (e : Expr) : TT := fun σ H Q => ∀ pins s, Inv X pins σ H s → wpAny (model X.prog X.w) X.A (isTrue e X.env (eval e X.env)) (TP X pins σ Q) X.xe s
def WPW (X : Cx) (e : Expr) : TT := fun σ H Q => ∀ whole pins s, Inv X pins σ H s → wpAny (model X.prog X.w) X.A (isTrue e X.env whole) (TP X pins σ Q) X.xe s
def WA (X : Cx) (es : List Expr) : TA := fun σ H Q => ∀ (pos : Pos) pins s, Inv X pins σ H s → wpAny (model X.prog X.w) X.A (spliced (backTo pos (starEach es X.env))) (AP X pins σ Q) X.xe s
def WS (X : Cx) (st : Stmt) : TS := fun D σ H => ∀ pins s, Inv X pins σ H s → wpAny (model X.prog X.w) X.A (exec st X.env) (SP X pins D) X.xe s
def WSs (X : Cx) (st : List Stmt) : TS := fun D σ H => ∀ pins s, Inv X pins σ H s → wpAny (model X.prog X.w) X.A (execs st X.env) (SP X pins D) X.xe s
section
variable {X : Cx} {e : Expr} {es : List Expr} {st : Stmt} {sts : List Stmt}
theorem pe_we : PE X e (WE X e) := ⟨fun pins s _ _ _ I h => h pins s I⟩
theorem pt_wt : PT X e (WT X e) := ⟨fun pins s _ _ _ I h => h pins s I⟩
theorem pw_wpw : PW X e (WPW X e) := ⟨fun whole pins s _ _ _ I h => h whole pins s I⟩
theorem pa_wa : PA X es (WA X es) := ⟨fun pos pins s _ _ _ I h => h pos pins s I⟩
theorem ps_ws : PS X st (WS X st) := ⟨fun pins s _ _ _ I h => h pins s I⟩
theorem pss_wss : PSs X sts (WSs X sts) := ⟨fun pins s _ _ _ I h => h pins s I⟩
theorem we_pe {te : TE} (h : PE X e te) {σ : L2.St} {H : Hp} {Q : VK} (q : te σ H Q) : WE X e σ H Q := fun pins s I => h.run pins s σ H Q I q
theorem wt_pt {te : TT} (h : PT X e te) {σ : L2.St} {H : Hp} {Q : Bool → Hp → Prop} (q : te σ H Q) : WT X e σ H Q := fun pins s I => h.run pins s σ H Q I q
theorem wpw_pw {te : TT} (h : PW X e te) {σ : L2.St} {H : Hp} {Q : Bool → Hp → Prop} (q : te σ H Q) : WPW X e σ H Q := fun whole pins s I => h.run whole pins s σ H Q I q
theorem wa_pa {te : TA} (h : PA X es te) {σ : L2.St} {H : Hp} {Q : List V → Hp → Prop} (q : te σ H Q) : WA X es σ H Q := fun pos pins s I => h.run pos pins s σ H Q I q
theorem ws_ps {ts : TS} (h : PS X st ts) {σ : L2.St} {H : Hp} {D : Ends} (q : ts D σ H) : WS X st D σ H := fun pins s I => h.run pins s σ H D I q
theorem wss_pss {ts : TS} (h : PSs X sts ts) {σ : L2.St} {H : Hp} {D : Ends} (q : ts D σ H) : WSs X sts D σ H := fun pins s I => h.run pins s σ H D I q
theorem we_mono {σ : L2.St} {H : Hp} {Q Q' : VK} (h : WE X e σ H Q) (m : ∀ v H', Q v H' → Q' v H') : WE X e σ H Q' := fun pins s I =>
  thn (h pins s I) fun _ _ ⟨v, H', I', r, q⟩ => ⟨v, H', I', r, m v H' q⟩
theorem wt_mono {σ : L2.St} {H : Hp} {Q Q' : Bool → Hp → Prop} (h : WT X e σ H Q) (m : ∀ v H', Q v H' → Q' v H') : WT X e σ H Q' := fun pins s I =>
  thn (h pins s I) fun _ _ ⟨H', I', q⟩ => ⟨H', I', m _ H' q⟩
end

/-! ### judgements by data -/
/-- the expression gives d -/
def DE (X : Cx) (e : Expr) (ρ : List Sl) (d : D) : Prop := ∀ E Z H σ, St1 X.K E Z H σ ρ → ∀ Q : VK, (∀ v Z' H', G X.K Z H Z' H' → Rep X.K Z' v d → Q v H') → WE X e σ H Q
def DT (X : Cx) (e : Expr) (ρ : List Sl) (b : Bool) : Prop := ∀ E Z H σ, St1 X.K E Z H σ ρ → ∀ Q : Bool → Hp → Prop, (∀ Z' H', G X.K Z H Z' H' → Q b H') → WT X e σ H Q
def DPW (X : Cx) (e : Expr) (ρ : List Sl) (b : Bool) : Prop := ∀ E Z H σ, St1 X.K E Z H σ ρ → ∀ Q : Bool → Hp → Prop, (∀ Z' H', G X.K Z H Z' H' → Q b H') → WPW X e σ H Q
def DA (X : Cx) (es : List Expr) (ρ : List Sl) (ds : List D) : Prop := ∀ E Z H σ, St1 X.K E Z H σ ρ → ∀ Q : List V → Hp → Prop, (∀ vs Z' H', G X.K Z H Z' H' → RepL X.K Z' vs ds → Q vs H') → WA X es σ H Q
/-- the expression makes a new list -/
def DO (X : Cx) (e : Expr) (ρ : List Sl) (ds : List D) : Prop := ∀ E Z H σ, St1 X.K E Z H σ ρ → ∀ Q : VK, (∀ l xs Z' H', G X.K Z H Z' H' → Frsh H l → Z' l = none → H' l = some (.lst xs) → RepL X.K Z' xs ds → Q (.ref l) H') → WE X e σ H Q
section
variable {K : PySem.W.Frag} {E : Cfg} {Z H Z' H' : Hp} {σ : L2.St} {ρ : List Sl}
theorem St1.grow (S : St1 K E Z H σ ρ) (g : G K Z H Z' H') : St1 K E Z' H' σ ρ := ⟨S.s.grow (by rw [S.t]; exact g), S.t⟩
theorem St1.same (S : St1 K E Z H σ ρ) : G K Z H Z H := Gr.refl S.s.zh (by rw [← S.t]; exact S.s.tb)
theorem St1.zh (S : St1 K E Z H σ ρ) : Ex Z H := S.s.zh
/-- freezing a list that was made -/
theorem gr_freeze {l : Addr} {xs : List V} (g : G K Z H Z' H') (hl : Frsh H l) (zl : Z' l = none) (h : H' l = some (.lst xs)) : G K Z H (upd Z' l (.lst xs)) H' :=
  ⟨g.z.trans (Ex.new zl), g.h, fun a o e => by
    by_cases hb : a = l
    · subst hb; rw [upd_same] at e; cases e; exact h
    · rw [upd_ne hb] at e; exact g.zh a o e, g.tb, fun a e => by
    by_cases hb : a = l
    · subst hb; exact .inr hl
    · rw [upd_ne hb] at e; exact g.fr a e, fun n => (g.nz n).upd fun _ z => nomatch z⟩
end
section
variable {X : Cx} {e a b c : Expr} {es : List Expr} {ρ : List Sl} {d da db dc : D} {ds : List D} {pos p : Pos}
theorem de_of_do (h : DO X e ρ ds) : DE X e ρ (.lst ds) := fun E Z H σ S Q q => h E Z H σ S Q fun l xs Z' H' g hl zl hx r =>
  q _ (upd Z' l (.lst xs)) H' (gr_freeze g hl zl hx) (.lst upd_same (r.mono (Ex.new zl)))
theorem DE.is {d' : D} (h : DE X e ρ d) (k : d = d') : DE X e ρ d' := k ▸ h
theorem DT.is {x y : Bool} (h : DT X e ρ x) (k : x = y) : DT X e ρ y := k ▸ h
theorem DO.is {ds' : List D} (h : DO X e ρ ds) (k : ds = ds') : DO X e ρ ds' := k ▸ h

/-! ### names, constants -/
theorem de_var (i : Nat) {x : Str} (h : ρ[i]? = some (.val d) := by rfl) (hN : X.N[i]? = some x := by rfl) (hv : Vis X.env.scope x := by first | exact Or.inl rfl | exact Or.inr (Or.inl rfl) | exact Or.inr (Or.inr rfl))
    (hd : (x == ("__debug__" : Str)) = false := by decide) (hcd : (x == ("__classdict__" : Str)) = false := by decide) : DE X (.Name x pos) ρ d := fun E Z H σ S Q q => by
  obtain ⟨v, e1, r⟩ := S.s.look h
  exact we_pe (pe_var hN hv hd hcd) ⟨v, e1, q v Z H S.same r⟩
theorem de_int {i : Int} {j} : DE X (.Constant (.int i) j pos) ρ (.int i) := fun E Z H σ S Q q => we_pe pe_int (q _ Z H S.same .int)
theorem de_bl {i : Bool} {j} : DE X (.Constant (.bool i) j pos) ρ (.bl i) := fun E Z H σ S Q q => we_pe pe_bl (q _ Z H S.same .bl)
theorem de_non {j} : DE X (.Constant .none j pos) ρ .non := fun E Z H σ S Q q => we_pe pe_non (q _ Z H S.same .non)
theorem de_str {i : Str} {j} : DE X (.Constant (.str i) j pos) ρ (.str i) := fun E Z H σ S Q q => we_pe pe_str (q _ Z H S.same .str)
theorem de_glob {x : Str} {v : V} {u : Value} (hm : X.mg x = some u) (r : RelV v u) (h : ∀ Z, Rep X.K Z v d) (hg : Gl X x := by rfl) (hd : (x == ("__debug__" : Str)) = false := by decide) : DE X (.Name x pos) ρ d := fun E Z H σ S Q q =>
  we_pe (pe_glob hg hm r hd) (q v Z H S.same (h Z))
theorem de_globI {x : Str} {i : Int} (hm : ∃ t, X.mg x = some (.int i t)) (hg : Gl X x := by rfl) (hd : (x == ("__debug__" : Str)) = false := by decide) : DE X (.Name x pos) ρ (.int i) := by
  obtain ⟨t, hm⟩ := hm
  exact de_glob (v := .int i) hm ⟨t, rfl⟩ (fun _ => .int) hg hd

/-! ### operators -/
/-- a rule of two values by data -/
def RD (K : PySem.W.Frag) (r : R2) (da db d : D) : Prop := ∀ x y Z H, Ex Z H → LamX.Tabs (tabs K) H → Rep K Z x da → Rep K Z y db → ∀ Q : VK, (∀ v Z' H', G K Z H Z' H' → Rep K Z' v d → Q v H') → r x y H Q
def ROD (K : PySem.W.Frag) (r : R2) (da db : D) (ds : List D) : Prop := ∀ x y Z H, Ex Z H → LamX.Tabs (tabs K) H → Rep K Z x da → Rep K Z y db → ∀ Q : VK, (∀ l xs, H l = none → RepL K Z xs ds → Q (.ref l) (upd H l (.lst xs))) → r x y H Q
/-- a new list made over what has grown -/
theorem made {K : PySem.W.Frag} {E : Cfg} {Z H Z2 H2 : Hp} {σ : L2.St} {ρ : List Sl} {ds : List D} {Q : VK} (g : G K Z H Z2 H2) (q : ∀ l xs Z' H', G K Z H Z' H' → Frsh H l → Z' l = none → H' l = some (.lst xs) → RepL K Z' xs ds → Q (.ref l) H')
    {l : Addr} {xs : List V} (hl : H2 l = none) (r : RepL K Z2 xs ds) : Q (.ref l) (upd H2 l (.lst xs)) :=
  q l xs Z2 _ (g.newH hl) ((Frsh.none hl).back g.h) (g.zh.free hl) upd_same r
theorem de_op {op : Operator} {r : R2} (ho : OpR X (binaryOp op) r) (hr : RD X.K r da db d) (ha : DE X a ρ da) (hb : DE X b ρ db) : DE X (.BinOp a op b pos) ρ d := fun E Z H σ S Q q =>
  we_pe (pe_op ho pe_we pe_we) (ha E Z H σ S _ fun x Z1 H1 g1 r1 => hb E Z1 H1 σ (S.grow g1) _ fun y Z2 H2 g2 r2 =>
    hr x y Z2 H2 g2.zh g2.tb (r1.mono g2.z) r2 Q fun v Z3 H3 g3 r3 => q v Z3 H3 ((g1.trans g2).trans g3) r3)
theorem do_op {op : Operator} {r : R2} (ho : OpR X (binaryOp op) r) (hr : ROD X.K r da db ds) (ha : DE X a ρ da) (hb : DE X b ρ db) : DO X (.BinOp a op b pos) ρ ds := fun E Z H σ S Q q =>
  we_pe (pe_op ho pe_we pe_we) (ha E Z H σ S _ fun x Z1 H1 g1 r1 => hb E Z1 H1 σ (S.grow g1) _ fun y Z2 H2 g2 r2 =>
    hr x y Z2 H2 g2.zh g2.tb (r1.mono g2.z) r2 Q fun l xs hl r3 => made (E := E) (σ := σ) (ρ := ρ) (g1.trans g2) q hl r3)
section
variable {K : PySem.W.Frag}
theorem rd_I0 {g : Int → Int → V} {i j : Int} {d : D} (h : ∀ Z, Rep K Z (g i j) d) : RD K (rI0 g) (.int i) (.int j) d := fun x y Z H zh tb rx ry Q q => by
  cases rx; cases ry
  exact ⟨i, j, rfl, rfl, q _ Z H (Gr.refl zh tb) (h Z)⟩
theorem rd_I {C : Int → Int → Prop} {g : Int → Int → V} {i j : Int} {d : D} (hc : C i j) (h : ∀ Z, Rep K Z (g i j) d) : RD K (rI C g) (.int i) (.int j) d := fun x y Z H zh tb rx ry Q q => by
  cases rx; cases ry
  exact ⟨i, j, rfl, rfl, hc, q _ Z H (Gr.refl zh tb) (h Z)⟩
theorem rd_eqI {i j : Int} : RD K rEq (.int i) (.int j) (.bl (decide (i = j))) := fun x y Z H zh tb rx ry Q q => by
  cases rx; cases ry
  refine ⟨rfl, ?_⟩
  have e : decide (V.int i = V.int j) = decide (i = j) := by rw [dec_int, Bool.beq_eq_decide_eq]
  rw [e]
  exact q _ Z H (Gr.refl zh tb) .bl
theorem rd_neI {i j : Int} : RD K rNe (.int i) (.int j) (.bl (!decide (i = j))) := fun x y Z H zh tb rx ry Q q => by
  cases rx; cases ry
  refine ⟨rfl, ?_⟩
  have e : decide (V.int i = V.int j) = decide (i = j) := by rw [dec_int, Bool.beq_eq_decide_eq]
  rw [e]
  exact q _ Z H (Gr.refl zh tb) .bl
theorem rd_eqB {i j : Bool} : RD K rEq (.bl i) (.bl j) (.bl (i == j)) := fun x y Z H zh tb rx ry Q q => by
  cases rx; cases ry
  refine ⟨rfl, ?_⟩
  rw [dec_bl]
  exact q _ Z H (Gr.refl zh tb) .bl
theorem rd_neB {i j : Bool} : RD K rNe (.bl i) (.bl j) (.bl (i != j)) := fun x y Z H zh tb rx ry Q q => by
  cases rx; cases ry
  refine ⟨rfl, ?_⟩
  rw [dec_bl]
  exact q _ Z H (Gr.refl zh tb) .bl
theorem rd_eqS {i j : Str} : RD K rEq (.str i) (.str j) (.bl (i == j)) := fun x y Z H zh tb rx ry Q q => by
  cases rx; cases ry
  refine ⟨rfl, ?_⟩
  rw [dec_str]
  exact q _ Z H (Gr.refl zh tb) .bl
theorem rd_neS {i j : Str} : RD K rNe (.str i) (.str j) (.bl (i != j)) := fun x y Z H zh tb rx ry Q q => by
  cases rx; cases ry
  refine ⟨rfl, ?_⟩
  rw [dec_str]
  exact q _ Z H (Gr.refl zh tb) .bl
/-- is it None -/
def D.isNon : D → Bool
  | .non => true
  | _ => false
theorem Rep.isNon {Z : Hp} {v : V} {d : D} (r : Rep K Z v d) : decide (v = .non) = d.isNon := by cases r <;> rfl
theorem rd_isN {d : D} : RD K (fun x y H Q => y = .non ∧ Q (.bl (decide (x = .non))) H) d .non (.bl d.isNon) := fun x y Z H zh tb rx ry Q q => by
  cases ry
  exact ⟨rfl, by rw [rx.isNon]; exact q _ Z H (Gr.refl zh tb) .bl⟩
theorem rd_notN {d : D} : RD K (fun x y H Q => y = .non ∧ Q (.bl (!decide (x = .non))) H) d .non (.bl (!d.isNon)) := fun x y Z H zh tb rx ry Q q => by
  cases ry
  exact ⟨rfl, by rw [rx.isNon]; exact q _ Z H (Gr.refl zh tb) .bl⟩
end
section
variable {i j : Int}
theorem de_add (ha : DE X a ρ (.int i)) (hb : DE X b ρ (.int j)) : DE X (.BinOp a .Add b pos) ρ (.int (i + j)) := de_op op_add (rd_I0 fun _ => .int) ha hb
theorem de_sub (ha : DE X a ρ (.int i)) (hb : DE X b ρ (.int j)) : DE X (.BinOp a .Sub b pos) ρ (.int (i - j)) := de_op op_sub (rd_I0 fun _ => .int) ha hb
theorem de_mul (ha : DE X a ρ (.int i)) (hb : DE X b ρ (.int j)) (hc : (-(2 ^ 64) < i ∧ i < 2 ^ 64) ∨ (-(2 ^ 64) < j ∧ j < 2 ^ 64)) : DE X (.BinOp a .Mult b pos) ρ (.int (i * j)) := de_op op_mul (rd_I (C := CMul) hc fun _ => .int) ha hb
theorem de_fdiv (ha : DE X a ρ (.int i)) (hb : DE X b ρ (.int j)) (hc : 0 < j ∧ j < 1073741824) : DE X (.BinOp a .FloorDiv b pos) ρ (.int (i / j)) := de_op op_fdiv (rd_I (C := CDiv) hc fun _ => .int) ha hb
theorem de_mod (ha : DE X a ρ (.int i)) (hb : DE X b ρ (.int j)) (hc : 0 < j) : DE X (.BinOp a .Mod b pos) ρ (.int (i % j)) := de_op op_mod (rd_I hc fun _ => .int) ha hb
theorem de_pow (ha : DE X a ρ (.int i)) (hb : DE X b ρ (.int j)) (hc : 0 ≤ j ∧ j ≤ 1000000 ∧ i.natAbs < 2 ^ 64) : DE X (.BinOp a .Pow b pos) ρ (.int (i ^ j.toNat)) := de_op op_pow (rd_I (C := CPow) hc fun _ => .int) ha hb
theorem de_neg (ha : DE X a ρ (.int i)) : DE X (.UnaryOp .USub a pos) ρ (.int (-i)) := fun E Z H σ S Q q =>
  we_pe (pe_un un_neg pe_we) (ha E Z H σ S _ fun x Z1 H1 g1 r1 => by cases r1; exact ⟨i, rfl, q _ Z1 H1 g1 .int⟩)
end
/-! ### comparisons -/
theorem de_cmp {op : CmpOp} {r : R2} (ho : OpR X (compareOp op) r) (hr : RD X.K r da db d) (ha : DE X a ρ da) (hb : DE X b ρ db) (hm : behindInMarks op b = false) : DE X (.Compare a [op] [b] pos) ρ d := fun E Z H σ S Q q =>
  we_pe (pe_cmpR ho pe_we pe_we hm) (ha E Z H σ S _ fun x Z1 H1 g1 r1 => hb E Z1 H1 σ (S.grow g1) _ fun y Z2 H2 g2 r2 =>
    hr x y Z2 H2 g2.zh g2.tb (r1.mono g2.z) r2 Q fun v Z3 H3 g3 r3 => q v Z3 H3 ((g1.trans g2).trans g3) r3)
theorem dt_cmp {op : CmpOp} {r : R2} {k : Bool} (ho : OpR X (compareOp op) r) (hr : RD X.K r da db (.bl k)) (ha : DE X a ρ da) (hb : DE X b ρ db) (hm : behindInMarks op b = false) : DT X (.Compare a [op] [b] pos) ρ k := fun E Z H σ S Q q =>
  wt_pt (pt_cmpR ho pe_we pe_we hm) (ha E Z H σ S _ fun x Z1 H1 g1 r1 => hb E Z1 H1 σ (S.grow g1) _ fun y Z2 H2 g2 r2 =>
    hr x y Z2 H2 g2.zh g2.tb (r1.mono g2.z) r2 _ fun v Z3 H3 g3 r3 => by cases r3; exact ⟨k, rfl, q Z3 H3 ((g1.trans g2).trans g3)⟩)
section
variable {i j k : Int}
theorem rd_lt {K : PySem.W.Frag} : RD K (rI0 fun i j => .bl (decide (i < j))) (.int i) (.int j) (.bl (decide (i < j))) := rd_I0 fun _ => .bl
theorem rd_le {K : PySem.W.Frag} : RD K (rI0 fun i j => .bl (decide (i ≤ j))) (.int i) (.int j) (.bl (decide (i ≤ j))) := rd_I0 fun _ => .bl
theorem rd_gt {K : PySem.W.Frag} : RD K (rI0 fun i j => .bl (decide (j < i))) (.int i) (.int j) (.bl (decide (j < i))) := rd_I0 fun _ => .bl
theorem rd_ge {K : PySem.W.Frag} : RD K (rI0 fun i j => .bl (decide (j ≤ i))) (.int i) (.int j) (.bl (decide (j ≤ i))) := rd_I0 fun _ => .bl
theorem de_chain {op op' : CmpOp} {r r' : R2} {x y : Bool} (ho : OpR X (compareOp op) r) (ho' : OpR X (compareOp op') r') (hr : RD X.K r da db (.bl x)) (hr' : RD X.K r' db dc (.bl y)) (ha : DE X a ρ da) (hb : DE X b ρ db) (hc : DE X c ρ dc)
    (hm : lastMarks [op, op'] [b, c] = false := by with_unfolding_all rfl) : DE X (.Compare a [op, op'] [b, c] pos) ρ (.bl (x && y)) := fun E Z H σ S Q q => by
  refine we_pe (pe_chain ho ho' pe_we pe_we pe_we hm) (ha E Z H σ S _ fun u Z1 H1 g1 r1 => hb E Z1 H1 σ (S.grow g1) _ fun v Z2 H2 g2 r2 =>
    hr u v Z2 H2 g2.zh g2.tb (r1.mono g2.z) r2 _ fun w Z3 H3 g3 r3 => ?_)
  cases r3
  refine ⟨x, rfl, ?_⟩
  cases x with
  | true =>
    refine iteT (hc E Z3 H3 σ (S.grow ((g1.trans g2).trans g3)) _ fun z Z4 H4 g4 r4 => ?_)
    refine hr' v z Z4 H4 g4.zh g4.tb (r2.mono (g3.z.trans g4.z)) r4 _ fun w Z5 H5 g5 r5 => ?_
    exact q _ Z5 H5 ((((g1.trans g2).trans g3).trans g4).trans g5) r5
  | false => exact iteF (q _ Z3 H3 ((g1.trans g2).trans g3) .bl)
theorem dt_chain {op op' : CmpOp} {r r' : R2} {x y : Bool} (ho : OpR X (compareOp op) r) (ho' : OpR X (compareOp op') r') (hr : RD X.K r da db (.bl x)) (hr' : RD X.K r' db dc (.bl y)) (ha : DE X a ρ da) (hb : DE X b ρ db) (hc : DE X c ρ dc)
    (hm : lastMarks [op, op'] [b, c] = false := by with_unfolding_all rfl) : DT X (.Compare a [op, op'] [b, c] pos) ρ (x && y) := fun E Z H σ S Q q => by
  refine wt_pt (pt_chain ho ho' pe_we pe_we pe_we hm) (ha E Z H σ S _ fun u Z1 H1 g1 r1 => hb E Z1 H1 σ (S.grow g1) _ fun v Z2 H2 g2 r2 =>
    hr u v Z2 H2 g2.zh g2.tb (r1.mono g2.z) r2 _ fun w Z3 H3 g3 r3 => ?_)
  cases r3
  refine ⟨x, rfl, ?_⟩
  cases x with
  | true =>
    refine iteT (hc E Z3 H3 σ (S.grow ((g1.trans g2).trans g3)) _ fun z Z4 H4 g4 r4 => ?_)
    refine hr' v z Z4 H4 g4.zh g4.tb (r2.mono (g3.z.trans g4.z)) r4 _ fun w Z5 H5 g5 r5 => ?_
    cases r5
    exact ⟨_, rfl, q Z5 H5 ((((g1.trans g2).trans g3).trans g4).trans g5)⟩
  | false => exact iteF ⟨_, rfl, q Z3 H3 ((g1.trans g2).trans g3)⟩
end
/-! ### truth -/
theorem dt_of {k : Bool} (h : DE X e ρ (.bl k)) (he : ∀ whole, isTrue e X.env whole = (do let v ← whole; standAt e.pos; holding [v] (truthy v)) := by intro _; rfl) : DT X e ρ k := fun E Z H σ S Q q =>
  wt_pt (pt_val pe_we he) (h E Z H σ S _ fun v Z1 H1 g1 r1 => by cases r1; exact ⟨k, rfl, q Z1 H1 g1⟩)
theorem dt_not {k : Bool} (h : DT X a ρ k) : DT X (.UnaryOp .Not a pos) ρ (!k) := fun E Z H σ S Q q => wt_pt (pt_not pt_wt) (h E Z H σ S _ fun Z1 H1 g1 => q Z1 H1 g1)
theorem dw_and1 {k : Bool} (h : DT X a ρ k) : DPW X (.BoolOp .And [a] pos) ρ k := fun E Z H σ S Q q => wpw_pw (pw_and1 pt_wt) (h E Z H σ S _ q)
theorem dw_or1 {k : Bool} (h : DT X a ρ k) : DPW X (.BoolOp .Or [a] pos) ρ k := fun E Z H σ S Q q => wpw_pw (pw_or1 pt_wt) (h E Z H σ S _ q)
theorem dw_and {k k' : Bool} (h : DT X a ρ k) (h' : k = true → DPW X (.BoolOp .And (b :: es) pos) ρ k') : DPW X (.BoolOp .And (a :: b :: es) pos) ρ (k && k') := fun E Z H σ S Q q =>
  wpw_pw (pw_and pt_wt pw_wpw) (h E Z H σ S _ fun Z1 H1 g1 => by
    cases k with
    | true => exact iteT (h' rfl E Z1 H1 σ (S.grow g1) _ fun Z2 H2 g2 => q Z2 H2 (g1.trans g2))
    | false => exact iteF (q Z1 H1 g1))
theorem dw_or {k k' : Bool} (h : DT X a ρ k) (h' : k = false → DPW X (.BoolOp .Or (b :: es) pos) ρ k') : DPW X (.BoolOp .Or (a :: b :: es) pos) ρ (k || k') := fun E Z H σ S Q q =>
  wpw_pw (pw_or pt_wt pw_wpw) (h E Z H σ S _ fun Z1 H1 g1 => by
    cases k with
    | true => exact iteT (q Z1 H1 g1)
    | false => exact iteF (h' rfl E Z1 H1 σ (S.grow g1) _ fun Z2 H2 g2 => q Z2 H2 (g1.trans g2)))
theorem dt_pw {k : Bool} (h : DPW X e ρ k) : DT X e ρ k := fun E Z H σ S Q q => wt_pt (PW.pt pw_wpw) (h E Z H σ S Q q)
/-- and, or as values: all but the last a bool -/
theorem de_one {op} (h : DE X a ρ d) : DE X (.BoolOp op [a] pos) ρ d := fun E Z H σ S Q q => we_pe (pe_one pe_we) (h E Z H σ S Q q)
theorem de_and {k k' : Bool} (h : DE X a ρ (.bl k)) (h' : k = true → DE X (.BoolOp .And (b :: es) pos) ρ (.bl k')) : DE X (.BoolOp .And (a :: b :: es) pos) ρ (.bl (k && k')) := fun E Z H σ S Q q =>
  we_pe (pe_and pe_we pe_we) (h E Z H σ S _ fun v Z1 H1 g1 r1 => by
    cases r1
    refine ⟨k, rfl, ?_⟩
    cases k with
    | true => exact iteT (h' rfl E Z1 H1 σ (S.grow g1) _ fun v Z2 H2 g2 r => q v Z2 H2 (g1.trans g2) r)
    | false => exact iteF (q _ Z1 H1 g1 .bl))
theorem de_or {k k' : Bool} (h : DE X a ρ (.bl k)) (h' : k = false → DE X (.BoolOp .Or (b :: es) pos) ρ (.bl k')) : DE X (.BoolOp .Or (a :: b :: es) pos) ρ (.bl (k || k')) := fun E Z H σ S Q q =>
  we_pe (pe_or pe_we pe_we) (h E Z H σ S _ fun v Z1 H1 g1 r1 => by
    cases r1
    refine ⟨k, rfl, ?_⟩
    cases k with
    | true => exact iteT (q _ Z1 H1 g1 .bl)
    | false => exact iteF (h' rfl E Z1 H1 σ (S.grow g1) _ fun v Z2 H2 g2 r => q v Z2 H2 (g1.trans g2) r))
theorem de_not {k : Bool} (h : DE X a ρ (.bl k)) : DE X (.UnaryOp .Not a pos) ρ (.bl (!k)) := fun E Z H σ S Q q => we_pe (pe_not pe_we) (h E Z H σ S _ fun v Z1 H1 g1 r1 => by cases r1; exact ⟨k, rfl, q _ Z1 H1 g1 .bl⟩)
theorem de_if {k : Bool} (h : DT X c ρ k) (h1 : k = true → DE X a ρ d) (h2 : k = false → DE X b ρ d) : DE X (.IfExp c a b pos) ρ d := fun E Z H σ S Q q =>
  we_pe (pe_ifExp pt_wt pe_we pe_we) (h E Z H σ S _ fun Z1 H1 g1 => by
    cases k with
    | true => exact iteT (h1 rfl E Z1 H1 σ (S.grow g1) _ fun v Z2 H2 g2 r => q v Z2 H2 (g1.trans g2) r)
    | false => exact iteF (h2 rfl E Z1 H1 σ (S.grow g1) _ fun v Z2 H2 g2 r => q v Z2 H2 (g1.trans g2) r))

/-! ### arguments, displays -/
theorem da_nil : DA X [] ρ [] := fun E Z H σ S Q q => wa_pa pa_nil (q [] Z H S.same .nil)
theorem da_cons (h : DE X e ρ d) (h' : DA X es ρ ds) (hs : starEach (e :: es) X.env = (false, eval e X.env) :: starEach es X.env := by rfl) : DA X (e :: es) ρ (d :: ds) := fun E Z H σ S Q q =>
  wa_pa (pa_cons pe_we pa_wa hs) (h E Z H σ S _ fun v Z1 H1 g1 r1 => h' E Z1 H1 σ (S.grow g1) _ fun vs Z2 H2 g2 r2 => q _ Z2 H2 (g1.trans g2) (.cons (r1.mono g2.z) r2))
theorem de_tup {x1} (h : DA X es ρ ds) (hz : ds.length ≤ sizeLine := by decide) : DE X (.Tuple es x1 pos) ρ (.tup ds) := fun E Z H σ S Q q =>
  we_pe (pe_tup pa_wa) (h E Z H σ S _ fun vs Z1 H1 g1 r1 => ⟨by rw [r1.length]; exact hz, fun p hp => q _ (upd Z1 p (.tup vs)) _ (g1.new hp) (.tup (.inl upd_same) (r1.mono (Ex.new (g1.zh.free hp))))⟩)
theorem do_lst (h : DA X es ρ ds) (hz : ds.length ≤ sizeLine := by decide) : DO X (.List es pos) ρ ds := fun E Z H σ S Q q =>
  we_pe (pe_lst pa_wa) (h E Z H σ S _ fun vs Z1 H1 g1 r1 => ⟨by rw [r1.length]; exact hz, fun p hp => made (E := E) (σ := σ) (ρ := ρ) g1 q hp r1⟩)
end
end DL
set_option maxHeartbeats 4000000
namespace DL
open PySem PySem.Spec PyProof.Rows L2
section
variable {X : Cx} {e a b c o : Expr} {es : List Expr} {ρ : List Sl} {d da db dc : D} {ds : List D} {pos p : Pos}

/-! ### == of data -/
def tI (ns : List Int) : D := .tup (ns.map .int)
def lI (ns : List Int) : D := .lst (ns.map .int)
def tII (rows : List (List Int)) : D := .tup (rows.map tI)
section
variable {K : PySem.W.Frag} {Z H : Hp}
theorem dpAll_ints : ∀ (ns : List Int), DpAll K H (ns.map V.int) (ns.map PyData.int)
  | [] => .nil
  | n :: ns => .cons (.int n) (dpAll_ints ns)
theorem Rep.dpT {v : V} {ns : List Int} (zh : Ex Z H) (r : Rep K Z v (tI ns)) : Dp K H v (.tuple (ns.map .int)) := by
  cases r with
  | tup h r => rw [r.ints] at h; exact .tup (sq_t zh h) (dpAll_ints ns)
theorem Rep.dpL {v : V} {ns : List Int} (zh : Ex Z H) (r : Rep K Z v (lI ns)) : Dp K H v (.list (ns.map .int)) := by
  cases r with
  | lst h r => rw [r.ints] at h; exact .lst (SqL.of (zh _ _ h)) (dpAll_ints ns)
theorem RepL.dpTs (zh : Ex Z H) : ∀ {rows : List (List Int)} {vs : List V}, RepL K Z vs (rows.map tI) → DpAll K H vs (rows.map fun ns => .tuple (ns.map .int))
  | [], vs, r => by cases vs with | nil => exact .nil | cons _ _ => cases r
  | ns :: rows, vs, r => by
    cases vs with
    | nil => cases r
    | cons v vs => cases r with | cons h r => exact .cons (h.dpT zh) (RepL.dpTs zh r)
theorem Rep.dpTT {v : V} {rows : List (List Int)} (zh : Ex Z H) (r : Rep K Z v (tII rows)) : Dp K H v (.tuple (rows.map fun ns => .tuple (ns.map .int))) := by
  cases r with
  | tup h r => exact .tup (sq_t zh h) (r.dpTs zh)
end
theorem lay_ints : ∀ ns : List Int, PyData.canLayAll0 (ns.map .int) = true
  | [] => rfl
  | n :: ns => by simp only [List.map_cons, PyData.canLayAll0, PyData.canLay0, lay_ints ns]; rfl
theorem depth_ints : ∀ ns : List Int, PyData.depthAll (ns.map .int) ≤ 1
  | [] => by simp [PyData.depthAll]
  | n :: ns => by
    have := depth_ints ns
    simp only [List.map_cons, PyData.depthAll, PyData.depth]
    omega
theorem shaped_t (ns : List Int) : SeqAt.shaped (.tuple (ns.map .int)) = true := by
  have := depth_ints ns
  show (PyData.canLayAll0 (ns.map .int) && decide (PyData.depthAll (ns.map .int) + 1 ≤ 64)) = true
  rw [lay_ints, Bool.true_and, decide_eq_true_eq]
  omega
theorem shaped_l (ns : List Int) : SeqAt.shaped (.list (ns.map .int)) = true := by
  have := depth_ints ns
  show (PyData.canLayAll0 (ns.map .int) && decide (PyData.depthAll (ns.map .int) + 1 ≤ 64)) = true
  rw [lay_ints, Bool.true_and, decide_eq_true_eq]
  omega
theorem lay_tts : ∀ rows : List (List Int), PyData.canLayAll0 (rows.map fun ns => .tuple (ns.map .int)) = true
  | [] => rfl
  | n :: ns => by simp only [List.map_cons, PyData.canLayAll0, PyData.canLay0, lay_ints, lay_tts ns]; rfl
theorem depth_tts : ∀ rows : List (List Int), PyData.depthAll (rows.map fun ns => .tuple (ns.map .int)) ≤ 2
  | [] => by simp [PyData.depthAll]
  | n :: ns => by
    have := depth_tts ns
    have := depth_ints n
    simp only [List.map_cons, PyData.depthAll, PyData.depth]
    omega
theorem shaped_tt (rows : List (List Int)) : SeqAt.shaped (.tuple (rows.map fun ns => .tuple (ns.map .int))) = true := by
  have := depth_tts rows
  show (PyData.canLayAll0 (rows.map fun ns => .tuple (ns.map .int)) && decide (PyData.depthAll (rows.map fun ns => .tuple (ns.map .int)) + 1 ≤ 64)) = true
  rw [lay_tts, Bool.true_and, decide_eq_true_eq]
  omega
theorem eqvAll_ints : ∀ (ns ms : List Int), PyData.eqvAll (ns.map .int) (ms.map .int) = decide (ns = ms)
  | [], [] => by simp [PyData.eqvAll]
  | [], _ :: _ => by simp [PyData.eqvAll]
  | _ :: _, [] => by simp [PyData.eqvAll]
  | n :: ns, m :: ms => by
    simp only [List.map_cons, PyData.eqvAll, PyData.eqv, eqvAll_ints ns ms, List.cons.injEq]
    by_cases h : n = m <;> simp [h]
theorem eqvAll_tts : ∀ (ns ms : List (List Int)), PyData.eqvAll (ns.map fun ns => .tuple (ns.map .int)) (ms.map fun ns => .tuple (ns.map .int)) = decide (ns = ms)
  | [], [] => by simp [PyData.eqvAll]
  | [], _ :: _ => by simp [PyData.eqvAll]
  | _ :: _, [] => by simp [PyData.eqvAll]
  | n :: ns, m :: ms => by
    simp only [List.map_cons, PyData.eqvAll, PyData.eqv, eqvAll_ints, eqvAll_tts ns ms, List.cons.injEq]
    by_cases h : n = m <;> simp [h]
theorem eqv_t (ns ms : List Int) : PyData.eqv (.tuple (ns.map .int)) (.tuple (ms.map .int)) = decide (ns = ms) := by simp only [PyData.eqv]; exact eqvAll_ints ns ms
theorem eqv_l (ns ms : List Int) : PyData.eqv (.list (ns.map .int)) (.list (ms.map .int)) = decide (ns = ms) := by simp only [PyData.eqv]; exact eqvAll_ints ns ms
theorem eqv_tt (ns ms : List (List Int)) : PyData.eqv (.tuple (ns.map fun ns => .tuple (ns.map .int))) (.tuple (ms.map fun ns => .tuple (ns.map .int))) = decide (ns = ms) := by simp only [PyData.eqv]; exact eqvAll_tts ns ms
section
variable {K : PySem.W.Frag}
theorem rd_eqT {ns ms : List Int} : RD K (rEqD K) (tI ns) (tI ms) (.bl (decide (ns = ms))) := fun x y Z H zh tb rx ry Q q =>
  ⟨_, _, rx.dpT zh, ry.dpT zh, shaped_t ns, shaped_t ms, by rw [eqv_t]; exact q _ Z H (Gr.refl zh tb) .bl⟩
theorem rd_neT {ns ms : List Int} : RD K (rNeD K) (tI ns) (tI ms) (.bl (!decide (ns = ms))) := fun x y Z H zh tb rx ry Q q =>
  ⟨_, _, rx.dpT zh, ry.dpT zh, shaped_t ns, shaped_t ms, by rw [eqv_t]; exact q _ Z H (Gr.refl zh tb) .bl⟩
theorem rd_eqL {ns ms : List Int} : RD K (rEqD K) (lI ns) (lI ms) (.bl (decide (ns = ms))) := fun x y Z H zh tb rx ry Q q =>
  ⟨_, _, rx.dpL zh, ry.dpL zh, shaped_l ns, shaped_l ms, by rw [eqv_l]; exact q _ Z H (Gr.refl zh tb) .bl⟩
theorem rd_neL {ns ms : List Int} : RD K (rNeD K) (lI ns) (lI ms) (.bl (!decide (ns = ms))) := fun x y Z H zh tb rx ry Q q =>
  ⟨_, _, rx.dpL zh, ry.dpL zh, shaped_l ns, shaped_l ms, by rw [eqv_l]; exact q _ Z H (Gr.refl zh tb) .bl⟩
theorem rd_eqTT {ns ms : List (List Int)} : RD K (rEqD K) (tII ns) (tII ms) (.bl (decide (ns = ms))) := fun x y Z H zh tb rx ry Q q =>
  ⟨_, _, rx.dpTT zh, ry.dpTT zh, shaped_tt ns, shaped_tt ms, by rw [eqv_tt]; exact q _ Z H (Gr.refl zh tb) .bl⟩
end

/-! ### places -/
section
variable {K : PySem.W.Frag}
theorem RepL.atI {Z : Hp} {vs : List V} (r : RepL K Z vs ds) {i : Int} (h : atI ds i = some d) : ∃ v, atI vs i = some v ∧ Rep K Z v d := by
  unfold L2.atI at h ⊢
  rw [r.length]
  cases e : ixN ds.length i with
  | none => rw [e] at h; cases h
  | some j => rw [e] at h; exact r.get h
theorem rd_ixL {i : Int} (h : atI ds i = some d) : RD K (rIxL K) (.lst ds) (.int i) d := fun x y Z H zh tb rx ry Q q => by
  cases ry
  cases rx with
  | lst hz r =>
    obtain ⟨v, e, rv⟩ := r.atI h
    exact ⟨_, _, i, v, rfl, rfl, SqL.of (zh _ _ hz), e, q v Z H (Gr.refl zh tb) rv⟩
theorem rd_ixT {i : Int} (h : atI ds i = some d) : RD K (rIxT K) (.tup ds) (.int i) d := fun x y Z H zh tb rx ry Q q => by
  cases ry
  cases rx with
  | tup hz r =>
    obtain ⟨v, e, rv⟩ := r.atI h
    exact ⟨_, _, i, v, rfl, rfl, sq_t zh hz, e, q v Z H (Gr.refl zh tb) rv⟩
theorem rd_ixS {ns : List Int} {i n : Int} (h : atI ns i = some n) : RD K (rIxL K) (.scr ns) (.int i) (.int n) := fun x y Z H zh tb rx ry Q q => by
  cases ry
  cases rx with
  | scr hz =>
    have h' : atI (ns.map V.int) i = some (.int n) := by
      unfold L2.atI at h ⊢
      rw [List.length_map]
      cases e : ixN ns.length i with
      | none => rw [e] at h; cases h
      | some j =>
        rw [e] at h
        show (ns.map V.int)[j]? = _
        rw [List.getElem?_map, show ns[j]? = some n from h]; rfl
    exact ⟨_, _, i, .int n, rfl, rfl, sqL_ex zh hz, h', q _ Z H (Gr.refl zh tb) .int⟩
end
theorem de_ix {r : R2} (hr : IxR X r) (hd : RD X.K r da db d) (ha : DE X a ρ da) (hb : DE X b ρ db) (hs : PlainIx b := by intro _ _; rfl) : DE X (.Subscript a b pos) ρ d := fun E Z H σ S Q q =>
  we_pe (pe_ix hr pe_we pe_we hs) (ha E Z H σ S _ fun x Z1 H1 g1 r1 => hb E Z1 H1 σ (S.grow g1) _ fun y Z2 H2 g2 r2 =>
    hd x y Z2 H2 g2.zh g2.tb (r1.mono g2.z) r2 Q fun v Z3 H3 g3 r3 => q v Z3 H3 ((g1.trans g2).trans g3) r3)
theorem de_ixL {i : Int} (ha : DE X a ρ (.lst ds)) (hb : DE X b ρ (.int i)) (h : atI ds i = some d) (hs : PlainIx b := by intro _ _; rfl) : DE X (.Subscript a b pos) ρ d := de_ix ix_list (rd_ixL h) ha hb hs
theorem de_ixT {i : Int} (ha : DE X a ρ (.tup ds)) (hb : DE X b ρ (.int i)) (h : atI ds i = some d) (hs : PlainIx b := by intro _ _; rfl) : DE X (.Subscript a b pos) ρ d := de_ix ix_tup (rd_ixT h) ha hb hs
theorem de_ixS {ns : List Int} {i n : Int} (ha : DE X a ρ (.scr ns)) (hb : DE X b ρ (.int i)) (h : atI ns i = some n) (hs : PlainIx b := by intro _ _; rfl) : DE X (.Subscript a b pos) ρ (.int n) := de_ix ix_list (rd_ixS h) ha hb hs
/-- the slot's own list, as an expression: (a word for the rules below) -/
theorem own_var (i : Nat) {x : Str} {E : Cfg} {Z H : Hp} {σ : L2.St} (S : St1 X.K E Z H σ ρ) (h : ρ[i]? = some (.own ds)) : ∃ l xs, σ[i]? = some (some (.ref l)) ∧ H l = some (.lst xs) ∧ RepL X.K Z xs ds := by
  obtain ⟨l, xs, e1, h1, _, _, _, r⟩ := S.s.lookO h
  exact ⟨l, xs, e1, h1, r⟩
theorem de_ixO (i : Nat) {x : Str} {k : Int} (hb : DE X b ρ (.int k)) (h : atI ds k = some d) (hi : ρ[i]? = some (.own ds) := by rfl) (hN : X.N[i]? = some x := by rfl) (hv : Vis X.env.scope x := by first | exact Or.inl rfl | exact Or.inr (Or.inl rfl) | exact Or.inr (Or.inr rfl))
    (hd : (x == ("__debug__" : Str)) = false := by decide) (hcd : (x == ("__classdict__" : Str)) = false := by decide) (hs : PlainIx b := by intro _ _; rfl) : DE X (.Subscript (.Name x p) b pos) ρ d := fun E Z H σ S Q q => by
  obtain ⟨l, xs, e1, h1, r⟩ := own_var i (x := x) S hi
  obtain ⟨v, e, rv⟩ := r.atI h
  refine we_pe (pe_ix ix_list (pe_var hN hv hd hcd) pe_we hs) ⟨_, e1, hb E Z H σ S _ fun y Z1 H1 g1 r1 => ?_⟩
  cases r1
  exact ⟨l, xs, k, v, rfl, rfl, SqL.of (g1.h _ _ h1 fun _ z => nomatch z), e, q v Z1 H1 g1 (rv.mono g1.z)⟩

/-! ### slices -/
/-- a part of a slice -/
def DPt (X : Cx) (e : Option Expr) (ρ : List Sl) (k : Option Int) : Prop := ∀ E Z H σ, St1 X.K E Z H σ ρ → ∃ t, PO X e t ∧ ∀ Q : Option Int → Hp → Prop, (∀ Z' H', G X.K Z H Z' H' → Q k H') → t σ H Q
def WO (X : Cx) (e : Option Expr) : TO := fun σ H Q => ∀ t, PO X e t → True
theorem dp_none (t : TO) : True := trivial
/-- a list sliced: a new list -/
def cutD (xs : List D) (lo hi : Option Int) : List D := (xs.drop (HT.sIx xs.length 0 lo)).take (HT.sIx xs.length xs.length hi - HT.sIx xs.length 0 lo)
theorem RepL.cut {K : PySem.W.Frag} {Z : Hp} {vs : List V} (r : RepL K Z vs ds) (lo hi : Option Int) : RepL K Z (cutV vs lo hi) (cutD ds lo hi) := by
  unfold cutV cutD
  rw [r.length]
  exact (r.drop _).take _
theorem do_slFrom {k : Int} {p2 : Pos} (ha : DE X a ρ (.lst ds)) (hb : DE X b ρ (.int k)) : DO X (.Subscript a (.Slice (some b) none none p2) pos) ρ (cutD ds (some k) none) := fun E Z H σ S Q q =>
  we_pe (pe_slice sl_list pe_we (po_some pe_we) po_none) (ha E Z H σ S _ fun x Z1 H1 g1 r1 => hb E Z1 H1 σ (S.grow g1) _ fun y Z2 H2 g2 r2 => by
    cases r2
    cases r1 with
    | lst hz r => exact ⟨k, rfl, _, _, rfl, SqL.of (g2.zh _ _ (g2.z _ _ hz)), fun p hp => made (E := E) (σ := σ) (ρ := ρ) (g1.trans g2) q hp ((r.mono g2.z).cut _ _)⟩)
theorem do_slTo {k : Int} {p2 : Pos} (ha : DE X a ρ (.lst ds)) (hb : DE X b ρ (.int k)) : DO X (.Subscript a (.Slice none (some b) none p2) pos) ρ (cutD ds none (some k)) := fun E Z H σ S Q q =>
  we_pe (pe_slice sl_list pe_we po_none (po_some pe_we)) (ha E Z H σ S _ fun x Z1 H1 g1 r1 => hb E Z1 H1 σ (S.grow g1) _ fun y Z2 H2 g2 r2 => by
    cases r2
    cases r1 with
    | lst hz r => exact ⟨k, rfl, _, _, rfl, SqL.of (g2.zh _ _ (g2.z _ _ hz)), fun p hp => made (E := E) (σ := σ) (ρ := ρ) (g1.trans g2) q hp ((r.mono g2.z).cut _ _)⟩)
theorem rep_cutT {K : PySem.W.Frag} {Z H Z' H' : Hp} {x : V} {lo hi : Option Int} {Q : VK} (g : G K Z H Z' H') (r1 : Rep K Z' x (.tup ds)) (q : ∀ v Z' H', G K Z H Z' H' → Rep K Z' v (.tup (cutD ds lo hi)) → Q v H') : rSlA K x lo hi H' Q := by
  cases r1 with
  | tup hz r =>
    refine ⟨_, _, rfl, sq_t g.zh hz, fun hw => q _ Z' H' g (.tup hz ?_), fun _ p hp => q _ _ _ (g.new hp) (.tup (.inl upd_same) ((r.cut lo hi).mono (Ex.new (g.zh.free hp))))⟩
    have e := r.length
    have c : cutD ds lo hi = ds := by
      unfold cutD
      rw [← e, hw.1, hw.2]
      simp [← e]
      rw [e, List.take_length]
    rw [c]; exact r
theorem de_slTFrom {k : Int} {p2 : Pos} (ha : DE X a ρ (.tup ds)) (hb : DE X b ρ (.int k)) : DE X (.Subscript a (.Slice (some b) none none p2) pos) ρ (.tup (cutD ds (some k) none)) := fun E Z H σ S Q q =>
  we_pe (pe_slice sl_tupA pe_we (po_some pe_we) po_none) (ha E Z H σ S _ fun x Z1 H1 g1 r1 => hb E Z1 H1 σ (S.grow g1) _ fun y Z2 H2 g2 r2 => by
    cases r2
    exact ⟨k, rfl, rep_cutT (g1.trans g2) (r1.mono g2.z) q⟩)
theorem de_slTTo {k : Int} {p2 : Pos} (ha : DE X a ρ (.tup ds)) (hb : DE X b ρ (.int k)) : DE X (.Subscript a (.Slice none (some b) none p2) pos) ρ (.tup (cutD ds none (some k))) := fun E Z H σ S Q q =>
  we_pe (pe_slice sl_tupA pe_we po_none (po_some pe_we)) (ha E Z H σ S _ fun x Z1 H1 g1 r1 => hb E Z1 H1 σ (S.grow g1) _ fun y Z2 H2 g2 r2 => by
    cases r2
    exact ⟨k, rfl, rep_cutT (g1.trans g2) (r1.mono g2.z) q⟩)

/-! ### + and * of sequences -/
section
variable {K : PySem.W.Frag}
theorem rd_catT {es : List D} (hz : ds.length + es.length ≤ sizeLine) : RD K (rCatA K) (.tup ds) (.tup es) (.tup (ds ++ es)) := fun x y Z H zh tb rx ry Q q => by
  cases rx with
  | tup hx r =>
    cases ry with
    | tup hy r' =>
      refine ⟨_, _, _, _, rfl, rfl, sq_t zh hx, sq_t zh hy, by rw [r.length, r'.length]; exact hz, fun e => ?_, fun _ e => ?_, fun _ _ p hp => ?_⟩
      · subst e
        cases r
        exact q _ Z H (Gr.refl zh tb) (.tup hy r')
      · subst e
        cases r'
        rw [List.append_nil] at q
        exact q _ Z H (Gr.refl zh tb) (.tup hx r)
      · exact q _ _ _ ((Gr.refl zh tb).new hp) (.tup (.inl upd_same) ((r.app r').mono (Ex.new (zh.free hp))))
theorem rod_cat {es : List D} (hz : ds.length + es.length ≤ sizeLine) : ROD K rCat (.lst ds) (.lst es) (ds ++ es) := fun x y Z H zh tb rx ry Q q => by
  cases rx with
  | lst hx r =>
    cases ry with
    | lst hy r' => exact ⟨_, _, _, _, rfl, rfl, zh _ _ hx, zh _ _ hy, by rw [r.length, r'.length]; exact hz, fun p hp => q p _ hp (r.app r')⟩
end
theorem de_catT {es : List D} (ha : DE X a ρ (.tup ds)) (hb : DE X b ρ (.tup es)) (hz : ds.length + es.length ≤ sizeLine) : DE X (.BinOp a .Add b pos) ρ (.tup (ds ++ es)) := de_op op_catA (rd_catT hz) ha hb
theorem do_cat {es : List D} (ha : DE X a ρ (.lst ds)) (hb : DE X b ρ (.lst es)) (hz : ds.length + es.length ≤ sizeLine) : DO X (.BinOp a .Add b pos) ρ (ds ++ es) := do_op op_cat (rod_cat hz) ha hb
/-- [x] * k -/
theorem do_rep1 {k : Int} (ha : DE X a ρ (.lst [d])) (hb : DE X b ρ (.int k)) (h0 : 0 ≤ k) (hz : k ≤ 16777216) : DO X (.BinOp a .Mult b pos) ρ (List.replicate k.toNat d) := by
  refine do_op op_rep ?_ ha hb
  intro x y Z H zh tb rx ry Q q
  cases ry
  cases rx with
  | lst hx r =>
    cases r with
    | cons r0 r1 =>
      cases r1
      rename_i v
      refine ⟨_, k, [v], rfl, rfl, zh _ _ hx, by omega, by omega, ?_, fun p hp => ?_⟩
      · have e := sizeLine_eq
        simp only [List.length_cons, List.length_nil, e]; omega
      · have e : (List.replicate k.toNat [v]).flatten = List.replicate k.toNat v := by
          generalize k.toNat = n
          induction n with
          | zero => rfl
          | succ n ih => rw [List.replicate_succ, List.flatten_cons, ih, List.replicate_succ]; rfl
        rw [e]
        exact q p _ hp (RepL.rep r0 _)
end
end DL
set_option maxHeartbeats 4000000
namespace DL
open PySem PySem.Spec PyProof.Rows L2

/-! ### what a def promises, by data -/
inductive Res where
  | ok (d : D) | err (C : Addr)
def spR (K : PySem.W.Frag) (R : List D → Res → Prop) : Sp := fun vs H Q Ew => ∃ Z ds r, R ds r ∧ Ex Z H ∧ NoT Z ∧ LamX.Tabs (tabs K) H ∧ RepL K Z vs ds ∧
  (∀ d, r = .ok d → ∀ v Z' H', G K Z H Z' H' → Rep K Z' v d → Q v H') ∧ (∀ C, r = .err C → ∀ H', LamX.ExtN H H' → LamX.Tabs (tabs K) H' → Ew (.ref C) none H')
/-- a def of the module keeps its promise -/
def DefOk (P : Program) (w : World) (K : PySem.W.Frag) (mg : Str → Option Value) (base : Heap) (x : Str) (k : Nat) (R : List D → Res → Prop) : Prop :=
  ∃ f fd ps, FnOk P w K mg base (L2.CX P w) k f fd ps (spR K R) ∧ mg x = some (.ref f) ∧ PySem.W.keepIn K (.ref f) = true ∧ Binds K fd ps []
/-- a method -/
def MethOk (P : Program) (w : World) (K : PySem.W.Frag) (mg : Str → Option Value) (base : Heap) (C : Addr) (m : Str) (k : Nat) (R : List D → Res → Prop) : Prop :=
  ∃ f fd ps, FnOk P w K mg base (L2.CX P w) k f fd ps (spR K R) ∧ Meth K C m f ∧ Binds K fd ps []
/-- all stands but at x -/
def ExtX (x : Addr) (H H' : Hp) : Prop := ∀ b o, b ≠ x → H b = some o → (∀ ps, o ≠ .tbl ps) → H' b = some o
/-- __init__ -/
def spI (K : PySem.W.Frag) (C : Addr) (R : List D → List (Str × D) → Prop) : Sp := fun vs H Q _ => ∃ Z ds fs x dx vs', vs = .ref x :: vs' ∧ R ds fs ∧ Ex Z H ∧ NoT Z ∧ LamX.Tabs (tabs K) H ∧ RepL K Z vs' ds ∧ H x = some (.ins C dx []) ∧ Z x = none ∧
  ∀ Z' H' vf, Ex Z Z' → NoT Z' → ExtX x H H' → Ex Z' H' → LamX.Tabs (tabs K) H' → (∀ a, Z' a ≠ none → Z a ≠ none ∨ Frsh H a) → Z' x = none → H' x = some (.ins C dx vf) → RepF K Z' vf fs → Q .non H'
def MakeOk (P : Program) (w : World) (K : PySem.W.Frag) (mg : Str → Option Value) (base : Heap) (x : Str) (C : Addr) (k : Nat) (R : List D → List (Str × D) → Prop) : Prop :=
  ∃ f fd ps, FnOk P w K mg base (L2.CX P w) k f fd ps (spI K C R) ∧ mg x = some (.ref C) ∧ Mk K C f ∧ Binds K fd ps []

section
variable {X : Cx} {e a b c o : Expr} {es : List Expr} {ρ : List Sl} {d da db dc : D} {ds : List D} {pos p apos : Pos} {x m : Str}

theorem de_call {k : Nat} {R : List D → Res → Prop} (F : DefOk X.prog X.w X.K X.mg X.base x k R) (hr : Room k X.A) (ha : DA X (e :: es) ρ ds) (hR : R ds (.ok d)) (hg : Gl X x := by rfl) (hdb : (x == ("__debug__" : Str)) = false := by decide)
    (he : starEach (e :: es) X.env = (false, eval e X.env) :: starEach es X.env := by rfl) (hpl : (backTo pos (starEach es X.env)).any (·.1) = false := by rfl) : DE X (.Call (.Name x p) (e :: es) [] pos) ρ d := fun E Z H σ S Q q => by
  obtain ⟨f, fd, ps, F, hm, hk, hb⟩ := F
  refine we_pe (pe_call F hr hg hm hk hb .nil passL pa_wa hdb he hpl) (ha E Z H σ S _ fun vs Z1 H1 g1 r1 => ?_)
  show spR X.K R (vs ++ []) H1 Q E0
  rw [List.append_nil]
  refine ⟨Z1, ds, .ok d, hR, g1.zh, g1.nz S.s.nz, g1.tb, r1, fun d' e' v Z2 H2 g2 r2 => ?_, fun C z => nomatch z⟩
  cases e'
  exact q v Z2 H2 (g1.trans g2) r2
theorem repF_none {K : PySem.W.Frag} {Z : Hp} {vs : List (Str × V)} {fs : List (Str × D)} (r : RepF K Z vs fs) {f : Str} (h : fs.lookup f = none) : vs.lookup f = none := by
  induction vs generalizing fs with
  | nil => rfl
  | cons y vs ih =>
    cases r with
    | cons hv r =>
      rename_i y v dd ds
      rw [List.lookup_cons] at h ⊢
      cases e : f == y with
      | true => simp only [e] at h; cases h
      | false => simp only [e] at h ⊢; exact ih r h
theorem de_fld {C : Addr} {fs : List (Str × D)} {f : Str} (c : Cls X.K C) (n : NoAttr X.K C f) (ho : DE X o ρ (.obj C fs)) (h : fs.lookup f = some d) (hb : attributeBase o f X.env (eval o X.env) = eval o X.env := by rfl) : DE X (.Attribute o f pos) ρ d := fun E Z H σ S Q q =>
  we_pe (pe_fld pe_we hb) (ho E Z H σ S _ fun v Z1 H1 g1 r1 => by
    cases r1 with
    | obj hz rf =>
      obtain ⟨v, e, r⟩ := rf.look h
      exact ⟨_, _, _, _, v, rfl, g1.zh _ _ hz, c, n, e, q v Z1 H1 g1 r⟩)

/-! ### built-in calls -/
def RCD (K : PySem.W.Frag) (r : List V → Hp → VK → Prop) (ds : List D) (d : D) : Prop := ∀ vs Z H, Ex Z H → LamX.Tabs (tabs K) H → RepL K Z vs ds → ∀ Q : VK, (∀ v Z' H', G K Z H Z' H' → Rep K Z' v d → Q v H') → r vs H Q
def RCO (K : PySem.W.Frag) (r : List V → Hp → VK → Prop) (ds ys : List D) : Prop := ∀ vs Z H, Ex Z H → LamX.Tabs (tabs K) H → RepL K Z vs ds → ∀ Q : VK, (∀ l xs, H l = none → RepL K Z xs ys → Q (.ref l) (upd H l (.lst xs))) → r vs H Q
theorem de_callB {id : String} {r : List V → Hp → VK → Prop} (hc : CallR X (.builtin id) r) (hr : RCD X.K r ds d) (hm : X.mg x = none) (ha : DA X (e :: es) ρ ds) (hv : bootBuiltins x = some (.builtin id) := by decide +kernel) (hg : Gl X x := by rfl) (hn : x ≠ "__name__" := by decide) (hdb : (x == ("__debug__" : Str)) = false := by decide)
    (he : starEach (e :: es) X.env = (false, eval e X.env) :: starEach es X.env := by rfl) (hpl : (backTo pos (starEach es X.env)).any (·.1) = false := by rfl) : DE X (.Call (.Name x p) (e :: es) [] pos) ρ d := fun E Z H σ S Q q =>
  we_pe (pe_callB hc hg hm hv pa_wa hn hdb he hpl) (ha E Z H σ S _ fun vs Z1 H1 g1 r1 => hr vs Z1 H1 g1.zh g1.tb r1 Q fun v Z2 H2 g2 r2 => q v Z2 H2 (g1.trans g2) r2)
theorem de_callTy {T : String} {r : List V → Hp → VK → Prop} (hc : CallR X (.type T) r) (hr : RCD X.K r ds d) (hm : X.mg x = none) (ha : DA X (e :: es) ρ ds) (hv : bootBuiltins x = some (.type T) := by decide +kernel) (hg : Gl X x := by rfl) (hn : x ≠ "__name__" := by decide) (hdb : (x == ("__debug__" : Str)) = false := by decide)
    (he : starEach (e :: es) X.env = (false, eval e X.env) :: starEach es X.env := by rfl) (hpl : (backTo pos (starEach es X.env)).any (·.1) = false := by rfl) : DE X (.Call (.Name x p) (e :: es) [] pos) ρ d := fun E Z H σ S Q q =>
  we_pe (pe_callTy hc hg hm hv pa_wa hn hdb he hpl) (ha E Z H σ S _ fun vs Z1 H1 g1 r1 => hr vs Z1 H1 g1.zh g1.tb r1 Q fun v Z2 H2 g2 r2 => q v Z2 H2 (g1.trans g2) r2)
theorem do_callB {id : String} {r : List V → Hp → VK → Prop} {ys : List D} (hc : CallR X (.builtin id) r) (hr : RCO X.K r ds ys) (hm : X.mg x = none) (ha : DA X (e :: es) ρ ds) (hv : bootBuiltins x = some (.builtin id) := by decide +kernel) (hg : Gl X x := by rfl) (hn : x ≠ "__name__" := by decide) (hdb : (x == ("__debug__" : Str)) = false := by decide)
    (he : starEach (e :: es) X.env = (false, eval e X.env) :: starEach es X.env := by rfl) (hpl : (backTo pos (starEach es X.env)).any (·.1) = false := by rfl) : DO X (.Call (.Name x p) (e :: es) [] pos) ρ ys := fun E Z H σ S Q q =>
  we_pe (pe_callB hc hg hm hv pa_wa hn hdb he hpl) (ha E Z H σ S _ fun vs Z1 H1 g1 r1 => hr vs Z1 H1 g1.zh g1.tb r1 Q fun l xs hl r2 => made (E := E) (σ := σ) (ρ := ρ) g1 q hl r2)
theorem do_callTy {T : String} {r : List V → Hp → VK → Prop} {ys : List D} (hc : CallR X (.type T) r) (hr : RCO X.K r ds ys) (hm : X.mg x = none) (ha : DA X (e :: es) ρ ds) (hv : bootBuiltins x = some (.type T) := by decide +kernel) (hg : Gl X x := by rfl) (hn : x ≠ "__name__" := by decide) (hdb : (x == ("__debug__" : Str)) = false := by decide)
    (he : starEach (e :: es) X.env = (false, eval e X.env) :: starEach es X.env := by rfl) (hpl : (backTo pos (starEach es X.env)).any (·.1) = false := by rfl) : DO X (.Call (.Name x p) (e :: es) [] pos) ρ ys := fun E Z H σ S Q q =>
  we_pe (pe_callTy hc hg hm hv pa_wa hn hdb he hpl) (ha E Z H σ S _ fun vs Z1 H1 g1 r1 => hr vs Z1 H1 g1.zh g1.tb r1 Q fun l xs hl r2 => made (E := E) (σ := σ) (ρ := ρ) g1 q hl r2)
section
variable {K : PySem.W.Frag}
theorem rc_one {K : PySem.W.Frag} {Z : Hp} {vs : List V} {d : D} (r : RepL K Z vs [d]) : ∃ v, vs = [v] ∧ Rep K Z v d := by
  cases r with
  | cons h r => cases r; exact ⟨_, rfl, h⟩
theorem rc_two {K : PySem.W.Frag} {Z : Hp} {vs : List V} {d d' : D} (r : RepL K Z vs [d, d']) : ∃ v v', vs = [v, v'] ∧ Rep K Z v d ∧ Rep K Z v' d' := by
  cases r with
  | cons h r => obtain ⟨v, rfl, h'⟩ := rc_one r; exact ⟨_, _, rfl, h, h'⟩
end
theorem de_lenL (ha : DE X e ρ (.lst ds)) (hm : X.mg "len" = none) (hg : Gl X "len" := by rfl) (he : starEach (e :: []) X.env = (false, eval e X.env) :: starEach [] X.env := by rfl) (hpl : (backTo pos (starEach [] X.env)).any (·.1) = false := by rfl) : DE X (.Call (.Name "len" p) [e] [] pos) ρ (.int ds.length) :=
  de_callB call_len_seq (fun vs Z H zh tb r Q q => by
    obtain ⟨v, rfl, r1⟩ := rc_one r
    cases r1 with
    | lst hz rl => exact ⟨_, _, rfl, .inl (SqL.of (zh _ _ hz)), by rw [rl.length]; exact q _ Z H (Gr.refl zh tb) .int⟩) hm (da_cons ha da_nil he) boot_len hg (by decide) (by decide) he hpl
theorem de_lenT (ha : DE X e ρ (.tup ds)) (hm : X.mg "len" = none) (hg : Gl X "len" := by rfl) (he : starEach (e :: []) X.env = (false, eval e X.env) :: starEach [] X.env := by rfl) (hpl : (backTo pos (starEach [] X.env)).any (·.1) = false := by rfl) : DE X (.Call (.Name "len" p) [e] [] pos) ρ (.int ds.length) :=
  de_callB call_len_seq (fun vs Z H zh tb r Q q => by
    obtain ⟨v, rfl, r1⟩ := rc_one r
    cases r1 with
    | tup hz rl => exact ⟨_, _, rfl, .inr (sq_t zh hz), by rw [rl.length]; exact q _ Z H (Gr.refl zh tb) .int⟩) hm (da_cons ha da_nil he) boot_len hg (by decide) (by decide) he hpl
theorem de_lenS {ns : List Int} (ha : DE X e ρ (.scr ns)) (hm : X.mg "len" = none) (hg : Gl X "len" := by rfl) (he : starEach (e :: []) X.env = (false, eval e X.env) :: starEach [] X.env := by rfl) (hpl : (backTo pos (starEach [] X.env)).any (·.1) = false := by rfl) : DE X (.Call (.Name "len" p) [e] [] pos) ρ (.int ns.length) :=
  de_callB call_len_seq (fun vs Z H zh tb r Q q => by
    obtain ⟨v, rfl, r1⟩ := rc_one r
    cases r1 with
    | scr hz => exact ⟨_, _, rfl, .inl (sqL_ex zh hz), by rw [List.length_map]; exact q _ Z H (Gr.refl zh tb) .int⟩) hm (da_cons ha da_nil he) boot_len hg (by decide) (by decide) he hpl
theorem de_abs {i : Int} (ha : DA X (e :: es) ρ [.int i]) (hm : X.mg "abs" = none) (hg : Gl X "abs" := by rfl) (he : starEach (e :: es) X.env = (false, eval e X.env) :: starEach es X.env := by rfl) (hpl : (backTo pos (starEach es X.env)).any (·.1) = false := by rfl) : DE X (.Call (.Name "abs" p) (e :: es) [] pos) ρ (.int (if i < 0 then -i else i)) :=
  de_callB call_abs (fun vs Z H zh tb r Q q => by
    obtain ⟨v, rfl, r1⟩ := rc_one r
    cases r1
    exact ⟨i, rfl, q _ Z H (Gr.refl zh tb) .int⟩) hm ha (by decide +kernel) hg (by decide) (by decide) he hpl
theorem de_intc {i : Int} (ha : DA X (e :: es) ρ [.int i]) (hm : X.mg "int" = none) (hg : Gl X "int" := by rfl) (he : starEach (e :: es) X.env = (false, eval e X.env) :: starEach es X.env := by rfl) (hpl : (backTo pos (starEach es X.env)).any (·.1) = false := by rfl) : DE X (.Call (.Name "int" p) (e :: es) [] pos) ρ (.int i) :=
  de_callTy call_int1 (fun vs Z H zh tb r Q q => by
    obtain ⟨v, rfl, r1⟩ := rc_one r
    cases r1
    exact .inl ⟨i, rfl, q _ Z H (Gr.refl zh tb) .int⟩) hm ha (by decide +kernel) hg (by decide) (by decide) he hpl
theorem de_max2 {i j : Int} (hc : X.calm = true := by rfl) (ha : DA X (e :: es) ρ [.int i, .int j]) (hm : X.mg "max" = none) (hg : Gl X "max" := by rfl) (he : starEach (e :: es) X.env = (false, eval e X.env) :: starEach es X.env := by rfl) (hpl : (backTo pos (starEach es X.env)).any (·.1) = false := by rfl) : DE X (.Call (.Name "max" p) (e :: es) [] pos) ρ (.int (if j > i then j else i)) :=
  de_callB (call_max2 hc) (fun vs Z H zh tb r Q q => by
    obtain ⟨v, v', rfl, r1, r2⟩ := rc_two r
    cases r1; cases r2
    exact ⟨i, j, rfl, q _ Z H (Gr.refl zh tb) .int⟩) hm ha (by decide +kernel) hg (by decide) (by decide) he hpl
theorem de_min2 {i j : Int} (hc : X.calm = true := by rfl) (ha : DA X (e :: es) ρ [.int i, .int j]) (hm : X.mg "min" = none) (hg : Gl X "min" := by rfl) (he : starEach (e :: es) X.env = (false, eval e X.env) :: starEach es X.env := by rfl) (hpl : (backTo pos (starEach es X.env)).any (·.1) = false := by rfl) : DE X (.Call (.Name "min" p) (e :: es) [] pos) ρ (.int (if j < i then j else i)) :=
  de_callB (call_min2 hc) (fun vs Z H zh tb r Q q => by
    obtain ⟨v, v', rfl, r1, r2⟩ := rc_two r
    cases r1; cases r2
    exact ⟨i, j, rfl, q _ Z H (Gr.refl zh tb) .int⟩) hm ha (by decide +kernel) hg (by decide) (by decide) he hpl
theorem do_listL (ha : DA X (e :: es) ρ [.lst ds]) (hm : X.mg "list" = none) (hg : Gl X "list" := by rfl) (he : starEach (e :: es) X.env = (false, eval e X.env) :: starEach es X.env := by rfl) (hpl : (backTo pos (starEach es X.env)).any (·.1) = false := by rfl) : DO X (.Call (.Name "list" p) (e :: es) [] pos) ρ ds :=
  do_callTy call_list_of (fun vs Z H zh tb r Q q => by
    obtain ⟨v, rfl, r1⟩ := rc_one r
    cases r1 with
    | lst hz rl => exact ⟨_, _, rfl, .inl (SqL.of (zh _ _ hz)), fun l hl => q l _ hl rl⟩) hm ha (by decide +kernel) hg (by decide) (by decide) he hpl
theorem do_listT (ha : DA X (e :: es) ρ [.tup ds]) (hm : X.mg "list" = none) (hg : Gl X "list" := by rfl) (he : starEach (e :: es) X.env = (false, eval e X.env) :: starEach es X.env := by rfl) (hpl : (backTo pos (starEach es X.env)).any (·.1) = false := by rfl) : DO X (.Call (.Name "list" p) (e :: es) [] pos) ρ ds :=
  do_callTy call_list_of (fun vs Z H zh tb r Q q => by
    obtain ⟨v, rfl, r1⟩ := rc_one r
    cases r1 with
    | tup hz rl => exact ⟨_, _, rfl, .inr (sq_t zh hz), fun l hl => q l _ hl rl⟩) hm ha (by decide +kernel) hg (by decide) (by decide) he hpl
theorem de_tupL (ha : DA X (e :: es) ρ [.lst ds]) (hm : X.mg "tuple" = none) (hg : Gl X "tuple" := by rfl) (he : starEach (e :: es) X.env = (false, eval e X.env) :: starEach es X.env := by rfl) (hpl : (backTo pos (starEach es X.env)).any (·.1) = false := by rfl) : DE X (.Call (.Name "tuple" p) (e :: es) [] pos) ρ (.tup ds) :=
  de_callTy call_tuple_of (fun vs Z H zh tb r Q q => by
    obtain ⟨v, rfl, r1⟩ := rc_one r
    cases r1 with
    | lst hz rl => exact ⟨_, _, rfl, .inl ⟨SqL.of (zh _ _ hz), fun l hl => q _ _ _ ((Gr.refl zh tb).new hl) (.tup (.inl upd_same) (rl.mono (Ex.new (zh.free hl))))⟩⟩) hm ha (by decide +kernel) hg (by decide) (by decide) he hpl
theorem de_tupT (ha : DA X (e :: es) ρ [.tup ds]) (hm : X.mg "tuple" = none) (hg : Gl X "tuple" := by rfl) (he : starEach (e :: es) X.env = (false, eval e X.env) :: starEach es X.env := by rfl) (hpl : (backTo pos (starEach es X.env)).any (·.1) = false := by rfl) : DE X (.Call (.Name "tuple" p) (e :: es) [] pos) ρ (.tup ds) :=
  de_callTy call_tuple_of (fun vs Z H zh tb r Q q => by
    obtain ⟨v, rfl, r1⟩ := rc_one r
    cases r1 with
    | tup hz rl => exact ⟨_, _, rfl, .inr ⟨sq_t zh hz, q _ Z H (Gr.refl zh tb) (.tup hz rl)⟩⟩) hm ha (by decide +kernel) hg (by decide) (by decide) he hpl
/-- all(..) of a list of bools -/
theorem de_all {bs : List Bool} (hc : X.calm = true := by rfl) (ha : DA X (e :: es) ρ [.lst (bs.map .bl)]) (hm : X.mg "all" = none) (hg : Gl X "all" := by rfl) (he : starEach (e :: es) X.env = (false, eval e X.env) :: starEach es X.env := by rfl) (hpl : (backTo pos (starEach es X.env)).any (·.1) = false := by rfl) : DE X (.Call (.Name "all" p) (e :: es) [] pos) ρ (.bl (bs.all id)) :=
  de_callB (cr_all hc) (fun vs Z H zh tb r Q q => by
    obtain ⟨v, rfl, r1⟩ := rc_one r
    cases r1 with
    | lst hz rl => rw [rl.bls] at hz; exact ⟨_, bs, rfl, SqL.of (zh _ _ hz), q _ Z H (Gr.refl zh tb) .bl⟩) hm ha (by decide +kernel) hg (by decide) (by decide) he hpl
/-- sorted(..) of ints -/
theorem perm_sorted_eq {ns ms : List Int} (p : ns.Perm ms) (h1 : ns.Pairwise (· ≤ ·)) (h2 : ms.Pairwise (· ≤ ·)) : ns = ms := List.Perm.eq_of_pairwise (fun a b _ _ h h' => Int.le_antisymm h h') h1 h2 p
theorem do_sortI {ns ms : List Int} (hp : ms.Perm ns) (hs : ms.Pairwise (· ≤ ·)) (ha : DA X (e :: es) ρ [lI ns]) (hm : X.mg "sorted" = none) (hg : Gl X "sorted" := by rfl) (he : starEach (e :: es) X.env = (false, eval e X.env) :: starEach es X.env := by rfl) (hpl : (backTo pos (starEach es X.env)).any (·.1) = false := by rfl) : DO X (.Call (.Name "sorted" p) (e :: es) [] pos) ρ (ms.map .int) :=
  do_callB cr_sortedI (fun vs Z H zh tb r Q q => by
    obtain ⟨v, rfl, r1⟩ := rc_one r
    cases r1 with
    | lst hz rl =>
      rw [rl.ints] at hz
      refine ⟨_, ns, rfl, SqL.of (zh _ _ hz), fun ns' l hp' hs' hl => ?_⟩
      rw [perm_sorted_eq (hp'.trans hp.symm) hs' hs]
      exact q l _ hl (RepL.ofInts ms)) hm ha (by decide +kernel) hg (by decide) (by decide) he hpl
end
end DL
set_option maxHeartbeats 4000000
namespace DL
open PySem PySem.Spec PyProof.Rows L2

section
variable {X : Cx} {e a b c o : Expr} {es : List Expr} {ρ : List Sl} {d da db dc : D} {ds : List D} {pos p apos : Pos} {x m : Str}
/-! ### methods, makes, a lent list -/
theorem de_meth {k : Nat} {C : Addr} {fs : List (Str × D)} {R : List D → Res → Prop} {pl : Sem Bool} (F : MethOk X.prog X.w X.K X.mg X.base C m k R) (cl : Cls X.K C) (hr : Room k X.A) (ho : DE X o ρ (.obj C fs)) (hn : fs.lookup m = none) (ha : DA X (e :: es) ρ ds) (hR : R (.obj C fs :: ds) (.ok d))
    (hst : starEach (e :: es) X.env = (false, eval e X.env) :: starEach es X.env := by rfl) (hpl : (backTo pos (starEach es X.env)).any (·.1) = false := by rfl)
    (ht : eval (.Call (.Attribute o m apos) (e :: es) [] pos) X.env = (do
      let ov ← eval o X.env
      standAt apos.atName
      let (f, first) ← holding [ov] (getMethod ov m pl)
      callWith pos f first (backTo pos (starEach (e :: es) X.env)) (backToKw pos (keywordEach [] X.env))) := by rfl) : DE X (.Call (.Attribute o m apos) (e :: es) [] pos) ρ d := fun E Z H σ S Q q => by
  obtain ⟨f, fd, ps, F, hm, hb⟩ := F
  refine we_pe (pe_meth pe_we cl hm F hr hb .nil passL pa_wa hst hpl ht) (ho E Z H σ S _ fun v Z1 H1 g1 r1 => ?_)
  cases r1 with
  | obj hz rf =>
    rename_i a dx vs
    refine ⟨a, dx, vs, rfl, g1.zh _ _ hz, repF_none rf hn, ha E Z1 H1 σ (S.grow g1) _ fun us Z2 H2 g2 r2 => ?_⟩
    show spR X.K R (.ref a :: (us ++ [])) H2 Q E0
    rw [List.append_nil]
    refine ⟨Z2, .obj C fs :: ds, .ok d, hR, g2.zh, (g1.trans g2).nz S.s.nz, g2.tb, .cons (Rep.mono g2.z (.obj hz rf)) r2, fun d' e' v Z3 H3 g3 r3 => ?_, fun C z => nomatch z⟩
    cases e'
    exact q v Z3 H3 ((g1.trans g2).trans g3) r3
theorem de_make {k : Nat} {C : Addr} {fs : List (Str × D)} {R : List D → List (Str × D) → Prop} (F : MakeOk X.prog X.w X.K X.mg X.base x C k R) (hr : Room (k + 1) X.A) (ha : DA X (e :: es) ρ ds) (hR : R ds fs) (hg : Gl X x := by rfl) (hdb : (x == ("__debug__" : Str)) = false := by decide)
    (he : starEach (e :: es) X.env = (false, eval e X.env) :: starEach es X.env := by rfl) (hpl : (backTo pos (starEach es X.env)).any (·.1) = false := by rfl) : DE X (.Call (.Name x p) (e :: es) [] pos) ρ (.obj C fs) := fun E Z H σ S Q q => by
  obtain ⟨f, fd, ps, F, hm, hM, hb⟩ := F
  refine we_pe (pe_make hM F hr hg hm hb .nil passL pa_wa hdb he hpl) (ha E Z H σ S _ fun vs Z1 H1 g1 r1 a dx na nd ne => ?_)
  show spI X.K C R (.ref a :: (vs ++ [])) _ _ E0
  rw [List.append_nil]
  have h1 : Ex H1 (upd H1 dx (.own a)) := Ex.new nd
  have na1 : (upd H1 dx (.own a)) a = none := by rw [upd_ne (Ne.symm ne)]; exact na
  have h2 : Ex H1 (upd (upd H1 dx (.own a)) a (.ins C dx [])) := h1.trans (Ex.new na1)
  refine ⟨Z1, ds, fs, a, dx, vs, rfl, hR, g1.zh.trans h2, g1.nz S.s.nz, g1.tb.ext h2, r1, upd_same, g1.zh.free na, fun Z' H' vf z1 nt1 x1 zh1 tb1 fr1 nz hx rf => ⟨rfl, ?_⟩⟩
  refine q (.ref a) (upd Z' a (.ins C dx vf)) H' (g1.trans ⟨z1.trans (Ex.new nz), fun b o hb hn => ?_, fun b o hb => ?_, tb1, fun b hb => ?_, fun _ => nt1.upd fun _ z => nomatch z⟩) (.obj upd_same (rf.mono (Ex.new nz)))
  · exact x1 b o (ne_of_none hb na) (h2 b o hb) hn
  · by_cases hba : b = a
    · subst hba; rw [upd_same] at hb; cases hb; exact hx
    · rw [upd_ne hba] at hb; exact zh1 b o hb
  · by_cases hba : b = a
    · subst hba; exact .inr (Frsh.none na)
    · rw [upd_ne hba] at hb
      rcases fr1 b hb with w | w
      · exact .inl w
      · exact .inr fun o ho => w o (h2 b o ho)
/-- data without addresses -/
def D.flat : D → Bool
  | .non => true
  | .bl _ => true
  | .int _ => true
  | .str _ => true
  | _ => false
theorem Rep.flat {K : PySem.W.Frag} {Z Z' : Hp} {v : V} (r : Rep K Z v d) (h : d.flat = true) : Rep K Z' v d := by
  cases r with
  | non => exact .non
  | bl => exact .bl
  | int => exact .int
  | str => exact .str
  | _ => cases h
/-- the slot's list, as if nobody would change it any more -/
theorem St1.freeze {K : PySem.W.Frag} {E : Cfg} {Z H : Hp} {σ : L2.St} (S : St1 K E Z H σ ρ) {i : Nat} {l : Addr} {xs : List V} (h : ρ[i]? = some (.own ds)) (hs : σ[i]? = some (some (.ref l))) (hl : H l = some (.lst xs)) : St1 K E (upd Z l (.lst xs)) H σ (ρ.set i (.val (.lst ds))) := by
  obtain ⟨l', xs', e1, h1, zl, f1, f2, r⟩ := S.s.lookO h
  rw [hs] at e1; cases e1
  rw [hl] at h1; cases h1
  have ez : Ex Z (upd Z l (.lst xs)) := Ex.new zl
  have hi : i < ρ.length := (List.getElem?_eq_some_iff.mp h).1
  have key : ∀ (j : Nat) (ds' : List D), (ρ.set i (.val (.lst ds)))[j]? = some (.own ds') → j ≠ i ∧ ρ[j]? = some (.own ds') := fun j ds' q => by
    by_cases hj : i = j
    · subst hj; rw [List.getElem?_set_self hi] at q; cases q
    · rw [List.getElem?_set_ne hj] at q; exact ⟨Ne.symm hj, q⟩
  refine ⟨⟨fun a o e => ?_, S.s.bh, S.s.b0, S.s.tb, fun a e => ?_, S.s.z0.trans ez, S.s.nz.upd (fun _ z => nomatch z), by simpa using S.s.len, fun j s q => ?_, fun j k ds' es' l' hjk q1 q2 q3 => ?_⟩, S.t⟩
  · by_cases hb : a = l
    · subst hb; rw [upd_same] at e; cases e; exact hl
    · rw [upd_ne hb] at e; exact S.s.zh a o e
  · by_cases hb : a = l
    · subst hb; exact .inr f2
    · rw [upd_ne hb] at e; exact S.s.fr a e
  · by_cases hj : i = j
    · subst hj
      rw [List.getElem?_set_self hi] at q; cases q
      exact ⟨_, hs, .lst upd_same (r.mono ez)⟩
    · rw [List.getElem?_set_ne hj] at q
      have w := S.s.at_ j s q
      cases s with
      | no => trivial
      | val d => obtain ⟨v, e, rv⟩ := w; exact ⟨v, e, rv.mono ez⟩
      | raw v => exact w
      | own es' =>
        obtain ⟨l2, xs2, c1, c2, c3, c4, c5, c6⟩ := w
        refine ⟨l2, xs2, c1, c2, ?_, c4, c5, c6.mono ez⟩
        have ne : l2 ≠ l := fun z => by
          subst z
          exact S.s.ap i j ds es' l2 hj h q hs c1
        rw [upd_ne ne]; exact c3
  · obtain ⟨_, w1⟩ := key j _ q1
    obtain ⟨_, w2⟩ := key k _ q2
    exact S.s.ap j k ds' es' l' hjk w1 w2 q3
theorem de_lend (i : Nat) (hf : d.flat = true) (h : DE X e (ρ.set i (.val (.lst ds))) d) (hi : ρ[i]? = some (.own ds) := by rfl) : DE X e ρ d := fun E Z H σ S Q q => by
  obtain ⟨l, xs, e1, h1, zl, f1, f2, r⟩ := S.s.lookO hi
  refine h E _ H σ (S.freeze hi e1 h1) Q fun v Z' H' g rv => q v Z H' ⟨Ex.refl _, g.h, (Ex.new zl).trans (g.z.trans g.zh), g.tb, fun a w => .inl w, id⟩ (rv.flat hf)
theorem dt_lend {k : Bool} (i : Nat) (h : DT X e (ρ.set i (.val (.lst ds))) k) (hi : ρ[i]? = some (.own ds) := by rfl) : DT X e ρ k := fun E Z H σ S Q q => by
  obtain ⟨l, xs, e1, h1, zl, f1, f2, r⟩ := S.s.lookO hi
  refine h E _ H σ (S.freeze hi e1 h1) Q fun Z' H' g => q Z H' ⟨Ex.refl _, g.h, (Ex.new zl).trans (g.z.trans g.zh), g.tb, fun a w => .inl w, id⟩

/-! ### targets -/
def WG (X : Cx) (tg : Expr) : TG := fun v σ H Q => ∀ pins s u, Inv X pins σ H s → RelV v u → wpAny (model X.prog X.w) X.A (assign tg X.env u) (fun _ s' => ∃ σ' H', Inv X pins σ' H' s' ∧ Q σ' H') X.xe s
theorem pg_wg {tg : Expr} : PG X tg (WG X tg) := ⟨fun pins s σ H v u Q I r h => h pins s u I r⟩
theorem wg_pg {tg : Expr} {g : TG} (h : PG X tg g) {v : V} {σ : L2.St} {H : Hp} {Q : L2.St → Hp → Prop} (q : g v σ H Q) : WG X tg v σ H Q := fun pins s u I r => h.run pins s σ H v u Q I r q
def setS : L2.St → List Nat → List V → L2.St
  | σ, j :: js, v :: vs => setS (σ.set j (some v)) js vs
  | σ, _, _ => σ
def setD : List Sl → List Nat → List D → List Sl
  | ρ, j :: js, d :: ds => setD (ρ.set j (.val d)) js ds
  | ρ, _, _ => ρ
theorem St1.put {K : PySem.W.Frag} {E : Cfg} {Z H : Hp} {σ : L2.St} (S : St1 K E Z H σ ρ) (i : Nat) {v : V} (r : Rep K Z v d) : St1 K E Z H (σ.set i (some v)) (ρ.set i (.val d)) := ⟨S.s.put i r, S.t⟩
theorem St1.puts {K : PySem.W.Frag} {E : Cfg} {Z H : Hp} : ∀ {js : List Nat} {vs : List V} {ds : List D} {σ : L2.St} {ρ : List Sl}, St1 K E Z H σ ρ → RepL K Z vs ds → St1 K E Z H (setS σ js vs) (setD ρ js ds)
  | [], _, _, _, _, S, _ => by unfold setS setD; exact S
  | j :: js, [], ds, _, _, S, r => by cases r; exact S
  | j :: js, v :: vs, ds, _, _, S, r => by
    cases r with
    | cons h r => exact St1.puts (js := js) (S.put j h) r
/-- the target takes d apart into ds, stored at js -/
def DG (X : Cx) (tg : Expr) (js : List Nat) (d : D) (ds : List D) : Prop := ∀ Z H σ v, Ex Z H → Rep X.K Z v d → ∀ Q : L2.St → Hp → Prop, (∀ vs, RepL X.K Z vs ds → Q (setS σ js vs) H) → WG X tg v σ H Q
theorem dg_name (i : Nat) (hN : X.N.Nodup) (hi : X.N[i]? = some x := by rfl) (hx : Loc X.env.scope x := by first | exact .inl rfl | exact .inr rfl) (hf : X.fn x = true ∨ X.env.scope.names.lookup x = some .local := by first | exact .inl rfl | exact .inr rfl) : DG X (.Name x pos) [i] d [d] := fun Z H σ v zh r Q q =>
  wg_pg (pg_name hN hi hx hf) (q [v] (.cons r .nil))
theorem dg_two (i j : Nat) {y : Str} {d1 d2 : D} {p1 p2 : Pos} {k : Nat} (hc : X.calm = true := by rfl) (hN : X.N.Nodup) (hi : X.N[i]? = some x := by rfl) (hj : X.N[j]? = some y := by rfl) (hx : Loc X.env.scope x := by first | exact .inl rfl | exact .inr rfl) (hy : Loc X.env.scope y := by first | exact .inl rfl | exact .inr rfl)
    (hf : X.fn x = true ∨ X.env.scope.names.lookup x = some .local := by first | exact .inl rfl | exact .inr rfl) (hf2 : X.fn y = true ∨ X.env.scope.names.lookup y = some .local := by first | exact .inl rfl | exact .inr rfl)
    (hs : (assignEach [.Name x p1, .Name y p2] X.env).map (·.2) = assign (.Name x p1) X.env :: (assignEach [.Name y p2] X.env).map (·.2) := by rfl) (hs2 : (assignEach [.Name y p2] X.env).map (·.2) = assign (.Name y p2) X.env :: (assignEach [] X.env).map (·.2) := by rfl)
    (hn : (assignEach [.Name x p1, .Name y p2] X.env).length = 2 := by rfl) (hst : (assignEach [.Name x p1, .Name y p2] X.env).findIdx? (·.1) = none := by rfl) : DG X (.Tuple [.Name x p1, .Name y p2] k pos) [i, j] (.tup [d1, d2]) [d1, d2] := fun Z H σ v zh r Q q => by
  cases r with
  | tup hz r =>
    cases r with
    | cons r1 r =>
      cases r with
      | cons r2 r =>
        cases r
        exact wg_pg (pg_tup hc (pgs_cons (pg_name hN hi hx hf) (pgs_cons (pg_name hN hj hy hf2) pgs_nil hs2) hs) hn hst) ⟨_, _, rfl, sq_t zh hz, rfl, _, _, rfl, _, _, rfl, rfl, q [_, _] (.cons r1 (.cons r2 .nil))⟩
theorem dg_three (i j l : Nat) {y z : Str} {d1 d2 d3 : D} {p1 p2 p3 : Pos} {k : Nat} (hc : X.calm = true := by rfl) (hN : X.N.Nodup) (hi : X.N[i]? = some x := by rfl) (hj : X.N[j]? = some y := by rfl) (hl : X.N[l]? = some z := by rfl) (hx : Loc X.env.scope x := by first | exact .inl rfl | exact .inr rfl) (hy : Loc X.env.scope y := by first | exact .inl rfl | exact .inr rfl) (hz : Loc X.env.scope z := by first | exact .inl rfl | exact .inr rfl)
    (hf : X.fn x = true ∨ X.env.scope.names.lookup x = some .local := by first | exact .inl rfl | exact .inr rfl) (hf2 : X.fn y = true ∨ X.env.scope.names.lookup y = some .local := by first | exact .inl rfl | exact .inr rfl) (hf3 : X.fn z = true ∨ X.env.scope.names.lookup z = some .local := by first | exact .inl rfl | exact .inr rfl)
    (hs : (assignEach [.Name x p1, .Name y p2, .Name z p3] X.env).map (·.2) = assign (.Name x p1) X.env :: (assignEach [.Name y p2, .Name z p3] X.env).map (·.2) := by rfl) (hs2 : (assignEach [.Name y p2, .Name z p3] X.env).map (·.2) = assign (.Name y p2) X.env :: (assignEach [.Name z p3] X.env).map (·.2) := by rfl) (hs3 : (assignEach [.Name z p3] X.env).map (·.2) = assign (.Name z p3) X.env :: (assignEach [] X.env).map (·.2) := by rfl)
    (hn : (assignEach [.Name x p1, .Name y p2, .Name z p3] X.env).length = 3 := by rfl) (hst : (assignEach [.Name x p1, .Name y p2, .Name z p3] X.env).findIdx? (·.1) = none := by rfl) : DG X (.Tuple [.Name x p1, .Name y p2, .Name z p3] k pos) [i, j, l] (.tup [d1, d2, d3]) [d1, d2, d3] := fun Z H σ v zh r Q q => by
  cases r with
  | tup hz' r =>
    cases r with
    | cons r1 r =>
      cases r with
      | cons r2 r =>
        cases r with
        | cons r3 r =>
          cases r
          exact wg_pg (pg_tup hc (pgs_cons (pg_name hN hi hx hf) (pgs_cons (pg_name hN hj hy hf2) (pgs_cons (pg_name hN hl hz hf3) pgs_nil hs3) hs2) hs) hn hst) ⟨_, _, rfl, sq_t zh hz', rfl, _, _, rfl, _, _, rfl, _, _, rfl, rfl, q [_, _, _] (.cons r1 (.cons r2 (.cons r3 .nil)))⟩

/-! ### what is walked -/
def WI (X : Cx) (tg iter : Expr) : TI := fun σ H R => ∀ pins s, Inv X pins σ H s → wpAny (model X.prog X.w) X.A (eval iter X.env) (fun v s1 => wpAny (model X.prog X.w) X.A (pyIter v) (PIE X pins σ tg R) X.xe s1) X.xe s
theorem pi_wi {tg iter : Expr} : PI X tg iter (WI X tg iter) := ⟨fun pins s _ _ _ I h => h pins s I⟩
theorem wi_pi {tg iter : Expr} {wi : TI} (h : PI X tg iter wi) {σ : L2.St} {H : Hp} {R : It → Hp → Prop} (q : wi σ H R) : WI X tg iter σ H R := fun pins s I => h.run pins s σ H R I q
/-- a walk by data: while Gd holds it goes n turns; the i-th gives items[i] -/
structure DW (K : PySem.W.Frag) (J : It) (Z : Hp) (items : List D) (Gd : Hp → Prop) (Y : Nat → Hp → V → Hp → Prop) : Prop where
  w : Walk J items.length Gd Y
  g : ∀ Z' H, Ex Z Z' → Ex Z' H → Gd H
  y : ∀ i d H x H' Z', items[i]? = some d → Ex Z Z' → Ex Z' H → LamX.Tabs (tabs K) H → Y i H x H' → ∃ Z2, G K Z' H Z2 H' ∧ Rep K Z2 x d
def DI (X : Cx) (tg iter : Expr) (ρ : List Sl) (items : List D) : Prop := ∀ E Z H σ, St1 X.K E Z H σ ρ → ∀ R : It → Hp → Prop, (∀ J Gd Y Z' H', G X.K Z H Z' H' → DW X.K J Z' items Gd Y → R J H') → WI X tg iter σ H R
theorem DI.is {tg iter : Expr} {items items' : List D} (h : DI X tg iter ρ items) (k : items = items') : DI X tg iter ρ items' := k ▸ h
theorem di_list {tg l : Expr} (h : DE X l ρ (.lst ds)) : DI X tg l ρ ds := fun E Z H σ S R q =>
  wi_pi (pi_list pe_we) (h E Z H σ S _ fun v Z1 H1 g1 r1 => by
    cases r1 with
    | lst hz rl =>
      rename_i a xs
      refine ⟨a, rfl, ⟨xs, SqL.of (g1.zh _ _ hz)⟩, q _ _ _ Z1 H1 g1 ⟨by rw [← rl.length]; exact walk_list, fun Z' H' z zh => SqL.of (zh _ _ (z _ _ hz)), fun i d H x H' Z' hd z zh tb y => ?_⟩⟩
      obtain ⟨v, hv, rv⟩ := rl.get hd
      rw [y.1]
      have e : x = v := Option.some.inj (y.2.symm.trans hv)
      rw [e]
      exact ⟨Z', Gr.refl zh tb, rv.mono z⟩)
theorem di_tup {tg l : Expr} (h : DE X l ρ (.tup ds)) : DI X tg l ρ ds := fun E Z H σ S R q =>
  wi_pi (pi_tup pe_we) (h E Z H σ S _ fun v Z1 H1 g1 r1 => by
    cases r1 with
    | tup hz rl =>
      rename_i a xs
      refine ⟨a, rfl, ⟨xs, sq_t g1.zh hz⟩, q _ _ _ Z1 H1 g1 ⟨by rw [← rl.length]; exact walk_tup, fun Z' H' z zh => sq_t zh (rd_ex z hz), fun i d H x H' Z' hd z zh tb y => ?_⟩⟩
      obtain ⟨v, hv, rv⟩ := rl.get hd
      rw [y.1]
      have e : x = v := Option.some.inj (y.2.symm.trans hv)
      rw [e]
      exact ⟨Z', Gr.refl zh tb, rv.mono z⟩)
theorem dw_range {K : PySem.W.Frag} {Z : Hp} {lo : Int} {n : Nat} : DW K (Itr lo n) Z ((List.range n).map fun i => .int (lo + (i : Nat))) (fun _ => True) (YFn fun i => .int (lo + i)) where
  w := by rw [List.length_map, List.length_range]; exact walk_range
  g := fun _ _ _ _ => trivial
  y := fun i d H x H' Z' hd z zh tb y => by
    obtain ⟨e1, e2⟩ := y
    subst e1 e2
    rw [List.getElem?_map] at hd
    obtain ⟨k, hk, e⟩ := Option.map_eq_some_iff.mp hd
    have : k = i := by
      have := (List.getElem?_eq_some_iff.mp hk).2
      simpa using this.symm
    subst this
    subst e
    exact ⟨Z', Gr.refl zh tb, .int⟩
theorem di_range1 {tg : Expr} {j : Int} (ha : DE X a ρ (.int j)) (hm : X.mg "range" = none) (hb : -(2 ^ 62) ≤ j ∧ j < 2 ^ 62) (hg : Gl X "range" := by rfl) (hs : starEach [a] X.env = [(false, eval a X.env)] := by rfl) :
    DI X tg (.Call (.Name "range" p) [a] [] pos) ρ ((List.range j.toNat).map fun i => .int ((0 : Int) + (i : Nat))) := fun E Z H σ S R q =>
  wi_pi (pi_range1 hg hm (pa_cons pe_we pa_nil hs) hs) (ha E Z H σ S _ fun v Z1 H1 g1 r1 => by
    cases r1
    exact ⟨j, rfl, hb.1, hb.2, q _ _ _ Z1 H1 g1 dw_range⟩)
theorem di_range2 {tg : Expr} {i j : Int} (ha : DE X a ρ (.int i)) (hb : DE X b ρ (.int j)) (hm : X.mg "range" = none) (h : -(2 ^ 62) ≤ i ∧ i < 2 ^ 62 ∧ -(2 ^ 62) ≤ j ∧ j < 2 ^ 62) (hg : Gl X "range" := by rfl)
    (hs : starEach [a, b] X.env = [(false, eval a X.env), (false, eval b X.env)] := by rfl) (hs2 : starEach [b] X.env = [(false, eval b X.env)] := by rfl) :
    DI X tg (.Call (.Name "range" p) [a, b] [] pos) ρ ((List.range (j - i).toNat).map fun k => .int (i + (k : Nat))) := fun E Z H σ S R q =>
  wi_pi (pi_range2 hg hm (pa_cons pe_we (pa_cons pe_we pa_nil hs2) (hs.trans (by rw [hs2]))) hs hs2) (ha E Z H σ S _ fun v Z1 H1 g1 r1 => hb E Z1 H1 σ (S.grow g1) _ fun u Z2 H2 g2 r2 => by
    cases r1; cases r2
    exact ⟨i, j, rfl, h, q _ _ _ Z2 H2 (g1.trans g2) dw_range⟩)
/-- new pairs -/
theorem dw_pairs {K : PySem.W.Frag} {Z : Hp} {J : It} {Gd : Hp → Prop} {f g : Nat → Option V} {ds es : List D} (w : Walk J (ds.zip es).length Gd (YPair f g)) (hG : ∀ Z' H, Ex Z Z' → Ex Z' H → Gd H)
    (hf : ∀ i v, f i = some v → ∃ d, ds[i]? = some d ∧ Rep K Z v d) (hg : ∀ i v, g i = some v → ∃ d, es[i]? = some d ∧ Rep K Z v d) : DW K J Z ((ds.zip es).map fun q => .tup [q.1, q.2]) Gd (YPair f g) where
  w := by rw [List.length_map]; exact w
  g := hG
  y := fun i d H x H' Z' hd z zh tb y => by
    obtain ⟨T, u, v, rfl, hT, rfl, h1, h2⟩ := y
    obtain ⟨d1, e1, r1⟩ := hf i u h1
    obtain ⟨d2, e2, r2⟩ := hg i v h2
    rw [List.getElem?_map, (List.getElem?_zip_eq_some (z := (d1, d2))).mpr ⟨e1, e2⟩] at hd
    cases hd
    have zT : Z' T = none := zh.free hT
    exact ⟨upd Z' T (.tup [u, v]), (Gr.refl zh tb).new hT, .tup (.inl upd_same) (.cons (r1.mono (z.trans (Ex.new zT))) (.cons (r2.mono (z.trans (Ex.new zT))) .nil))⟩
theorem di_enumL {elts : List Expr} {kk : Nat} {tpos : Pos} (ha : DE X e ρ (.lst ds)) (hm : X.mg "enumerate" = none) (hg : Gl X "enumerate" := by rfl) (hs : starEach [e] X.env = [(false, eval e X.env)] := by rfl) :
    DI X (.Tuple elts kk tpos) (.Call (.Name "enumerate" p) [e] [] pos) ρ ((((List.range ds.length).map fun i => D.int (i : Nat)).zip ds).map fun q => .tup [q.1, q.2]) := fun E Z H σ S R q =>
  wi_pi (pi_enum hg hm (pa_cons pe_we pa_nil hs) hs) (ha E Z H σ S _ fun v Z1 H1 g1 r1 => by
    cases r1 with
    | lst hz rl =>
      rename_i a xs
      refine ⟨a, xs, rfl, SqL.of (g1.zh _ _ hz), q _ _ _ Z1 H1 g1 (dw_pairs (Gd := fun H => SqL X.K H a xs) (f := fun i => if i < ds.length then some (.int (i : Nat)) else none) (g := fun i => xs[i]?) ?_ (fun Z' H' z zh => SqL.of (zh _ _ (z _ _ hz))) (fun i v hv => ?_) (fun i v hv => rl.get' hv))⟩
      · have hn : ((((List.range ds.length).map fun i => D.int (i : Nat))).zip ds).length = xs.length := by rw [List.length_zip, List.length_map, List.length_range, rl.length]; omega
        rw [hn]
        refine walk_enum.mono (fun _ h => h) fun i H x H' hi _ y => ?_
        obtain ⟨T, u, v, h1, h2, h3, h4, h5⟩ := y
        refine ⟨T, u, v, h1, h2, h3, ?_, h5⟩
        show (if i < ds.length then some (V.int (i : Nat)) else none) = some u
        rw [if_pos (by rw [← rl.length]; exact hi)]; exact h4
      · split at hv
        · rename_i hi
          cases hv
          exact ⟨.int i, by simp [hi], .int⟩
        · cases hv)
theorem di_zipL {elts : List Expr} {kk : Nat} {tpos : Pos} {es : List D} (ha : DE X a ρ (.lst ds)) (hb : DE X b ρ (.lst es)) (hm : X.mg "zip" = none) (hg : Gl X "zip" := by rfl)
    (hs : starEach [a, b] X.env = (false, eval a X.env) :: starEach [b] X.env := by rfl) (hs2 : starEach [b] X.env = (false, eval b X.env) :: starEach [] X.env := by rfl) (hpl : (backTo pos (starEach [b] X.env)).any (·.1) = false := by rfl) :
    DI X (.Tuple elts kk tpos) (.Call (.Name "zip" p) [a, b] [] pos) ρ ((ds.zip es).map fun q => .tup [q.1, q.2]) := fun E Z H σ S R q =>
  wi_pi (RZ.pi_zipA hg hm (pa_cons pe_we (pa_cons pe_we pa_nil hs2) hs) hs hpl) (ha E Z H σ S _ fun v Z1 H1 g1 r1 => hb E Z1 H1 σ (S.grow g1) _ fun u Z2 H2 g2 r2 => by
    cases r1 with
    | lst hz rl =>
      cases r2 with
      | lst hz2 rl2 =>
        rename_i a1 xs b1 ys
        refine ⟨a1, b1, xs, ys, rfl, .inl ⟨SqL.of (g2.zh _ _ (g2.z _ _ hz)), SqL.of (g2.zh _ _ hz2), q _ _ _ Z2 H2 (g1.trans g2) (dw_pairs (walk_zip (by rw [List.length_zip, rl.length, rl2.length])) (fun Z' H' z zh => ⟨SqL.of (zh _ _ (z _ _ (g2.z _ _ hz))), SqL.of (zh _ _ (z _ _ hz2))⟩) (fun i v hv => (rl.mono g2.z).get' hv) (fun i v hv => rl2.get' hv))⟩⟩)
theorem walk_zipT {K : PySem.W.Frag} {a b : Addr} {xs ys : List V} {n : Nat} (hn : n = min xs.length ys.length) : Walk (RZ.ItzT K a b) n (fun H => SqT K H a xs ∧ SqT K H b ys) (YPair (fun i => xs[i]?) (fun i => ys[i]?)) := by
  subst hn
  refine ⟨fun i _ hi q => ?_, fun _ q => ⟨xs, ys, q.1, q.2, by omega⟩, fun i H v H' _ q y => ?_⟩
  · have h1 : i < xs.length := by omega
    have h2 : i < ys.length := by omega
    exact ⟨xs, ys, xs[i], ys[i], q.1, q.2, by simp [h1], by simp [h2]⟩
  · obtain ⟨T, x, z, h1, h2, h3, h4, h5⟩ := y
    exact ⟨T, x, z, h1, h2, h3, h4 xs q.1, h5 ys q.2⟩
theorem di_zipT {elts : List Expr} {kk : Nat} {tpos : Pos} {es : List D} (ha : DE X a ρ (.tup ds)) (hb : DE X b ρ (.tup es)) (hm : X.mg "zip" = none) (hg : Gl X "zip" := by rfl)
    (hs : starEach [a, b] X.env = (false, eval a X.env) :: starEach [b] X.env := by rfl) (hs2 : starEach [b] X.env = (false, eval b X.env) :: starEach [] X.env := by rfl) (hpl : (backTo pos (starEach [b] X.env)).any (·.1) = false := by rfl) :
    DI X (.Tuple elts kk tpos) (.Call (.Name "zip" p) [a, b] [] pos) ρ ((ds.zip es).map fun q => .tup [q.1, q.2]) := fun E Z H σ S R q =>
  wi_pi (RZ.pi_zipA hg hm (pa_cons pe_we (pa_cons pe_we pa_nil hs2) hs) hs hpl) (ha E Z H σ S _ fun v Z1 H1 g1 r1 => hb E Z1 H1 σ (S.grow g1) _ fun u Z2 H2 g2 r2 => by
    cases r1 with
    | tup hz rl =>
      cases r2 with
      | tup hz2 rl2 =>
        rename_i a1 xs b1 ys
        refine ⟨a1, b1, xs, ys, rfl, .inr ⟨sq_t g2.zh (rd_ex g2.z hz), sq_t g2.zh hz2, q _ _ _ Z2 H2 (g1.trans g2) (dw_pairs (walk_zipT (by rw [List.length_zip, rl.length, rl2.length])) (fun Z' H' z zh => ⟨sq_t zh (rd_ex z (rd_ex g2.z hz)), sq_t zh (rd_ex z hz2)⟩) (fun i v hv => (rl.mono g2.z).get' hv) (fun i v hv => rl2.get' hv))⟩⟩)
end
end DL
set_option maxHeartbeats 4000000
namespace DL
open PySem PySem.Spec PyProof.Rows L2

/-! ### what is left as it is -/
section
variable {K : PySem.W.Frag} {E : Cfg} {T : List (Addr × Str)} {Z H Z' H' Z2 H2 : Hp} {σ : L2.St} {ρ : List Sl}
theorem Gr.keepNone (g : Gr T Z H Z' H') {l : Addr} {xs : List V} (zl : Z l = none) (hl : H l = some (.lst xs)) : Z' l = none := by
  cases q : Z' l with
  | none => rfl
  | some o =>
    rcases g.fr l (by rw [q]; exact fun z => nomatch z) with w | w
    · exact absurd zl w
    · obtain ⟨ps, z⟩ := w _ hl
      cases z
theorem tabs_wr (tb : LamX.Tabs T H) {l : Addr} {xs ys : List V} (hl : H l = some (.lst xs)) : LamX.Tabs T (upd H l (.lst ys)) := fun p hp => by
  obtain ⟨ps, a1, a2, a3⟩ := tb p hp
  refine ⟨ps, by rw [upd_ne (ne_of a1 hl (by intro z; cases z))]; exact a1, a2, fun pos cv hc => ?_⟩
  obtain ⟨c, b1, b2⟩ := a3 pos cv hc
  exact ⟨c, b1, by rw [upd_ne (ne_of b2 hl (by unfold LamX.CodeO; intro z; cases z))]; exact b2⟩
theorem Gr.wr (g : Gr T Z H Z' H') {l : Addr} {xs ys : List V} (fl : Frsh H l) (zl : Z' l = none) (hl : H' l = some (.lst xs)) : Gr T Z H Z' (upd H' l (.lst ys)) :=
  ⟨g.z, fun b o q n => by rw [upd_ne (fl.ne q n)]; exact g.h b o q n, g.zh.mut zl, tabs_wr g.tb hl, g.fr, g.nz⟩
theorem SS.forget (S : SS K E Z H σ ρ) (i : Nat) : SS K E Z H (σ.set i none) (ρ.set i .no) := by
  have key : ∀ (j : Nat) (s : Sl), (ρ.set i .no)[j]? = some s → s = .no ∨ (j ≠ i ∧ ρ[j]? = some s) := fun j s h => by
    by_cases hj : i = j
    · subst hj
      by_cases hi : i < ρ.length
      · rw [List.getElem?_set_self hi] at h; cases h; exact .inl rfl
      · rw [List.getElem?_eq_none (by simpa using hi)] at h; cases h
    · rw [List.getElem?_set_ne hj] at h; exact .inr ⟨Ne.symm hj, h⟩
  refine ⟨S.zh, S.bh, S.b0, S.tb, S.fr, S.z0, S.nz, by simpa using S.len, fun j s h => ?_, fun j k ds es l hjk h1 h2 h3 => ?_⟩
  · rcases key j s h with z | ⟨n, z⟩
    · subst z; trivial
    · rw [List.getElem?_set_ne (Ne.symm n)]; exact S.at_ j s z
  · rcases key j _ h1 with z | ⟨n, z⟩
    · cases z
    · rcases key k _ h2 with z' | ⟨n', z'⟩
      · cases z'
      · rw [List.getElem?_set_ne (Ne.symm n)] at h3
        rw [List.getElem?_set_ne (Ne.symm n')]
        exact S.ap j k ds es l hjk z z' h3
theorem St1.forget (S : St1 K E Z H σ ρ) (i : Nat) : St1 K E Z H (σ.set i none) (ρ.set i .no) := ⟨S.s.forget i, S.t⟩
theorem St1.drop (S : St1 K E Z H σ ρ) (i : Nat) : St1 K E Z H σ (ρ.set i .no) := ⟨S.s.drop i, S.t⟩
end
def wipeD (ρ : List Sl) : List Nat → List Sl
  | [] => ρ
  | v :: vs => (wipeD ρ vs).set v .no
theorem St1.wipe {K : PySem.W.Frag} {E : Cfg} {Z H : Hp} {σ : L2.St} {ρ : List Sl} (S : St1 K E Z H σ ρ) : ∀ vs : List Nat, St1 K E Z H (wipe σ vs) (wipeD ρ vs)
  | [] => S
  | v :: vs => (S.wipe vs).forget v
theorem wipe_set {σ : L2.St} {j : Nat} {x : Option V} : ∀ {vs : List Nat}, j ∈ vs → wipe (σ.set j x) vs = wipe σ vs
  | [], h => by cases h
  | v :: vs, h => by
    unfold L2.wipe
    by_cases hj : j = v
    · subst hj
      by_cases hm : j ∈ vs
      · rw [wipe_set hm]
      · have : ∀ (vs : List Nat), j ∉ vs → wipe (σ.set j x) vs = (wipe σ vs).set j x := fun vs => by
          induction vs with
          | nil => intro _; rfl
          | cons u us ih =>
            intro hn
            simp only [List.mem_cons, not_or] at hn
            unfold L2.wipe
            rw [ih hn.2, List.set_comm _ _ hn.1]
        rw [this vs hm, List.set_set]
    · rw [wipe_set ((List.mem_cons.mp h).resolve_left hj)]
theorem wipe_wipe {σ : L2.St} : ∀ {vs us : List Nat}, (∀ j ∈ us, j ∈ vs) → wipe (wipe σ us) vs = wipe σ vs
  | vs, [], _ => rfl
  | vs, u :: us, h => by
    show wipe ((wipe σ us).set u none) vs = _
    rw [wipe_set (h u List.mem_cons_self), wipe_wipe fun j hj => h j (List.mem_cons_of_mem _ hj)]
theorem wipe_setS {vs : List Nat} : ∀ {js : List Nat} {us : List V} {σ : L2.St}, (∀ j ∈ js, j ∈ vs) → wipe (setS σ js us) vs = wipe σ vs
  | [], _, _, _ => by unfold setS; rfl
  | j :: js, [], _, _ => rfl
  | j :: js, u :: us, σ, h => by
    show wipe (setS (σ.set j (some u)) js us) vs = _
    rw [wipe_setS fun i hi => h i (List.mem_cons_of_mem _ hi), wipe_set (h j List.mem_cons_self)]

/-! ### comprehensions -/
section
variable {X : Cx} {elt tg iter tg1 iter1 e : Expr} {ifs ifs1 : List Expr} {scope : Scope} {own : List (Str × Nat)} {ρ : List Sl} {d : D} {ds : List D} {pos : Pos}
abbrev Bk (X : Cx) (scope : Scope) (P : Cx → Prop) : Prop := ∀ (s : Shared) (H : Hp) (C : Addr) (cl : List (Str × Addr)) (fp : List Addr), P (X.blk s H scope (compEnvC scope cl C X.env) fp)
def WGb (X : Cx) (scope : Scope) (tg : Expr) : TG := fun v σ H Q => Bk X scope fun Y => WG Y tg v σ H Q
def WTs (X : Cx) (ifs : List Expr) : TT := fun σ H Q => ∀ pins s, Inv X pins σ H s → wpAny (model X.prog X.w) X.A (forIn ifs true fun c r => if r = true then do let ok ← isTrue c X.env (eval c X.env); pure (ForInStep.yield ok) else pure (ForInStep.yield r)) (TP X pins σ Q) X.xe s
def WTb (X : Cx) (scope : Scope) (ifs : List Expr) : TT := fun σ H Q => Bk X scope fun Y => WTs Y ifs σ H Q
def WEb (X : Cx) (scope : Scope) (e : Expr) : TE := fun σ H Q => Bk X scope fun Y => WE Y e σ H Q
def WIb (X : Cx) (scope : Scope) (tg iter : Expr) : TI := fun σ H Q => Bk X scope fun Y => WI Y tg iter σ H Q
theorem pgb (s : Shared) (H : Hp) (C : Addr) (cl : List (Str × Addr)) (fp : List Addr) : PG (X.blk s H scope (compEnvC scope cl C X.env) fp) tg (WGb X scope tg) := ⟨fun pins s' σ H' v u Q I r h => h s H C cl fp pins s' u I r⟩
theorem ptb (s : Shared) (H : Hp) (C : Addr) (cl : List (Str × Addr)) (fp : List Addr) : PTs (X.blk s H scope (compEnvC scope cl C X.env) fp) ifs (WTb X scope ifs) := ⟨fun pins s' σ H' Q I h => h s H C cl fp pins s' I⟩
theorem peb (s : Shared) (H : Hp) (C : Addr) (cl : List (Str × Addr)) (fp : List Addr) : PE (X.blk s H scope (compEnvC scope cl C X.env) fp) e (WEb X scope e) := ⟨fun pins s' σ H' Q I h => h s H C cl fp pins s' I⟩
theorem pib (s : Shared) (H : Hp) (C : Addr) (cl : List (Str × Addr)) (fp : List Addr) : PI (X.blk s H scope (compEnvC scope cl C X.env) fp) tg iter (WIb X scope tg iter) := ⟨fun pins s' σ H' R I h => h s H C cl fp pins s' I⟩
/-- the tests of a clause -/
def DTs (X : Cx) (ifs : List Expr) (ρ : List Sl) (b : Bool) : Prop := ∀ E Z H σ, St1 X.K E Z H σ ρ → ∀ Q : Bool → Hp → Prop, (∀ Z' H', G X.K Z H Z' H' → Q b H') → WTs X ifs σ H Q
theorem dts_nil : DTs X [] ρ true := fun E Z H σ S Q q pins s I => pts_nil.run pins s σ H Q I (q Z H S.same)
theorem dts_one {c : Expr} {b : Bool} (h : DT X c ρ b) : DTs X [c] ρ b := fun E Z H σ S Q q pins s I => (pts_one pt_wt).run pins s σ H Q I (h E Z H σ S Q q)
/-- one for -/
theorem lc_read {α : Type} (xs : List α) (c : α → D) (js : List Nat) (sp : α → List D) (b : α → Bool) (v : α → D) (vs : List Nat) (hjs : ∀ j ∈ js, j ∈ vs) (hi : DI X tg iter ρ (xs.map c)) (hz : xs.length < sizeLine)
    (hg : Bk X scope fun Y => ∀ x ∈ xs, DG Y tg js (c x) (sp x)) (ht : Bk X scope fun Y => ∀ x ∈ xs, DTs Y ifs (setD (wipeD ρ vs) js (sp x)) (b x)) (he : Bk X scope fun Y => ∀ x ∈ xs, b x = true → DE Y elt (setD (wipeD ρ vs) js (sp x)) (v x))
    {E : Cfg} {Z H : Hp} {σ : L2.St} (S : St1 X.K E Z H σ ρ) {Q : VK} (q : ∀ l ys Z' H', G X.K Z H Z' H' → Frsh H l → Z' l = none → H' l = some (.lst ys) → RepL X.K Z' ys ((xs.filter b).map v) → Q (.ref l) H') :
    tLc (WI X tg iter) (WGb X scope tg) (WTb X scope ifs) (WEb X scope elt) vs σ H Q := by
  refine hi E Z H σ S _ fun J Gd Y Z1 H1 g1 w1 Dl hD => ?_
  have fD : Frsh H Dl := (Frsh.none hD).back g1.h
  have wl : (xs.map c).length = xs.length := List.length_map ..
  refine lc_it w1.w (fun i H' => ∃ Z' acc, G X.K Z H Z' H' ∧ Ex Z1 Z' ∧ Z' Dl = none ∧ H' Dl = some (.lst acc) ∧ acc.length ≤ i ∧ RepL X.K Z' acc (((xs.take i).filter b).map v)) ?_ ?_ ?_ ?_
  · exact ⟨Z1, [], g1.newH hD, Ex.refl _, g1.zh.free hD, upd_same, Nat.le_refl _, .nil⟩
  · rintro i H' hi' ⟨Z', acc, g', z', n', h', l', r'⟩
    exact w1.g Z' H' z' g'.zh
  · rintro i x H' H2 hi' ⟨Z', acc, g', z', n', h', l', r'⟩ y
    rw [wl] at hi'
    have hx : xs[i]? = some xs[i] := List.getElem?_eq_getElem hi'
    have hm : xs[i] ∈ xs := List.getElem_mem hi'
    obtain ⟨Z2, g2, r2⟩ := w1.y i (c xs[i]) H' x H2 Z' (by rw [List.getElem?_map, hx]; rfl) z' g'.zh g'.tb y
    have n2 : Z2 Dl = none := g2.keepNone n' h'
    have h2 : H2 Dl = some (.lst acc) := g2.h _ _ h' fun _ z => nomatch z
    have S2 : St1 X.K E Z2 H2 (wipe σ vs) (wipeD ρ vs) := (S.grow (g'.trans g2)).wipe vs
    intro s0 H0 C0 cl fp
    refine hg s0 H0 C0 cl fp xs[i] hm Z2 H2 (wipe σ vs) x g2.zh r2 _ fun us ru => ⟨?_, ?_⟩
    · rw [wipe_setS hjs, wipe_wipe fun j hj => hj]
    · have S3 : St1 X.K E Z2 H2 (setS (wipe σ vs) js us) (setD (wipeD ρ vs) js (sp xs[i])) := S2.puts ru
      intro s1 H1' C1 cl1 fp1
      refine ht s1 H1' C1 cl1 fp1 xs[i] hm E Z2 H2 _ S3 _ fun Z3 H3 g3 => ?_
      have n3 : Z3 Dl = none := g3.keepNone n2 h2
      have h3 : H3 Dl = some (.lst acc) := g3.h _ _ h2 fun _ z => nomatch z
      have gg := (g'.trans g2).trans g3
      cases hb : b xs[i] with
      | true =>
        refine iteT fun s2 H2' C2 cl2 fp2 => ?_
        refine he s2 H2' C2 cl2 fp2 xs[i] hm hb E Z3 H3 _ (S3.grow g3) _ fun u Z4 H4 g4 r4 => ?_
        have n4 : Z4 Dl = none := g4.keepNone n3 h3
        have h4 : H4 Dl = some (.lst acc) := g4.h _ _ h3 fun _ z => nomatch z
        refine ⟨acc, h4, by omega, Z4, acc ++ [u], (gg.trans g4).wr fD n4 h4, z'.trans (g2.z.trans (g3.z.trans g4.z)), n4, upd_same, by simp; omega, ?_⟩
        rw [List.take_add_one, hx, Option.toList_some, List.filter_append, List.map_append, List.filter_cons, if_pos hb]
        exact (r'.mono (g2.z.trans (g3.z.trans g4.z))).app (.cons r4 .nil)
      | false =>
        refine iteF ⟨Z3, acc, gg, z'.trans (g2.z.trans g3.z), n3, h3, by omega, ?_⟩
        rw [List.take_add_one, hx, Option.toList_some, List.filter_append, List.map_append, List.filter_cons, if_neg (by rw [hb]; exact Bool.false_ne_true)]
        simpa using r'.mono (g2.z.trans g3.z)
  · rintro H' ⟨Z', acc, g', z', n', h', l', r'⟩
    rw [wl, List.take_length] at r'
    exact q Dl acc Z' H' g' fD n' h' r'
theorem do_lc {α : Type} (xs : List α) (c : α → D) (js : List Nat) (sp : α → List D) (b : α → Bool) (v : α → D) (own : List (Str × Nat)) (hN : X.N.Nodup) (ok : BlkOk X.N X.env.scope scope own) (hi : DI X tg iter ρ (xs.map c)) (hz : xs.length < sizeLine)
    (hg : Bk X scope fun Y => ∀ x ∈ xs, DG Y tg js (c x) (sp x)) (ht : Bk X scope fun Y => ∀ x ∈ xs, DTs Y ifs (setD (wipeD ρ (own.map (·.2))) js (sp x)) (b x)) (he : Bk X scope fun Y => ∀ x ∈ xs, b x = true → DE Y elt (setD (wipeD ρ (own.map (·.2))) js (sp x)) (v x))
    (hc : X.calm = true := by rfl) (hjs : ∀ j ∈ js, j ∈ own.map (·.2) := by decide) (hs : ∀ x, foldedSetIterable iter X.env x = pure x := by intro _; rfl) : DO X (.ListComp elt [⟨tg, iter, ifs, 0⟩] scope pos) ρ ((xs.filter b).map v) := fun E Z H σ S Q q =>
  we_pe (pe_lc hc hN pi_wi ok pgb ptb peb hs) (lc_read xs c js sp b v _ hjs hi hz hg ht he S q)
/-- without tests -/
theorem do_lc0 {α : Type} (xs : List α) (c : α → D) (js : List Nat) (sp : α → List D) (v : α → D) (own : List (Str × Nat)) (hN : X.N.Nodup) (ok : BlkOk X.N X.env.scope scope own) (hi : DI X tg iter ρ (xs.map c)) (hz : xs.length < sizeLine)
    (hg : Bk X scope fun Y => ∀ x ∈ xs, DG Y tg js (c x) (sp x)) (he : Bk X scope fun Y => ∀ x ∈ xs, DE Y elt (setD (wipeD ρ (own.map (·.2))) js (sp x)) (v x))
    (hc : X.calm = true := by rfl) (hjs : ∀ j ∈ js, j ∈ own.map (·.2) := by decide) (hs : ∀ x, foldedSetIterable iter X.env x = pure x := by intro _; rfl) : DO X (.ListComp elt [⟨tg, iter, [], 0⟩] scope pos) ρ (xs.map v) := by
  have h := do_lc (pos := pos) xs c js sp (fun _ => true) v own hN ok hi hz hg (fun _ _ _ _ _ _ _ => dts_nil) (fun s H C cl fp x hx _ => he s H C cl fp x hx) hc hjs hs
  rw [List.filter_eq_self.mpr fun _ _ => rfl] at h
  exact h
/-- two fors, a test in the inner one -/
theorem lc2_read {α β : Type} (xs : List α) (c : α → D) (js : List Nat) (sp : α → List D) (ys : α → List β) (c1 : β → D) (js1 : List Nat) (sp1 : β → List D) (b : α → β → Bool) (v : α → β → D) (vs vs1 : List Nat) (hjs : ∀ j ∈ js, j ∈ vs) (hjs1 : ∀ j ∈ js1, j ∈ vs1) (hv1 : ∀ j ∈ vs1, j ∈ vs)
    (hi : DI X tg iter ρ (xs.map c)) (hz : (xs.flatMap ys).length < sizeLine)
    (hg : Bk X scope fun Y => ∀ x ∈ xs, DG Y tg js (c x) (sp x)) (hi1 : Bk X scope fun Y => ∀ x ∈ xs, DI Y tg1 iter1 (setD (wipeD ρ vs) js (sp x)) ((ys x).map c1)) (hg1 : Bk X scope fun Y => ∀ x ∈ xs, ∀ y ∈ ys x, DG Y tg1 js1 (c1 y) (sp1 y))
    (ht1 : Bk X scope fun Y => ∀ x ∈ xs, ∀ y ∈ ys x, DTs Y ifs1 (setD (wipeD (setD (wipeD ρ vs) js (sp x)) vs1) js1 (sp1 y)) (b x y)) (he : Bk X scope fun Y => ∀ x ∈ xs, ∀ y ∈ ys x, b x y = true → DE Y elt (setD (wipeD (setD (wipeD ρ vs) js (sp x)) vs1) js1 (sp1 y)) (v x y))
    {E : Cfg} {Z H : Hp} {σ : L2.St} (S : St1 X.K E Z H σ ρ) {Q : VK} (q : ∀ l us Z' H', G X.K Z H Z' H' → Frsh H l → Z' l = none → H' l = some (.lst us) → RepL X.K Z' us (xs.flatMap fun x => ((ys x).filter (b x)).map (v x)) → Q (.ref l) H') :
    tLc2 (WI X tg iter) (WGb X scope tg) (WTb X scope []) (WIb X scope tg1 iter1) (WGb X scope tg1) (WTb X scope ifs1) (WEb X scope elt) vs vs1 σ H Q := by
  refine hi E Z H σ S _ fun J Gd Y Z1 H1 g1 w1 Dl hD => ?_
  have fD : Frsh H Dl := (Frsh.none hD).back g1.h
  have wl : (xs.map c).length = xs.length := List.length_map ..
  have lenx : ∀ i, i < xs.length → ∀ hi : i < xs.length, ((xs.take i).flatMap ys).length + (ys xs[i]).length ≤ (xs.flatMap ys).length := fun i _ hi => by
    have e : xs = xs.take i ++ xs[i] :: xs.drop (i + 1) := by
      rw [List.getElem_cons_drop, List.take_append_drop]
    have := congrArg (fun l => (l.flatMap ys).length) e
    simp only [List.flatMap_append, List.flatMap_cons, List.length_append] at this
    omega
  have outer := for_it (D := { nx := fun _ H' => Q (.ref Dl) H', rt := fun _ _ => False }) w1.w (g := fun x _ H' K => WGb X scope tg x (wipe σ vs) H' K)
    (tb := fun D σ2 H2 => wipe σ2 vs = wipe σ vs ∧ WTb X scope [] σ2 H2 fun b H3 => if b = true then WIb X scope tg1 iter1 σ2 H3 fun J1 H4 => ∃ W1 : Nat → Nat → Hp → Prop, (∃ m, W1 0 m H4) ∧ ∀ j k H, W1 j k H →
      (J1.stop j H ∧ D.nx [] H) ∨ (J1.go j H ∧ ∃ Nx1 : Hp → Prop, (∀ H', Nx1 H' → ∃ k', k' < k ∧ W1 (j + 1) k' H') ∧ ∀ x H', J1.yld j H x H' → WGb X scope tg1 x (wipe σ2 vs1) H' fun σ3 H5 => wipe σ3 vs1 = wipe σ2 vs1 ∧ WTb X scope ifs1 σ3 H5 fun b H6 =>
        if b = true then WEb X scope elt σ3 H6 fun y H7 => ∃ acc, H7 Dl = some (.lst acc) ∧ acc.length < sizeLine ∧ Nx1 (upd H7 Dl (.lst (acc ++ [y]))) else Nx1 H6) else D.nx [] H3)
    (σ := []) (H := upd H1 Dl (.lst [])) (fun i _ H' => ∃ Z' acc, G X.K Z H Z' H' ∧ Ex Z1 Z' ∧ Z' Dl = none ∧ H' Dl = some (.lst acc) ∧ acc.length ≤ ((xs.take i).flatMap ys).length ∧ RepL X.K Z' acc ((xs.take i).flatMap fun x => ((ys x).filter (b x)).map (v x)))
    ⟨Z1, [], g1.newH hD, Ex.refl _, g1.zh.free hD, upd_same, Nat.zero_le _, .nil⟩ (fun i _ H' _ ⟨Z', acc, g', z', _⟩ => w1.g Z' H' z' g'.zh) ?_ ?_
  · obtain ⟨W, ⟨m0, hw0⟩, hW⟩ := outer
    refine ⟨fun j k H' => W j k [] H', ⟨m0, hw0⟩, fun j k H' hw => ?_⟩
    rcases hW j k [] H' hw with ⟨a1, a2⟩ | ⟨a1, N, a2, a3⟩
    · exact .inl ⟨a1, a2⟩
    · exact .inr ⟨a1, fun H' => N [] H', fun H' hn => a2 [] H' hn, fun x H' hy => a3 x H' hy⟩
  · rintro i x _ H' H2 hi' ⟨Z', acc, g', z', n', h', l', r'⟩ y
    rw [wl] at hi'
    have hx : xs[i]? = some xs[i] := List.getElem?_eq_getElem hi'
    have hm : xs[i] ∈ xs := List.getElem_mem hi'
    obtain ⟨Z2, g2, r2⟩ := w1.y i (c xs[i]) H' x H2 Z' (by rw [List.getElem?_map, hx]; rfl) z' g'.zh g'.tb y
    have n2 : Z2 Dl = none := g2.keepNone n' h'
    have h2 : H2 Dl = some (.lst acc) := g2.h _ _ h' fun _ z => nomatch z
    have S2 : St1 X.K E Z2 H2 (wipe σ vs) (wipeD ρ vs) := (S.grow (g'.trans g2)).wipe vs
    intro s0 H0 C0 cl fp
    refine hg s0 H0 C0 cl fp xs[i] hm Z2 H2 (wipe σ vs) x g2.zh r2 _ fun us ru => ⟨?_, ?_⟩
    · rw [wipe_setS hjs, wipe_wipe fun j hj => hj]
    have S3 : St1 X.K E Z2 H2 (setS (wipe σ vs) js us) (setD (wipeD ρ vs) js (sp xs[i])) := S2.puts ru
    intro s1 H1' C1 cl1 fp1
    refine dts_nil (X := X.blk s1 H1' scope (compEnvC scope cl1 C1 X.env) fp1) E Z2 H2 _ S3 _ fun Z3 H3 g3 => ?_
    have n3 : Z3 Dl = none := g3.keepNone n2 h2
    have h3 : H3 Dl = some (.lst acc) := g3.h _ _ h2 fun _ z => nomatch z
    have gg := (g'.trans g2).trans g3
    refine iteT fun s2 H2' C2 cl2 fp2 => ?_
    refine hi1 s2 H2' C2 cl2 fp2 xs[i] hm E Z3 H3 _ (S3.grow g3) _ fun J1 Gd1 Y1 Z4 H4 g4 w4 => ?_
    have n4 : Z4 Dl = none := g4.keepNone n3 h3
    have h4 : H4 Dl = some (.lst acc) := g4.h _ _ h3 fun _ z => nomatch z
    have wl1 : ((ys xs[i]).map c1).length = (ys xs[i]).length := List.length_map ..
    have hsz := lenx i hi' hi'
    have key := for_it (D := { nx := fun _ H' => ∃ Z' acc, G X.K Z H Z' H' ∧ Ex Z1 Z' ∧ Z' Dl = none ∧ H' Dl = some (.lst acc) ∧ acc.length ≤ ((xs.take (i + 1)).flatMap ys).length ∧ RepL X.K Z' acc ((xs.take (i + 1)).flatMap fun x => ((ys x).filter (b x)).map (v x)), rt := fun _ _ => False }) w4.w
      (g := fun x _ H' Q => WGb X scope tg1 x (wipe (setS (wipe σ vs) js us) vs1) H' fun σ3 H5 => wipe σ3 vs1 = wipe (setS (wipe σ vs) js us) vs1 ∧ Q σ3 H5)
      (tb := fun D σ3 H5 => WTb X scope ifs1 σ3 H5 fun b H6 => if b = true then WEb X scope elt σ3 H6 fun y H7 => ∃ acc, H7 Dl = some (.lst acc) ∧ acc.length < sizeLine ∧ D.nx [] (upd H7 Dl (.lst (acc ++ [y]))) else D.nx [] H6)
      (σ := []) (H := H4) (fun j _ H' => ∃ Z' acc, G X.K Z H Z' H' ∧ Ex Z4 Z' ∧ Z' Dl = none ∧ H' Dl = some (.lst acc) ∧ acc.length ≤ ((xs.take i).flatMap ys).length + j ∧ RepL X.K Z' acc (((xs.take i).flatMap fun x => ((ys x).filter (b x)).map (v x)) ++ (((ys xs[i]).take j).filter (b xs[i])).map (v xs[i])))
      ⟨Z4, acc, gg.trans g4, Ex.refl _, n4, h4, l', by simpa using r'.mono (g2.z.trans (g3.z.trans g4.z))⟩
      (fun j _ H' _ ⟨Z', acc, g', z', _⟩ => w4.g Z' H' z' g'.zh) ?_ ?_
    · obtain ⟨W, ⟨m0, hw0⟩, hW⟩ := key
      refine ⟨fun j k H' => W j k [] H', ⟨m0, hw0⟩, fun j k H' hw => ?_⟩
      rcases hW j k [] H' hw with ⟨a1, a2⟩ | ⟨a1, N, a2, a3⟩
      · exact .inl ⟨a1, a2⟩
      · exact .inr ⟨a1, fun H' => N [] H', fun H' hn => a2 [] H' hn, fun x H' hy => a3 x H' hy⟩
    · rintro j x1 _ H5 H6 hj ⟨Z5, acc5, g5, z5, n5, h5, l5, r5⟩ y1
      rw [wl1] at hj
      have hx1 : (ys xs[i])[j]? = some (ys xs[i])[j] := List.getElem?_eq_getElem hj
      have hm1 : (ys xs[i])[j] ∈ ys xs[i] := List.getElem_mem hj
      obtain ⟨Z6, g6, r6⟩ := w4.y j (c1 (ys xs[i])[j]) H5 x1 H6 Z5 (by rw [List.getElem?_map, hx1]; rfl) z5 g5.zh g5.tb y1
      have n6 : Z6 Dl = none := g6.keepNone n5 h5
      have h6 : H6 Dl = some (.lst acc5) := g6.h _ _ h5 fun _ z => nomatch z
      have S5 : St1 X.K E Z6 H6 (wipe (setS (wipe σ vs) js us) vs1) (wipeD (setD (wipeD ρ vs) js (sp xs[i])) vs1) := ((((S.grow (g5.trans g6)).wipe vs).puts (ru.mono (g3.z.trans (g4.z.trans (z5.trans g6.z)))))).wipe vs1
      intro s3 H3' C3 cl3 fp3
      refine hg1 s3 H3' C3 cl3 fp3 xs[i] hm _ hm1 Z6 H6 _ x1 g6.zh r6 _ fun us1 ru1 => ⟨?_, ?_⟩
      · rw [wipe_setS hjs1, wipe_wipe fun j hj => hj]
      have S6 : St1 X.K E Z6 H6 (setS (wipe (setS (wipe σ vs) js us) vs1) js1 us1) (setD (wipeD (setD (wipeD ρ vs) js (sp xs[i])) vs1) js1 (sp1 (ys xs[i])[j])) := S5.puts ru1
      intro s4 H4' C4 cl4 fp4
      refine ht1 s4 H4' C4 cl4 fp4 xs[i] hm _ hm1 E Z6 H6 _ S6 _ fun Z7 H7 g7 => ?_
      have n7 : Z7 Dl = none := g7.keepNone n6 h6
      have h7 : H7 Dl = some (.lst acc5) := g7.h _ _ h6 fun _ z => nomatch z
      have g57 := (g5.trans g6).trans g7
      cases hb : b xs[i] (ys xs[i])[j] with
      | true =>
        refine iteT fun s5 H5' C5 cl5 fp5 => ?_
        refine he s5 H5' C5 cl5 fp5 xs[i] hm _ hm1 hb E Z7 H7 _ (S6.grow g7) _ fun u Z8 H8 g8 r8 => ?_
        have n8 : Z8 Dl = none := g8.keepNone n7 h7
        have h8 : H8 Dl = some (.lst acc5) := g8.h _ _ h7 fun _ z => nomatch z
        refine ⟨acc5, h8, by omega, Z8, acc5 ++ [u], (g57.trans g8).wr fD n8 h8, z5.trans (g6.z.trans (g7.z.trans g8.z)), n8, upd_same, by rw [List.length_append, List.length_singleton]; omega, ?_⟩
        rw [List.take_add_one, hx1, Option.toList_some, List.filter_append, List.map_append, List.filter_cons, if_pos hb, ← List.append_assoc]
        exact (r5.mono (g6.z.trans (g7.z.trans g8.z))).app (.cons r8 .nil)
      | false =>
        refine iteF ⟨Z7, acc5, g57, z5.trans (g6.z.trans g7.z), n7, h7, by omega, ?_⟩
        rw [List.take_add_one, hx1, Option.toList_some, List.filter_append, List.map_append, List.filter_cons, if_neg (by rw [hb]; exact Bool.false_ne_true)]
        simpa using r5.mono (g6.z.trans g7.z)
    · rintro _ H5 ⟨Z5, acc5, g5, z5, n5, h5, l5, r5⟩
      rw [wl1] at l5 r5
      rw [List.take_length] at r5
      refine ⟨Z5, acc5, g5, z'.trans (g2.z.trans (g3.z.trans (g4.z.trans z5))), n5, h5, ?_, ?_⟩
      · rw [List.take_add_one, hx, Option.toList_some, List.flatMap_append, List.length_append]
        simpa using l5
      · rw [List.take_add_one, hx, Option.toList_some, List.flatMap_append]
        simpa using r5
  · rintro _ H' ⟨Z', acc, g', z', n', h', l', r'⟩
    rw [wl, List.take_length] at r'
    exact q Dl acc Z' H' g' fD n' h' r'
theorem do_lc2 {α β : Type} (xs : List α) (c : α → D) (js : List Nat) (sp : α → List D) (ys : α → List β) (c1 : β → D) (js1 : List Nat) (sp1 : β → List D) (b : α → β → Bool) (v : α → β → D) (own : List (Str × Nat)) (vs1 : List Nat) (hN : X.N.Nodup) (ok : BlkOk X.N X.env.scope scope own)
    (hi : DI X tg iter ρ (xs.map c)) (hz : (xs.flatMap ys).length < sizeLine)
    (hg : Bk X scope fun Y => ∀ x ∈ xs, DG Y tg js (c x) (sp x)) (hi1 : Bk X scope fun Y => ∀ x ∈ xs, DI Y tg1 iter1 (setD (wipeD ρ (own.map (·.2))) js (sp x)) ((ys x).map c1)) (hg1 : Bk X scope fun Y => ∀ x ∈ xs, ∀ y ∈ ys x, DG Y tg1 js1 (c1 y) (sp1 y))
    (ht1 : Bk X scope fun Y => ∀ x ∈ xs, ∀ y ∈ ys x, DTs Y ifs1 (setD (wipeD (setD (wipeD ρ (own.map (·.2))) js (sp x)) vs1) js1 (sp1 y)) (b x y)) (he : Bk X scope fun Y => ∀ x ∈ xs, ∀ y ∈ ys x, b x y = true → DE Y elt (setD (wipeD (setD (wipeD ρ (own.map (·.2))) js (sp x)) vs1) js1 (sp1 y)) (v x y))
    (hc : X.calm = true := by rfl) (hjs : ∀ j ∈ js, j ∈ own.map (·.2) := by decide) (hjs1 : ∀ j ∈ js1, j ∈ vs1 := by decide) (hv : ∀ j ∈ vs1, j ∈ own.map (·.2) := by decide) (hs : ∀ x, foldedSetIterable iter X.env x = pure x := by intro _; rfl) (hs1 : ∀ env x, foldedSetIterable iter1 env x = pure x := by intro _ _; rfl) :
    DO X (.ListComp elt [⟨tg, iter, [], 0⟩, ⟨tg1, iter1, ifs1, 0⟩] scope pos) ρ (xs.flatMap fun x => ((ys x).filter (b x)).map (v x)) := fun E Z H σ S Q q =>
  we_pe (pe_lc2 hc hN pi_wi ok hv pgb ptb pib pgb ptb peb hs hs1) (lc2_read xs c js sp ys c1 js1 sp1 b v _ vs1 hjs hjs1 hv hi hz hg hi1 hg1 ht1 he S q)
end
end DL
set_option maxHeartbeats 4000000
namespace DL
open PySem PySem.Spec PyProof.Rows L2

/-! ### statements by data -/
/-- what is wanted behind a statement: of the slots' data, of what is handed back, of the classes of what is raised -/
structure Po where
  nx : List Sl → Prop
  rt : D → Prop
  bk : List Sl → Prop := fun _ => False
  ct : List Sl → Prop := fun _ => False
  xn : Addr → Prop := fun _ => False
/-- a value is handed back -/
structure RetOk (K : PySem.W.Frag) (E : Cfg) (v : V) (Z H : Hp) (d : D) : Prop where
  r : Rep K Z v d
  zh : Ex Z H
  z0 : Ex E.Z0 Z
  b0 : LamX.ExtN E.B0 H
  bh : LamX.ExtN E.B H
  tb : LamX.Tabs (tabs K) H
  fr : ∀ a, Z a ≠ none → E.Z0 a ≠ none ∨ Frsh E.B0 a
  nz : NoT Z
def ndsOf (K : PySem.W.Frag) (E : Cfg) (P : Po) : Ends where
  nx := fun σ H => ∃ Z ρ, St1 K E Z H σ ρ ∧ P.nx ρ
  rt := fun v H => ∃ Z d, RetOk K E v Z H d ∧ P.rt d
  bk := fun σ H => ∃ Z ρ, St1 K E Z H σ ρ ∧ P.bk ρ
  ct := fun σ H => ∃ Z ρ, St1 K E Z H σ ρ ∧ P.ct ρ
/-- what may be raised is taken -/
def XW (X : Cx) (E : Cfg) (xn : Addr → Prop) : Prop := ∃ W, Takes X W ∧ ∀ C σ H, xn C → LamX.ExtN E.B0 H → LamX.ExtN E.B H → LamX.Tabs (tabs X.K) H → W (.ref C) none σ H
def DS (X : Cx) (st : Stmt) (ρ : List Sl) (P : Po) : Prop := ∀ E Z H σ, St1 X.K E Z H σ ρ → XW X E P.xn → WS X st (ndsOf X.K E P) σ H
def DSs (X : Cx) (sts : List Stmt) (ρ : List Sl) (P : Po) : Prop := ∀ E Z H σ, St1 X.K E Z H σ ρ → XW X E P.xn → WSs X sts (ndsOf X.K E P) σ H
section
variable {K : PySem.W.Frag} {E : Cfg} {Z H Z' H' : Hp} {σ : L2.St} {ρ : List Sl} {d : D} {v : V}
theorem St1.ret (S : St1 K E Z H σ ρ) (g : G K Z H Z' H') (r : Rep K Z' v d) : RetOk K E v Z' H' d :=
  have S' := (S.grow g).s
  ⟨r, S'.zh, S'.z0, S'.b0, S'.bh, g.tb, S'.fr, S'.nz⟩
theorem St1.ownPut (S : St1 K E Z H σ ρ) (g : G K Z H Z' H') (i : Nat) {l : Addr} {xs : List V} {ds : List D} (hl : Frsh H l) (zl : Z' l = none) (h : H' l = some (.lst xs)) (r : RepL K Z' xs ds) : St1 K E Z' H' (σ.set i (some (.ref l))) (ρ.set i (.own ds)) :=
by
  refine ⟨(S.grow g).s.putO i h zl (hl.back S.s.bh) (hl.back S.s.b0) r fun j es hj he hs => ?_, S.t⟩
  obtain ⟨l2, xs2, e1, h1, _⟩ := S.s.lookO he
  rw [hs] at e1
  cases e1
  obtain ⟨ps, z⟩ := hl _ h1
  cases z
end
section
variable {X : Cx} {e a b c o tg iter : Expr} {es : List Expr} {st : Stmt} {sts body orelse : List Stmt} {ρ : List Sl} {d da db : D} {ds : List D} {pos p apos : Pos} {x m : Str} {P P' : Po}
theorem dss_nil (h : P.nx ρ) : DSs X [] ρ P := fun E Z H σ S W => wss_pss pss_nil ⟨Z, ρ, S, h⟩
theorem dss_cons (h : DS X st ρ { P with nx := fun ρ' => DSs X sts ρ' P }) : DSs X (st :: sts) ρ P := fun E Z H σ S W => by
  intro pins s I
  refine wpAny_execs_cons (thn (h E Z H σ S W pins s I) fun f s1 q => ?_)
  cases f with
  | next =>
    obtain ⟨σ', H', I', Z', ρ', S', k⟩ := q
    exact k E Z' H' σ' S' W pins s1 I'
  | ret v => exact q
  | brk => exact q
  | cont => exact q
theorem dss_one (h : DS X st ρ P) : DSs X [st] ρ P := fun E Z H σ S W => wss_pss (pss_one ps_ws) (h E Z H σ S W)
theorem xw_mono {E : Cfg} {xn xn' : Addr → Prop} (h : ∀ C, xn C → xn' C) : XW X E xn' → XW X E xn := fun ⟨W, t, w⟩ => ⟨W, t, fun C σ H x => w C σ H (h C x)⟩
theorem dss_mono (h : DSs X sts ρ P) (h1 : ∀ ρ, P.nx ρ → P'.nx ρ) (h2 : ∀ d, P.rt d → P'.rt d) (h3 : ∀ ρ, P.bk ρ → P'.bk ρ) (h4 : ∀ ρ, P.ct ρ → P'.ct ρ) (h5 : ∀ C, P.xn C → P'.xn C) : DSs X sts ρ P' := fun E Z H σ S W pins s I =>
  thn (h E Z H σ S (xw_mono h5 W) pins s I) fun f s1 q => by
    cases f with
    | next => obtain ⟨σ', H', I', Z', ρ', S', k⟩ := q; exact ⟨σ', H', I', Z', ρ', S', h1 _ k⟩
    | ret v => obtain ⟨u, σ', H', I', r, Z', d, R, k⟩ := q; exact ⟨u, σ', H', I', r, Z', d, R, h2 _ k⟩
    | brk => obtain ⟨σ', H', I', Z', ρ', S', k⟩ := q; exact ⟨σ', H', I', Z', ρ', S', h3 _ k⟩
    | cont => obtain ⟨σ', H', I', Z', ρ', S', k⟩ := q; exact ⟨σ', H', I', Z', ρ', S', h4 _ k⟩
/-- a slot's own list is now fixed -/
theorem dss_freeze (i : Nat) (h : DSs X sts (ρ.set i (.val (.lst ds))) P) (hi : ρ[i]? = some (.own ds) := by rfl) : DSs X sts ρ P := fun E Z H σ S W => by
  obtain ⟨l, xs, e1, h1, zl, f1, f2, r⟩ := S.s.lookO hi
  exact h E _ H σ (S.freeze hi e1 h1) W
theorem dss_drop (i : Nat) (h : DSs X sts (ρ.set i .no) P) : DSs X sts ρ P := fun E Z H σ S W => h E Z H σ (S.drop i) W

/-! ### stores -/
theorem ds_set (i : Nat) {pos' : Pos} (hN : X.N.Nodup) (he : DE X e ρ d) (h : P.nx (ρ.set i (.val d))) (hi : X.N[i]? = some x := by rfl) (hx : Loc X.env.scope x := by first | exact .inl rfl | exact .inr rfl) (hs : swapsWith e (some (.Name x pos')) pos.line X.env = pure false := by rfl)
    (hf : X.fn x = true ∨ X.env.scope.names.lookup x = some .local := by first | exact .inl rfl | exact .inr rfl) : DS X (.Assign [.Name x pos'] e pos) ρ P := fun E Z H σ S W =>
  ws_ps (ps_set hN hi hx pe_we hs hf) (he E Z H σ S _ fun v Z1 H1 g1 r1 => ⟨Z1, _, (S.grow g1).put i r1, h⟩)
theorem ds_setO (i : Nat) {pos' : Pos} (hN : X.N.Nodup) (he : DO X e ρ ds) (h : P.nx (ρ.set i (.own ds))) (hi : X.N[i]? = some x := by rfl) (hx : Loc X.env.scope x := by first | exact .inl rfl | exact .inr rfl) (hs : swapsWith e (some (.Name x pos')) pos.line X.env = pure false := by rfl)
    (hf : X.fn x = true ∨ X.env.scope.names.lookup x = some .local := by first | exact .inl rfl | exact .inr rfl) : DS X (.Assign [.Name x pos'] e pos) ρ P := fun E Z H σ S W =>
  ws_ps (ps_set hN hi hx pe_we hs hf) (he E Z H σ S _ fun l xs Z1 H1 g1 hl zl hx r1 => ⟨Z1, _, S.ownPut g1 i hl zl hx r1, h⟩)
theorem ds_asg (js : List Nat) (hg : DG X tg js d ds) (he : DE X e ρ d) (h : P.nx (setD ρ js ds)) (hs : swapsWithSole [tg] e pos.line X.env = pure false := by rfl) (hw : swappedStores [tg] e X.env = pure none := by rfl)
    (h1 : (assignEach [tg] X.env).map (·.2) = [assign tg X.env] := by rfl) : DS X (.Assign [tg] e pos) ρ P := fun E Z H σ S W =>
  ws_ps (ps_asg pe_we pg_wg hs hw h1) (he E Z H σ S _ fun v Z1 H1 g1 r1 => hg Z1 H1 σ v g1.zh r1 _ fun vs rv => ⟨Z1, _, (S.grow g1).puts rv, h⟩)
/-- y = [.. for ..] on one line -/
theorem ds_setLc {α : Type} (i : Nat) (xs : List α) (c : α → D) (js : List Nat) (sp : α → List D) (b : α → Bool) (v : α → D) (own : List (Str × Nat)) {elt : Expr} {ifs : List Expr} {scope : Scope} {y : Str} {py spos : Pos} (hN : X.N.Nodup) (ok : BlkOk X.N X.env.scope scope own) (hi : DI X tg iter ρ (xs.map c)) (hz : xs.length < sizeLine)
    (hg : Bk X scope fun Y => ∀ x ∈ xs, DG Y tg js (c x) (sp x)) (ht : Bk X scope fun Y => ∀ x ∈ xs, DTs Y ifs (setD (wipeD ρ (own.map (·.2))) js (sp x)) (b x)) (he : Bk X scope fun Y => ∀ x ∈ xs, b x = true → DE Y elt (setD (wipeD ρ (own.map (·.2))) js (sp x)) (v x))
    (h : P.nx (ρ.set i (.own ((xs.filter b).map v)))) (hy : X.N[i]? = some y := by rfl) (hyl : X.env.scope.names.lookup y = some .local := by rfl) (hsw : swapsWith (.ListComp elt [⟨tg, iter, ifs, 0⟩] scope pos) (some (.Name y py)) spos.line X.env = pure true := by exact sw_true rfl rfl rfl (by decide +kernel))
    (hc : X.calm = true := by rfl) (hjs : ∀ j ∈ js, j ∈ own.map (·.2) := by decide) (hs : ∀ x, foldedSetIterable iter X.env x = pure x := by intro _; rfl) : DS X (.Assign [.Name y py] (.ListComp elt [⟨tg, iter, ifs, 0⟩] scope pos) spos) ρ P := fun E Z H σ S W =>
  ws_ps (ps_setLc hc hN hy hyl hsw pi_wi ok pgb ptb peb hs) (lc_read (Q := fun x H1 => gName i x σ H1 (ndsOf X.K E P).nx) xs c js sp b v _ hjs hi hz hg ht he S fun l us Z' H' g hl zl hx r => ⟨Z', _, S.ownPut g i hl zl hx r, h⟩)
theorem ds_setLc2 {α β : Type} (i : Nat) (xs : List α) (c : α → D) (js : List Nat) (sp : α → List D) (ys : α → List β) (c1 : β → D) (js1 : List Nat) (sp1 : β → List D) (b : α → β → Bool) (v : α → β → D) (own : List (Str × Nat)) (vs1 : List Nat) {elt tg1 iter1 : Expr} {ifs1 : List Expr} {scope : Scope} {y : Str} {py spos : Pos} (hN : X.N.Nodup) (ok : BlkOk X.N X.env.scope scope own)
    (hi : DI X tg iter ρ (xs.map c)) (hz : (xs.flatMap ys).length < sizeLine)
    (hg : Bk X scope fun Y => ∀ x ∈ xs, DG Y tg js (c x) (sp x)) (hi1 : Bk X scope fun Y => ∀ x ∈ xs, DI Y tg1 iter1 (setD (wipeD ρ (own.map (·.2))) js (sp x)) ((ys x).map c1)) (hg1 : Bk X scope fun Y => ∀ x ∈ xs, ∀ y ∈ ys x, DG Y tg1 js1 (c1 y) (sp1 y))
    (ht1 : Bk X scope fun Y => ∀ x ∈ xs, ∀ y ∈ ys x, DTs Y ifs1 (setD (wipeD (setD (wipeD ρ (own.map (·.2))) js (sp x)) vs1) js1 (sp1 y)) (b x y)) (he : Bk X scope fun Y => ∀ x ∈ xs, ∀ y ∈ ys x, b x y = true → DE Y elt (setD (wipeD (setD (wipeD ρ (own.map (·.2))) js (sp x)) vs1) js1 (sp1 y)) (v x y))
    (h : P.nx (ρ.set i (.own (xs.flatMap fun x => ((ys x).filter (b x)).map (v x))))) (hy : X.N[i]? = some y := by rfl) (hyl : X.env.scope.names.lookup y = some .local := by rfl) (hsw : swapsWith (.ListComp elt [⟨tg, iter, [], 0⟩, ⟨tg1, iter1, ifs1, 0⟩] scope pos) (some (.Name y py)) spos.line X.env = pure true := by exact sw_true rfl rfl rfl (by decide +kernel))
    (hc : X.calm = true := by rfl) (hjs : ∀ j ∈ js, j ∈ own.map (·.2) := by decide) (hjs1 : ∀ j ∈ js1, j ∈ vs1 := by decide) (hv : ∀ j ∈ vs1, j ∈ own.map (·.2) := by decide) (hs : ∀ x, foldedSetIterable iter X.env x = pure x := by intro _; rfl) (hs1 : ∀ env x, foldedSetIterable iter1 env x = pure x := by intro _ _; rfl) :
    DS X (.Assign [.Name y py] (.ListComp elt [⟨tg, iter, [], 0⟩, ⟨tg1, iter1, ifs1, 0⟩] scope pos) spos) ρ P := fun E Z H σ S W =>
  ws_ps (ps_setLc2 hc hN hy hyl hsw pi_wi ok hv pgb ptb pib pgb ptb peb hs hs1) (lc2_read (Q := fun x H1 => gName i x σ H1 (ndsOf X.K E P).nx) xs c js sp ys c1 js1 sp1 b v _ vs1 hjs hjs1 hv hi hz hg hi1 hg1 ht1 he S fun l us Z' H' g hl zl hx r => ⟨Z', _, S.ownPut g i hl zl hx r, h⟩)
/-- x += e and its like -/
theorem ds_aug (i : Nat) {op : Operator} {r : R2} {pos' : Pos} (hN : X.N.Nodup) (ho : OpR X (inplaceOp op) r) (hr : RD X.K r da db d) (he : DE X e ρ db) (h : P.nx (ρ.set i (.val d))) (hv : ρ[i]? = some (.val da) := by rfl) (hi : X.N[i]? = some x := by rfl) (hx : Loc X.env.scope x := by first | exact .inl rfl | exact .inr rfl)
    (hf : X.fn x = true ∨ X.env.scope.names.lookup x = some .local := by first | exact .inl rfl | exact .inr rfl) : DS X (.AugAssign (.Name x pos') op e pos) ρ P := fun E Z H σ S W => by
  obtain ⟨v, e1, r1⟩ := S.s.look hv
  exact ws_ps (ps_aug hN hi hx pe_we (ti := r) (fun pins s σ H x y v u Q I rx ry q => ho pins s σ H x y v u Q I rx ry q) hf) ⟨v, e1, he E Z H σ S _ fun u Z1 H1 g1 r2 => hr v u Z1 H1 g1.zh g1.tb (r1.mono g1.z) r2 _ fun z Z2 H2 g2 r3 => ⟨Z2, _, (S.grow (g1.trans g2)).put i r3, h⟩⟩
/-- xs.append(e), xs a slot's own list -/
theorem ds_append (i : Nat) {px : Pos} (he : DE X e ρ d) (hz : ds.length < sizeLine) (h : P.nx (ρ.set i (.own (ds ++ [d])))) (hi : ρ[i]? = some (.own ds) := by rfl) (hN : X.N[i]? = some x := by rfl) (hv : Vis X.env.scope x := by first | exact Or.inl rfl | exact Or.inr (Or.inl rfl) | exact Or.inr (Or.inr rfl))
    (hd : (x == ("__debug__" : Str)) = false := by decide) (hcd : (x == ("__classdict__" : Str)) = false := by decide)
    (hbase : attributeBase (.Name x px) "append" X.env (eval (.Name x px) X.env) = eval (.Name x px) X.env := by rfl)
    (hfew : ((backTo p (starEach (e :: []) X.env)).all (fun x => !x.1) && (backToKw p (keywordEach [] X.env)).all (fun x => x.1.isSome)
      && decide ((e :: []).length + ([] : List Keyword).length + (if ([] : List Keyword).isEmpty then 0 else 1) < 30)) = true := by rfl)
    (hline : (apos.endLine == p.line) = true := by rfl) (hs : starEach (e :: []) X.env = (false, eval e X.env) :: starEach [] X.env := by rfl) (hplain : (backTo p (starEach [] X.env)).any (·.1) = false := by rfl)
    (hsw : swapsWith (.Call (.Attribute (.Name x px) "append" apos) [e] [] p) none pos.line X.env = pure false := by rfl) : DS X (.Expr (.Call (.Attribute (.Name x px) "append" apos) [e] [] p) pos) ρ P := fun E Z H σ S W => by
  obtain ⟨l, xs, e1, h1, zl, f1, f2, r⟩ := S.s.lookO hi
  refine ws_ps (ps_expr (pe_bm PySem.F.plainAttrs_list PySem.F.slot_list_append PySem.F.type_list_append mt_append (pe_var hN hv hd hcd) (pa_cons pe_we pa_nil hs) hbase hfew hline hs hplain) hsw) ⟨_, e1, .inl ⟨rfl, xs, SqL.of h1⟩, he E Z H σ S _ fun v Z1 H1 g1 r1 => ?_⟩
  have h1' : H1 l = some (.lst xs) := g1.h _ _ h1 fun _ z => nomatch z
  refine ⟨l, xs, v, rfl, rfl, h1', by rw [r.length]; exact hz, Z1, _, ⟨(S.grow g1).s.wr hi e1 h1' ((r.mono g1.z).app (.cons r1 .nil)), S.t⟩, h⟩
/-- xs[k] = e, xs a slot's own list -/
theorem ds_setI (i : Nat) {k : Int} {j : Nat} {px : Pos} (he : DE X e ρ d) (hb : DE X b ρ (.int k)) (hk : ixN ds.length k = some j) (h : P.nx (ρ.set i (.own (ds.set j d)))) (hi : ρ[i]? = some (.own ds) := by rfl) (hN : X.N[i]? = some x := by rfl) (hv : Vis X.env.scope x := by first | exact Or.inl rfl | exact Or.inr (Or.inl rfl) | exact Or.inr (Or.inr rfl))
    (hd : (x == ("__debug__" : Str)) = false := by decide) (hcd : (x == ("__classdict__" : Str)) = false := by decide)
    (ha : ∀ v, assign (.Subscript (.Name x px) b p) X.env v = (do
      let ov ← holding [v] (eval (.Name x px) X.env)
      let iv ← holding [v, ov] (eval b X.env)
      standAt p
      holding [v, ov, iv] (setItem ov iv v)
      release [v, ov, iv] []) := by intro _; rfl)
    (hs : swapsWithSole [.Subscript (.Name x px) b p] e pos.line X.env = pure false := by rfl) (hw : swappedStores [.Subscript (.Name x px) b p] e X.env = pure none := by rfl)
    (h1 : (assignEach [.Subscript (.Name x px) b p] X.env).map (·.2) = [assign (.Subscript (.Name x px) b p) X.env] := by rfl) : DS X (.Assign [.Subscript (.Name x px) b p] e pos) ρ P := fun E Z H σ S W => by
  obtain ⟨l, xs, e1, hl, zl, f1, f2, r⟩ := S.s.lookO hi
  refine ws_ps (ps_asg pe_we (pg_sub (pe_var hN hv hd hcd) pe_we set_list ha) hs hw h1) (he E Z H σ S _ fun v Z1 H1 g1 r1 => ⟨_, e1, hb E Z1 H1 σ (S.grow g1) _ fun u Z2 H2 g2 r2 => ?_⟩)
  cases r2
  have g := g1.trans g2
  have h2 : H2 l = some (.lst xs) := g.h _ _ hl fun _ z => nomatch z
  exact ⟨l, xs, k, j, rfl, rfl, h2, by rw [r.length]; exact hk, Z2, _, ⟨(S.grow g).s.wr hi e1 h2 ((r.mono g.z).set j (r1.mono g2.z)), S.t⟩, h⟩

/-! ### return, if, expressions -/
theorem ds_ret (he : DE X e ρ d) (h : P.rt d) : DS X (.Return (some e) pos) ρ P := fun E Z H σ S W => ws_ps (ps_ret pe_we) (he E Z H σ S _ fun v Z1 H1 g1 r1 => ⟨Z1, d, S.ret g1 r1, h⟩)
/-- a slot's own list is handed back -/
theorem ds_retO (i : Nat) (h : P.rt (.lst ds)) (hi : ρ[i]? = some (.own ds) := by rfl) (hN : X.N[i]? = some x := by rfl) (hv : Vis X.env.scope x := by first | exact Or.inl rfl | exact Or.inr (Or.inl rfl) | exact Or.inr (Or.inr rfl))
    (hd : (x == ("__debug__" : Str)) = false := by decide) (hcd : (x == ("__classdict__" : Str)) = false := by decide) : DS X (.Return (some (.Name x p)) pos) ρ P := fun E Z H σ S W => by
  obtain ⟨l, xs, e1, hl, zl, f1, f2, r⟩ := S.s.lookO hi
  have S' := S.freeze hi e1 hl
  exact ws_ps (ps_ret (pe_var hN hv hd hcd)) ⟨_, e1, _, _, S'.ret S'.same (.lst upd_same (r.mono (Ex.new zl))), h⟩
theorem ds_retN (h : P.rt .non) : DS X (.Return none pos) ρ P := fun E Z H σ S W => ws_ps ps_retN ⟨Z, .non, S.ret S.same .non, h⟩
theorem ds_if {k : Bool} (hc : DT X c ρ k) (h1 : k = true → DSs X body ρ P) (h2 : k = false → DSs X orelse ρ P) : DS X (.If c body orelse pos) ρ P := fun E Z H σ S W =>
  ws_ps (ps_if pt_wt pss_wss pss_wss) (hc E Z H σ S _ fun Z1 H1 g1 => by
    cases k with
    | true => exact iteT (h1 rfl E Z1 H1 σ (S.grow g1) W)
    | false => exact iteF (h2 rfl E Z1 H1 σ (S.grow g1) W))
theorem ds_expr (he : DE X e ρ d) (h : P.nx ρ) (hs : swapsWith e none pos.line X.env = pure false := by rfl) : DS X (.Expr e pos) ρ P := fun E Z H σ S W =>
  ws_ps (ps_expr pe_we hs) (he E Z H σ S _ fun v Z1 H1 g1 r1 => ⟨Z1, ρ, S.grow g1, h⟩)
theorem ds_pass (h : P.nx ρ) : DS X (.Pass pos) ρ P := fun E Z H σ S W => ws_ps ps_pass ⟨Z, ρ, S, h⟩
/-- a call that may raise, alone or handed back or stored -/
theorem callX {k : Nat} {R : List D → Res → Prop} {r : Res} {E : Cfg} {Z H : Hp} {σ : L2.St} {xn : Addr → Prop} (F : DefOk X.prog X.w X.K X.mg X.base x k R) (hr : Room k X.A) (ha : DA X (e :: es) ρ ds) (hR : R ds r) (S : St1 X.K E Z H σ ρ) (W : XW X E xn) (hx : ∀ C, r = .err C → xn C) {Q : VK} (q : ∀ d, r = .ok d → ∀ v Z' H', G X.K Z H Z' H' → Rep X.K Z' v d → Q v H') (hg : Gl X x := by rfl) (hdb : (x == ("__debug__" : Str)) = false := by decide)
    (he : starEach (e :: es) X.env = (false, eval e X.env) :: starEach es X.env := by rfl) (hpl : (backTo pos (starEach es X.env)).any (·.1) = false := by rfl) : WE X (.Call (.Name x p) (e :: es) [] pos) σ H Q := by
  obtain ⟨W, tk, w⟩ := W
  obtain ⟨f, fd, ps, F, hm, hk, hb⟩ := F
  let Ew : XK := fun cls d H' => ∃ C, cls = .ref C ∧ d = none ∧ xn C ∧ LamX.ExtN E.B0 H' ∧ LamX.ExtN E.B H' ∧ LamX.Tabs (tabs X.K) H'
  have hW : ∀ cls d σ H', Ew cls d H' → W cls d σ H' := fun cls d σ H' ⟨C, e1, e2, h1, h2, h3, h4⟩ => by subst e1 e2; exact w C σ H' h1 h2 h3 h4
  refine we_pe (pe_call (E := Ew) F hr hg hm hk hb .nil (passes_call tk hW) pa_wa hdb he hpl) (ha E Z H σ S _ fun vs Z1 H1 g1 r1 => ?_)
  show spR X.K R (vs ++ []) H1 Q Ew
  rw [List.append_nil]
  refine ⟨Z1, ds, r, hR, g1.zh, g1.nz S.s.nz, g1.tb, r1, fun d' e' v Z2 H2 g2 r2 => q d' e' v Z2 H2 (g1.trans g2) r2, fun C z H' h1 h2 => ⟨C, rfl, rfl, hx C z, ((S.grow g1).s.b0).trans h1, ((S.grow g1).s.bh).trans h1, h2⟩⟩
theorem ds_callX {k : Nat} {R : List D → Res → Prop} {r : Res} (F : DefOk X.prog X.w X.K X.mg X.base x k R) (hr : Room k X.A) (ha : DA X (e :: es) ρ ds) (hR : R ds r) (h : ∀ d, r = .ok d → P.nx ρ) (hx : ∀ C, r = .err C → P.xn C) (hg : Gl X x := by rfl) (hdb : (x == ("__debug__" : Str)) = false := by decide)
    (he : starEach (e :: es) X.env = (false, eval e X.env) :: starEach es X.env := by rfl) (hpl : (backTo pos (starEach es X.env)).any (·.1) = false := by rfl) {pos2 : Pos} (hs : swapsWith (.Call (.Name x p) (e :: es) [] pos) none pos2.line X.env = pure false := by rfl) : DS X (.Expr (.Call (.Name x p) (e :: es) [] pos) pos2) ρ P := fun E Z H σ S W =>
  ws_ps (ps_expr pe_we hs) (callX F hr ha hR S W hx (fun d e' v Z1 H1 g1 r1 => ⟨Z1, ρ, S.grow g1, h d e'⟩) hg hdb he hpl)
theorem ds_retX {k : Nat} {R : List D → Res → Prop} {r : Res} (F : DefOk X.prog X.w X.K X.mg X.base x k R) (hr : Room k X.A) (ha : DA X (e :: es) ρ ds) (hR : R ds r) (h : ∀ d, r = .ok d → P.rt d) (hx : ∀ C, r = .err C → P.xn C) (hg : Gl X x := by rfl) (hdb : (x == ("__debug__" : Str)) = false := by decide)
    (he : starEach (e :: es) X.env = (false, eval e X.env) :: starEach es X.env := by rfl) (hpl : (backTo pos (starEach es X.env)).any (·.1) = false := by rfl) {pos2 : Pos} : DS X (.Return (some (.Call (.Name x p) (e :: es) [] pos)) pos2) ρ P := fun E Z H σ S W =>
  ws_ps (ps_ret pe_we) (callX F hr ha hR S W hx (fun d e' v Z1 H1 g1 r1 => ⟨Z1, d, S.ret g1 r1, h d e'⟩) hg hdb he hpl)
/-- raise C('..'), an own class over ValueError -/
structure ExcOk (K : PySem.W.Frag) (mg : Str → Option Value) (x : Str) (C : Addr) : Prop where
  g : mg x = some (.ref C)
  x : PySem.W.excIn K C He.veBase "ValueError.__new__" = true
  k : PySem.W.keepIn K (.ref C) = true
  b : PySem.W.subIn K (.ref C) (.type "BaseException") = some true
  t : PySem.W.typeIn K (.ref C) = some (.type "type")
theorem ds_raise {C : Addr} {m : Str} {j : Nat} {p2 pos2 : Pos} (c : ExcOk X.K X.mg x C) (h : P.xn C) (hc : X.calm = true := by rfl) (hg : Gl X x := by rfl) (hdb : (x == ("__debug__" : Str)) = false := by decide) : DS X (.Raise (some (.Call (.Name x p) [.Constant (.str m) j p2] [] pos)) none pos2) ρ P := fun E Z H σ S W => by
  obtain ⟨W, tk, w⟩ := W
  exact ws_ps (ps_raise hc tk (pmk_own PySem.F.excBase_ValueError c.x c.g c.k (raises_own c.b c.t) hg hdb)) (w C σ H h S.s.b0 S.s.bh (by rw [← S.t]; exact S.s.tb))

/-! ### loops -/
theorem ds_for {α : Type} (xs : List α) (c : α → D) (js : List Nat) (sp : α → List D) (hp : PassesOwn (model X.prog X.w) X.A X.env X.xe) (hi : DI X tg iter ρ (xs.map c)) (hg : ∀ x ∈ xs, DG X tg js (c x) (sp x)) (I : Nat → List Sl → Prop) (h0 : I 0 ρ)
    (hs : ∀ i x ρ', xs[i]? = some x → I i ρ' → DSs X body (setD ρ' js (sp x)) { nx := I (i + 1), ct := I (i + 1), bk := P.nx, rt := P.rt, xn := P.xn }) (hd : ∀ ρ', I xs.length ρ' → P.nx ρ')
    (hc : X.calm = true := by rfl) (hf : ∀ x, foldedSetIterable iter X.env x = pure x := by intro _; rfl) : DS X (.For tg iter body [] pos) ρ P := fun E Z H σ S W =>
  ws_ps (ps_for hp hc pi_wi pg_wg pss_wss hf) (hi E Z H σ S _ fun J Gd Y Z1 H1 g1 w1 => by
    have wl : (xs.map c).length = xs.length := List.length_map ..
    refine for_it w1.w (fun i σ' H' => ∃ Z' ρ', Ex Z1 Z' ∧ St1 X.K E Z' H' σ' ρ' ∧ I i ρ') ⟨Z1, ρ, Ex.refl _, S.grow g1, h0⟩ (fun i σ' H' _ ⟨Z', ρ', z', S', _⟩ => w1.g Z' H' z' S'.zh) ?_ ?_
    · rintro i x σ' H' H2 hlt ⟨Z', ρ', z', S', hI⟩ y
      rw [wl] at hlt
      have hx : xs[i]? = some xs[i] := List.getElem?_eq_getElem hlt
      obtain ⟨Z2, g2, r2⟩ := w1.y i (c xs[i]) H' x H2 Z' (by rw [List.getElem?_map, hx]; rfl) z' S'.zh (by rw [← S'.t]; exact S'.s.tb) y
      refine hg xs[i] (List.getElem_mem hlt) Z2 H2 σ' x g2.zh r2 _ fun us ru => ?_
      let E' : Cfg := { E with Z0 := E.Z0 }
      have S3 := (S'.grow g2).puts (js := js) ru
      -- the zone's start is kept by a zone that has grown: run the body from a Cfg whose Z0 is what stands
      intro pins s I'
      have S4 : St1 X.K { E with Z0 := Z2, B0 := E.B0 } Z2 H2 (setS σ' js us) (setD ρ' js (sp xs[i])) := ⟨⟨S3.s.zh, S3.s.bh, S3.s.b0, S3.s.tb, fun a h => .inl h, Ex.refl _, S3.s.nz, S3.s.len, fun j s h => by
        have w := S3.s.at_ j s h
        cases s with
        | no => trivial
        | val d => exact w
        | raw v => exact w
        | own ds => exact w, S3.s.ap⟩, S3.t⟩
      have back : ∀ {Z5 H5 : Hp} {σ5 : L2.St} {ρ5 : List Sl}, St1 X.K { E with Z0 := Z2, B0 := E.B0 } Z5 H5 σ5 ρ5 → St1 X.K E Z5 H5 σ5 ρ5 := fun {Z5 H5 σ5 ρ5} S5 => ⟨⟨S5.s.zh, S5.s.bh, S5.s.b0, S5.s.tb, fun a h => by
        rcases S5.s.fr a h with q | q
        · exact S3.s.fr a q
        · exact .inr q, S3.s.z0.trans S5.s.z0, S5.s.nz, S5.s.len, fun j s h => by
        have w := S5.s.at_ j s h
        cases s with
        | no => trivial
        | val d => exact w
        | raw v => exact w
        | own ds => exact w, S5.s.ap⟩, S5.t⟩
      refine thn (hs i xs[i] ρ' hx hI { E with Z0 := Z2, B0 := E.B0 } Z2 H2 _ S4 W pins s I') fun f s1 q => ?_
      cases f with
      | next => obtain ⟨σ5, H5, I5, Z5, ρ5, S5, k⟩ := q; exact ⟨σ5, H5, I5, Z5, ρ5, z'.trans (g2.z.trans S5.s.z0), back S5, k⟩
      | cont => obtain ⟨σ5, H5, I5, Z5, ρ5, S5, k⟩ := q; exact ⟨σ5, H5, I5, Z5, ρ5, z'.trans (g2.z.trans S5.s.z0), back S5, k⟩
      | brk => obtain ⟨σ5, H5, I5, Z5, ρ5, S5, k⟩ := q; exact ⟨σ5, H5, I5, Z5, ρ5, back S5, k⟩
      | ret v =>
        obtain ⟨u, σ5, H5, I5, r5, Z5, d, R5, k⟩ := q
        exact ⟨u, σ5, H5, I5, r5, Z5, d, ⟨R5.r, R5.zh, S3.s.z0.trans R5.z0, R5.b0, R5.bh, R5.tb, fun a h => by
          rcases R5.fr a h with q | q
          · exact S3.s.fr a q
          · exact .inr q, R5.nz⟩, k⟩
    · rintro σ' H' ⟨Z', ρ', z', S', hI⟩
      rw [wl] at hI
      exact ⟨Z', ρ', S', hd ρ' hI⟩)
theorem ds_while (hp : PassesOwn (model X.prog X.w) X.A X.env X.xe) (I : Nat → List Sl → Prop) (m0 : Nat) (h0 : I m0 ρ) (hs : ∀ m ρ', I m ρ' → ∃ k, DT X c ρ' k ∧ (k = true → DSs X body ρ' { nx := fun ρ2 => ∃ m', m' < m ∧ I m' ρ2, ct := fun ρ2 => ∃ m', m' < m ∧ I m' ρ2, bk := P.nx, rt := P.rt, xn := P.xn }) ∧ (k = false → P.nx ρ')) : DS X (.While c body [] pos) ρ P := fun E Z H σ S W =>
  ws_ps (ps_while hp pt_wt pss_wss) ⟨fun m σ' H' => ∃ Z' ρ', St1 X.K E Z' H' σ' ρ' ∧ I m ρ', ⟨m0, Z, ρ, S, h0⟩, fun m σ' H' ⟨Z', ρ', S', hI⟩ => by
    obtain ⟨k, hk, h1, h2⟩ := hs m ρ' hI
    refine hk E Z' H' σ' S' _ fun Z1 H1 g1 => ?_
    cases k with
    | true =>
      refine iteT ⟨fun σ2 H2 => ∃ Z2 ρ2, St1 X.K E Z2 H2 σ2 ρ2 ∧ ∃ m', m' < m ∧ I m' ρ2, fun σ2 H2 ⟨Z2, ρ2, S2, m', lt, hI'⟩ => ⟨m', lt, Z2, ρ2, S2, hI'⟩, ?_⟩
      exact h1 rfl E Z1 H1 σ' (S'.grow g1) W
    | false => exact iteF ⟨Z1, ρ', S'.grow g1, h2 rfl⟩⟩
end
end DL
set_option maxHeartbeats 4000000
namespace DL
open PySem PySem.Spec PyProof.Rows L2

/-! ### a def, by its body -/
theorem wss_mono {X : Cx} {sts : List Stmt} {σ : L2.St} {H : Hp} {D D' : Ends} (h : WSs X sts D σ H) (h1 : ∀ σ H, D.nx σ H → D'.nx σ H) (h2 : ∀ v H, D.rt v H → D'.rt v H) (h3 : ∀ σ H, D.bk σ H → D'.bk σ H) (h4 : ∀ σ H, D.ct σ H → D'.ct σ H) : WSs X sts D' σ H := fun pins s I =>
  thn (h pins s I) fun f s1 q => by
    cases f with
    | next => obtain ⟨σ', H', I', k⟩ := q; exact ⟨σ', H', I', h1 _ _ k⟩
    | ret v => obtain ⟨u, σ', H', I', r, k⟩ := q; exact ⟨u, σ', H', I', r, h2 _ _ k⟩
    | brk => obtain ⟨σ', H', I', k⟩ := q; exact ⟨σ', H', I', h3 _ _ k⟩
    | cont => obtain ⟨σ', H', I', k⟩ := q; exact ⟨σ', H', I', h4 _ _ k⟩
/-- the slots at the entry -/
def sl0 (N : List Str) (ds : List D) : List Sl := ds.map .val ++ List.replicate (N.length - ds.length) .no
theorem repL_at {K : PySem.W.Frag} {Z : Hp} {vs : List V} {ds : List D} (r : RepL K Z vs ds) (N : List Str) (i : Nat) (s : Sl) (h : (sl0 N ds)[i]? = some s) (E : Cfg) (H : Hp) : SlOk K E Z H (L2.start N vs)[i]? s := by
  unfold sl0 at h
  unfold L2.start
  by_cases hi : i < ds.length
  · rw [List.getElem?_append_left (by simpa using hi), List.getElem?_map] at h
    obtain ⟨d, hd, e⟩ := Option.map_eq_some_iff.mp h
    subst e
    obtain ⟨v, hv, rv⟩ := r.get hd
    refine ⟨v, ?_, rv⟩
    rw [List.getElem?_append_left (by rw [List.length_map, r.length]; exact hi), List.getElem?_map, hv]; rfl
  · rw [List.getElem?_append_right (by simpa using hi)] at h
    have := List.eq_of_mem_replicate (List.mem_of_getElem? h)
    subst this
    trivial
theorem st1_start {K : PySem.W.Frag} {Z H : Hp} {vs : List V} {ds : List D} (N : List Str) (zh : Ex Z H) (nz : NoT Z) (tb : LamX.Tabs (tabs K) H) (r : RepL K Z vs ds) : St1 K ⟨tabs K, Z, H, H⟩ Z H (L2.start N vs) (sl0 N ds) :=
  ⟨⟨zh, LamX.ExtN.refl _, LamX.ExtN.refl _, tb, fun a h => .inl h, Ex.refl _, nz, by unfold L2.start sl0; simp [r.length], fun i s h => repL_at r N i s h _ _, fun i j ds' es l _ h1 _ _ => by
    unfold sl0 at h1
    rcases List.mem_append.mp (List.mem_of_getElem? h1) with q | q
    · obtain ⟨d, _, e⟩ := List.mem_map.mp q
      cases e
    · exact absurd (List.eq_of_mem_replicate q) (by intro z; cases z)⟩, rfl⟩
section
variable {P : Program} {w : World} {K : PySem.W.Frag} {mg : Str → Option Value} {base : Heap} {x m qual : Str} {st : Stmt} {f : Addr} {fd : FuncData} {N ps : List Str} {k : Nat}
abbrev cX (P : Program) (w : World) (K : PySem.W.Frag) (mg : Str → Option Value) (base : Heap) (N : List Str) (qual : Str) (st : Stmt) (f : Addr) (cdv : Value) (A : Around) (outer : List Env) (s : Shared) (H : Hp) (E : XK) : Cx := cxOf (L2.CX P w) P w K mg base N qual (defScope st) f cdv A outer s H E
theorem fn_ok {R : List D → Res → Prop} (F : FunD K x qual (defArgs st) (defBody st) (defScope st) [] [] f fd) (S : FnScope N ps (defScope st)) (len : ∀ ds r, R ds r → ds.length = ps.length)
    (hbody : ∀ (cdv : Value) (A : Around) (outer : List Env) (s : Shared) (H : Hp) (E : XK), Room k (A.deeper (envOfC qual (defScope st) s.heap.objs.size f cdv)) → ∀ ds r, R ds r →
      DSs (cX P w K mg base N qual st f cdv A outer s H E) (defBody st) (sl0 N ds) { nx := fun _ => r = .ok .non, rt := fun d => r = .ok d, xn := fun C => r = .err C }) : FnOk P w K mg base (L2.CX P w) (k + 1) f fd ps (spR K R) := by
  refine F.ok S (fun vs H Q E ⟨Z, ds, r, hR, _, _, _, rl, _⟩ => by rw [rl.length]; exact len ds r hR) fun cdv A outer s H vs Q E hr hsp => ⟨_, pss_wss, ?_⟩
  obtain ⟨Z, ds, r, hR, zh, nz, tb, rl, hok, herr⟩ := hsp
  have h := hbody cdv A outer s H E hr ds r hR ⟨tabs K, Z, H, H⟩ Z H _ (st1_start N zh nz tb rl) ⟨fun cls d _ H' => E cls d H', takes_of rfl rfl rfl rfl, fun C σ H' e h1 _ h3 => herr C e H' h1 h3⟩
  refine wss_mono h ?_ ?_ (fun _ _ z => by obtain ⟨_, _, _, z⟩ := z; exact z.elim) (fun _ _ z => by obtain ⟨_, _, _, z⟩ := z; exact z.elim)
  · rintro σ' H' ⟨Z', ρ', S', e⟩
    exact hok _ e .non Z' H' ⟨S'.s.z0, S'.s.b0, S'.s.zh, by have := S'.s.tb; rw [S'.t] at this; exact this, S'.s.fr, fun _ => S'.s.nz⟩ .non
  · rintro v H' ⟨Z', d, R', e⟩
    exact hok _ e v Z' H' ⟨R'.z0, R'.b0, R'.zh, R'.tb, R'.fr, fun _ => R'.nz⟩ R'.r
theorem def_ok {R : List D → Res → Prop} (F : FunD K x x (defArgs st) (defBody st) (defScope st) [] [] f fd) (hm : mg x = some (.ref f)) (S : FnScope N ps (defScope st)) (len : ∀ ds r, R ds r → ds.length = ps.length)
    (hb : ∀ (kV doc pm : Value) (an : Option Addr) (cdv ct : Value) (us : List Value), us.length = ps.length → bindArgs (PySem.W.fnOf x x (defArgs st) (defBody st) (defScope st) .none kV doc pm an cdv ct) ⟨us, []⟩ = pure (ps.zip us))
    (hbody : ∀ (cdv : Value) (A : Around) (outer : List Env) (s : Shared) (H : Hp) (E : XK), Room k (A.deeper (envOfC x (defScope st) s.heap.objs.size f cdv)) → ∀ ds r, R ds r →
      DSs (cX P w K mg base N x st f cdv A outer s H E) (defBody st) (sl0 N ds) { nx := fun _ => r = .ok .non, rt := fun d => r = .ok d, xn := fun C => r = .err C }) : DefOk P w K mg base x (k + 1) R :=
  ⟨f, fd, ps, fn_ok F S len hbody, hm, F.kp, F.bindsN hb⟩
end
end DL
set_option maxHeartbeats 4000000
/-! What sleeps is not touched by a run that does not wake it. -/
namespace GL
open PySem PySem.Spec PyProof.Rows L2
open Sem (wp)

def zz : Resume → Sem PySem.Fin := fun _ => .unsupported "asleep"
theorem runs_unsup {M : Model} {Γ : PySem.Ctx} {p : Pos} {t : Sem PySem.Fin} {fs : List Frame} {s s' : Shared} {e : End} (h : Runs M Γ p t fs s e s') : ∀ what, t ≠ .unsupported what := by
  induction h <;> (intro what e; first | (rename_i ih _; exact ih _ e) | (rename_i ih _ _; exact ih _ e) | (rename_i ih; exact ih _ e) | cases e)
/-- the state as it was of a generator that slept in o, else x -/
def pick (o : Option GenState) (x : GenState) : GenState := match o with
  | some (.suspended k l c p fs cl) => .suspended k l c p fs cl
  | _ => x
def ov (orig : Array GenState) (gens : Array GenState) : Array GenState := gens.mapIdx fun i x => pick orig[i]? x
def ovS (orig : Array GenState) (s : Shared) : Shared := { s with gens := ov orig s.gens }
structure Pz (orig : Array GenState) (s : Shared) : Prop where
  sz : orig.size ≤ s.gens.size
  zz : ∀ (i : Nat) k l c p fs cl, orig[i]? = some (.suspended k l c p fs cl) → s.gens[i]? = some (.suspended zz l c p fs cl)
  gf : ∀ (i : Nat) k l c p fs cl, s.gens[i]? = some (.suspended k l c p fs cl) → (∃ k' l' c' p' fs' cl', orig[i]? = some (.suspended k' l' c' p' fs' cl')) ∨ splitAtGen fs = none
def asleep (o : Option GenState) : Bool := match o with
  | some (.suspended ..) => true
  | _ => false
theorem pick_no {o : Option GenState} {x : GenState} (h : asleep o = false) : pick o x = x := by
  unfold pick
  split
  · cases h
  · rfl
theorem ov_get {orig gens : Array GenState} {i : Nat} : (ov orig gens)[i]? = gens[i]?.map (pick orig[i]?) := by
  unfold ov
  rw [Array.getElem?_mapIdx]
theorem ov_size {orig gens : Array GenState} : (ov orig gens).size = gens.size := by unfold ov; simp
theorem ov_set {orig gens : Array GenState} {g : Nat} {x : GenState} (h : asleep orig[g]? = false) : ov orig (gens.setIfInBounds g x) = (ov orig gens).setIfInBounds g x := by
  apply Array.ext_getElem?
  intro i
  rw [ov_get, Array.getElem?_setIfInBounds, Array.getElem?_setIfInBounds, ov_get, ov_size]
  by_cases e : g = i
  · subst e
    simp only [if_true]
    split
    · simp [pick_no h]
    · simp
  · simp [e]
theorem ov_push {orig gens : Array GenState} {x : GenState} (h : orig.size ≤ gens.size) : ov orig (gens.push x) = (ov orig gens).push x := by
  apply Array.ext_getElem?
  intro i
  rw [ov_get, Array.getElem?_push, Array.getElem?_push, ov_get, ov_size]
  split
  · rename_i e
    subst e
    have : orig[gens.size]? = none := Array.getElem?_eq_none h
    rw [this]; rfl
  · rfl
theorem ovS_setGen {orig : Array GenState} {s : Shared} {g : Nat} {x : GenState} (h : asleep orig[g]? = false) : ovS orig (s.setGen g x) = (ovS orig s).setGen g x := by
  unfold ovS Shared.setGen
  simp only [ov_set h]
theorem Pz.none_of {orig : Array GenState} {s : Shared} (z : Pz orig s) {g : Nat} {x : GenState} (h : s.gens[g]? = some x) (hx : ∀ l c p fs cl, x ≠ .suspended GL.zz l c p fs cl) : asleep orig[g]? = false := by
  cases e : orig[g]? with
  | none => rfl
  | some o =>
    cases o with
    | suspended k l c p fs cl =>
      have := z.zz g k l c p fs cl e
      rw [h] at this
      cases this
      exact absurd rfl (hx _ _ _ _ _)
    | _ => rfl
theorem Pz.set {orig : Array GenState} {s : Shared} (z : Pz orig s) {g : Nat} {x : GenState} (h : asleep orig[g]? = false) (hx : ∀ k l c p fs cl, x = .suspended k l c p fs cl → splitAtGen fs = none) : Pz orig (s.setGen g x) where
  sz := by unfold Shared.setGen; simpa using z.sz
  zz := fun i k l c p fs cl e => by
    have ne : g ≠ i := fun q => by subst q; rw [e] at h; cases h
    show (s.gens.setIfInBounds g x)[i]? = _
    rw [Array.getElem?_setIfInBounds_ne ne]
    exact z.zz i k l c p fs cl e
  gf := fun i k l c p fs cl e => by
    by_cases ne : g = i
    · subst ne
      have e' : (s.gens.setIfInBounds g x)[g]? = some (.suspended k l c p fs cl) := e
      rw [Array.getElem?_setIfInBounds] at e'
      simp only [if_true] at e'
      split at e'
      · cases e'
        exact .inr (hx _ _ _ _ _ _ rfl)
      · cases e'
    · have e' : (s.gens.setIfInBounds g x)[i]? = some (.suspended k l c p fs cl) := e
      rw [Array.getElem?_setIfInBounds_ne ne] at e'
      exact z.gf i k l c p fs cl e'
theorem Pz.push {orig : Array GenState} {s : Shared} (z : Pz orig s) {c : Code} : Pz orig { s with gens := s.gens.push (.fresh c) } where
  sz := by show orig.size ≤ (s.gens.push _).size; rw [Array.size_push]; exact Nat.le_succ_of_le z.sz
  zz := fun i k l c' p fs cl e => by
    have hi : i < orig.size := (Array.getElem?_eq_some_iff.mp e).1
    show (s.gens.push _)[i]? = _
    rw [Array.getElem?_push, if_neg (by have := z.sz; omega)]
    exact z.zz i k l c' p fs cl e
  gf := fun i k l c' p fs cl e => by
    have e' : (s.gens.push (.fresh c))[i]? = some (.suspended k l c' p fs cl) := e
    rw [Array.getElem?_push] at e'
    split at e'
    · cases e'
    · exact z.gf i k l c' p fs cl e'
theorem Pz.same {orig : Array GenState} {s s' : Shared} (z : Pz orig s) (h : s'.gens = s.gens) : Pz orig s' := ⟨by rw [h]; exact z.sz, by rw [h]; exact z.zz, by rw [h]; exact z.gf⟩
/-- no generator's mark among the frames of what is suspended -/
def Gf : End → Prop
  | .susp _ _ _ _ _ _ fs => splitAtGen fs = none
  | .ret _ => True
theorem gf_state {e : End} (h : Gf e) : ∀ k l c p fs cl, e.genState = .suspended k l c p fs cl → splitAtGen fs = none := fun k l c p fs cl q => by
  cases e with
  | ret r => cases q
  | susp v g l' k' c' p' fs' => cases q; exact h
theorem split_app {fs gs : List Frame} (h1 : splitAtGen fs = none) (h2 : splitAtGen gs = none) : splitAtGen (fs ++ gs) = none := by
  induction fs with
  | nil => exact h2
  | cons f fs ih =>
    cases f with
    | gen g k l c p => cases h1
    | ret k h g l c p kp =>
      have h1' : (splitAtGen fs).map (fun x => (Frame.ret k h g l c p kp :: x.1, x.2.1, x.2.2)) = none := h1
      have e1 : splitAtGen fs = none := by simpa using h1'
      show (splitAtGen (fs ++ gs)).map _ = none
      rw [ih e1]; rfl
theorem split_ret {k h g l c p kp} {fs : List Frame} (h1 : splitAtGen (Frame.ret k h g l c p kp :: fs) = none) : splitAtGen fs = none := by
  have h1' : (splitAtGen fs).map (fun x => (Frame.ret k h g l c p kp :: x.1, x.2.1, x.2.2)) = none := h1
  simpa using h1'
theorem genSt_seen {orig : Array GenState} {s : Shared} (z : Pz orig s) {g : Nat} {st : GenState} (h : s.gens[g]? = some st) : ∃ st', (ovS orig s).gens[g]? = some st' ∧ st'.seen = st.seen := by
  refine ⟨pick orig[g]? st, ?_, ?_⟩
  · show (ov orig s.gens)[g]? = _
    rw [ov_get, h]; rfl
  · unfold pick
    split
    · rename_i k l c p fs cl e
      have := z.zz g _ _ _ _ _ _ e
      rw [h] at this
      cases this
      rfl
    · rfl
theorem get_no {orig : Array GenState} {s : Shared} {g : Nat} {st : GenState} (h : s.gens[g]? = some st) (ha : asleep orig[g]? = false) : (ovS orig s).gens[g]? = some st := by
  show (ov orig s.gens)[g]? = _
  rw [ov_get, h]
  simp [pick_no ha]
theorem runs_pz {M : Model} {orig : Array GenState} {Γ : PySem.Ctx} {p : Pos} {t : Sem PySem.Fin} {fs : List Frame} {s s' : Shared} {e : End} (h : Runs M Γ p t fs s e s') :
    splitAtGen fs = none → Pz orig s → Pz orig s' ∧ Gf e ∧ Runs M Γ p t fs (ovS orig s) e (ovS orig s') := by
  induction h with
  | done => exact fun _ z => ⟨z, trivial, .done⟩
  | raise => exact fun _ z => ⟨z, trivial, .raise⟩
  | again hq _ ih => exact fun hf z => let ⟨a, b, c⟩ := ih hf z; ⟨a, b, .again hq c⟩
  | rule _ ih => exact fun hf z => let ⟨a, b, c⟩ := ih hf z; ⟨a, b, .rule c⟩
  | «at» _ ih => exact fun hf z => let ⟨a, b, c⟩ := ih hf z; ⟨a, b, .at c⟩
  | load ho _ ih => exact fun hf z => let ⟨a, b, c⟩ := ih hf z; ⟨a, b, .load ho c⟩
  | update ho _ ih => exact fun hf z => let ⟨a, b, c⟩ := ih hf (z.same rfl); ⟨a, b, .update ho c⟩
  | loadIfAlive _ ih => exact fun hf z => let ⟨a, b, c⟩ := ih hf z; ⟨a, b, .loadIfAlive c⟩
  | point _ ih => exact fun hf z => let ⟨a, b, c⟩ := ih hf z; ⟨a, b, .point c⟩
  | alloc _ ih => exact fun hf z => let ⟨a, b, c⟩ := ih hf (z.same rfl); ⟨a, b, .alloc c⟩
  | fresh _ ih => exact fun hf z => let ⟨a, b, c⟩ := ih hf (z.same rfl); ⟨a, b, .fresh c⟩
  | ask _ ih => exact fun hf z => let ⟨a, b, c⟩ := ih hf z; ⟨a, b, .ask c⟩
  | choose hn _ ih => exact fun hf z => let ⟨a, b, c⟩ := ih hf (z.same rfl); ⟨a, b, .choose hn c⟩
  | os _ ih => exact fun hf z => let ⟨a, b, c⟩ := ih hf (z.same rfl); ⟨a, b, .os c⟩
  | handled _ ih => exact fun hf z => let ⟨a, b, c⟩ := ih hf z; ⟨a, b, .handled c⟩
  | genState hg _ ih =>
    intro hf z
    obtain ⟨a, b, c⟩ := ih hf z
    obtain ⟨st', h1, h2⟩ := genSt_seen z hg
    exact ⟨a, b, .genState h1 (by rw [h2]; exact c)⟩
  | stack _ ih => exact fun hf z => let ⟨a, b, c⟩ := ih hf z; ⟨a, b, .stack c⟩
  | thread _ ih => exact fun hf z => let ⟨a, b, c⟩ := ih hf z; ⟨a, b, .thread c⟩
  | @newGen Γ p k s e s' c hr ih =>
    intro hf z
    obtain ⟨a, b, c1⟩ := ih hf z.push
    refine ⟨a, b, .newGen ?_⟩
    have e1 : (ovS orig s).gens.size = s.gens.size := ov_size
    rw [e1]
    have e2 := ov_push (x := .fresh c) z.sz
    unfold ovS at c1 ⊢
    simp only at c1 ⊢
    rw [← e2]
    exact c1
  | call _ _ ih1 ih2 =>
    intro hf z
    obtain ⟨a, b, c⟩ := ih1 rfl z
    obtain ⟨a2, b2, c2⟩ := ih2 hf a
    exact ⟨a2, b2, .call c c2⟩
  | callSusp _ ih =>
    intro hf z
    obtain ⟨a, b, c⟩ := ih rfl z
    exact ⟨a, split_app b rfl, .callSusp c⟩
  | yield => exact fun _ z => ⟨z, rfl, .yield⟩
  | resumeFresh hg _ hq _ ih1 ih2 =>
    intro hf z
    have ha := z.none_of hg (fun _ _ _ _ _ q => nomatch q)
    obtain ⟨a, b, c⟩ := ih1 rfl (z.set ha (fun _ _ _ _ _ _ q => nomatch q))
    obtain ⟨a2, b2, c2⟩ := ih2 hf (a.set ha (gf_state b))
    rw [ovS_setGen ha] at c c2
    exact ⟨a2, b2, .resumeFresh (get_no hg ha) c hq c2⟩
  | resumeSuspended hg hr hq _ ih1 ih2 =>
    intro hf z
    have ha := z.none_of hg (fun l c p fs cl q => by
      cases q
      exact runs_unsup hr "asleep" rfl)
    have gf := (z.gf _ _ _ _ _ _ _ hg).resolve_left (fun ⟨_, _, _, _, _, _, q⟩ => by rw [q] at ha; cases ha)
    obtain ⟨a, b, c⟩ := ih1 gf (z.set ha (fun _ _ _ _ _ _ q => nomatch q))
    obtain ⟨a2, b2, c2⟩ := ih2 hf (a.set ha (gf_state b))
    rw [ovS_setGen ha] at c c2
    exact ⟨a2, b2, .resumeSuspended (get_no hg ha) c hq c2⟩
  | resumeJustStarted hg hv _ ih =>
    intro hf z
    have ha := z.none_of hg (fun _ _ _ _ _ q => nomatch q)
    obtain ⟨a, b, c⟩ := ih hf z
    exact ⟨a, b, .resumeJustStarted (get_no hg ha) hv c⟩
  | resumeThrowFresh hg _ ih =>
    intro hf z
    have ha := z.none_of hg (fun _ _ _ _ _ q => nomatch q)
    obtain ⟨a, b, c⟩ := ih hf (z.set ha (fun _ _ _ _ _ _ q => nomatch q))
    rw [ovS_setGen ha] at c
    exact ⟨a, b, .resumeThrowFresh (get_no hg ha) c⟩
  | resumeRunning hg _ ih =>
    intro hf z
    have ha := z.none_of hg (fun _ _ _ _ _ q => nomatch q)
    obtain ⟨a, b, c⟩ := ih hf z
    exact ⟨a, b, .resumeRunning (get_no hg ha) c⟩
  | resumeFinished hg _ ih =>
    intro hf z
    have ha := z.none_of hg (fun _ _ _ _ _ q => nomatch q)
    obtain ⟨a, b, c⟩ := ih hf z
    exact ⟨a, b, .resumeFinished (get_no hg ha) c⟩
  | segRet _ _ ih1 ih2 =>
    intro hf z
    obtain ⟨a, b, c⟩ := ih1 rfl z
    obtain ⟨a2, b2, c2⟩ := ih2 (split_ret hf) a
    exact ⟨a2, b2, .segRet c c2⟩
  | segGen _ _ ih1 ih2 => exact fun hf _ => nomatch hf
  | segSuspOut hs _ ih =>
    intro hf z
    obtain ⟨a, b, c⟩ := ih rfl z
    exact ⟨a, split_app b hf, .segSuspOut hs c⟩
  | segSuspGen hs _ _ _ ih1 ih2 => exact fun hf _ => by rw [hs] at hf; cases hf
end GL
set_option maxHeartbeats 4000000
/-! .. at the level of weakest preconditions. -/
namespace GL
open PySem PySem.Spec PyProof.Rows L2
open Sem (wp)
theorem wakes_pz {M : Model} {orig : Array GenState} {Γ : PySem.Ctx} {p : Pos} {g : Nat} {r : Resume} {s s' : Shared} {res : GenResult} (z : Pz orig s) (h : Wakes M Γ p g r s res s') :
    Pz orig s' ∧ Wakes M Γ p g r (ovS orig s) res (ovS orig s') := by
  unfold Wakes at h
  split at h
  · exact h.elim
  · rename_i c hg
    have ha := z.none_of hg (fun _ _ _ _ _ q => nomatch q)
    have hg' := get_no hg ha
    split at h
    · obtain ⟨e1, s1, hr, hq, rfl, rfl⟩ := h
      obtain ⟨a, b, c1⟩ := runs_pz hr rfl (z.set ha (fun _ _ _ _ _ _ q => nomatch q))
      refine ⟨a.set ha (gf_state b), ?_⟩
      unfold Wakes
      rw [hg']
      rw [ovS_setGen ha] at c1
      exact ⟨e1, _, c1, hq, rfl, ovS_setGen ha⟩
    · obtain ⟨rfl, rfl⟩ := h
      refine ⟨z, ?_⟩
      unfold Wakes
      rw [hg']
      rename_i v hv
      dsimp only
      cases v <;> first | exact absurd rfl hv | exact ⟨rfl, rfl⟩
    · obtain ⟨rfl, rfl⟩ := h
      refine ⟨z.set ha (fun _ _ _ _ _ _ q => nomatch q), ?_⟩
      unfold Wakes
      rw [hg']
      exact ⟨rfl, ovS_setGen ha⟩
  · rename_i k l c pp fs cl hg
    obtain ⟨e1, s1, hr, hq, rfl, rfl⟩ := h
    have ha := z.none_of hg (fun l c p fs cl q => by
      cases q
      exact runs_unsup hr "asleep" rfl)
    have gf := (z.gf _ _ _ _ _ _ _ hg).resolve_left (fun ⟨_, _, _, _, _, _, q⟩ => by rw [q] at ha; cases ha)
    obtain ⟨a, b, c1⟩ := runs_pz hr gf (z.set ha (fun _ _ _ _ _ _ q => nomatch q))
    refine ⟨a.set ha (gf_state b), ?_⟩
    unfold Wakes
    rw [get_no hg ha]
    rw [ovS_setGen ha] at c1
    exact ⟨e1, _, c1, hq, rfl, ovS_setGen ha⟩
  · rename_i hg
    obtain ⟨rfl, rfl⟩ := h
    refine ⟨z, ?_⟩
    unfold Wakes
    rw [get_no hg (z.none_of hg (fun _ _ _ _ _ q => nomatch q))]
    exact ⟨rfl, rfl⟩
  · rename_i hg
    obtain ⟨rfl, rfl⟩ := h
    refine ⟨z, ?_⟩
    unfold Wakes
    rw [get_no hg (z.none_of hg (fun _ _ _ _ _ q => nomatch q))]
    exact ⟨rfl, rfl⟩
/-- a run at the state where they are poisoned is a run at the state where they sleep -/
def Back (orig : Array GenState) (s1 s' : Shared) : Prop := Pz orig s1 ∧ s' = ovS orig s1
theorem wp_pz {α : Type} (M : Model) (Γ : PySem.Ctx) (orig : Array GenState) (t : Sem α) : ∀ (Q : α → Pos → Shared → Prop) (E : Value → Pos → Shared → Prop) (p : Pos) (s : Shared), Pz orig s → wp M Γ t Q E p s →
    wp M Γ t (fun a p' s' => ∃ s1, Back orig s1 s' ∧ Q a p' s1) (fun e p' s' => ∃ s1, Back orig s1 s' ∧ E e p' s1) p (ovS orig s) := by
  induction t with
  | pure a => exact fun Q E p s z h => ⟨s, ⟨z, rfl⟩, h⟩
  | raise e => exact fun Q E p s z h => ⟨s, ⟨z, rfl⟩, h⟩
  | unsupported _ => exact fun Q E p s _ h => h
  | finish _ => exact fun Q E p s _ h => h
  | rule _ k ih => exact fun Q E p s z h => ih () Q E p s z h
  | «at» p' k ih => exact fun Q E p s z h => ih () Q E p' s z h
  | load a _ k ih => exact fun Q E p s z ⟨o, ho, h⟩ => ⟨o, ho, ih o Q E p s z h⟩
  | update a _ f k ih => exact fun Q E p s z h => ⟨h.1, ih () Q E p { s with heap := s.heap.update a f } (z.same rfl) h.2⟩
  | loadIfAlive a k ih => exact fun Q E p s z h => ih _ Q E p s z h
  | point _ k ih => exact fun Q E p s z h => ih () Q E p s z h
  | register _ _ => exact fun Q E p s _ h => h
  | alloc o k ih => exact fun Q E p s z h => ih _ Q E p { s with heap := s.heap.push o } (z.same rfl) h
  | fresh k ih => exact fun Q E p s z h => ih _ Q E p { s with toks := s.toks + 1 } (z.same rfl) h
  | ask k ih => exact fun Q E p s z h => ih _ Q E p s z h
  | choose src m k ih => exact fun Q E p s z h => ⟨h.1, ih _ Q E p { s with drawn := s.drawn.bump src } (z.same rfl) h.2⟩
  | os q _ k ih => exact fun Q E p s z h => ih _ Q E p { s with os := (Os.step s.os q).1 } (z.same rfl) h
  | call c hd _ _ k ih =>
    intro Q E p s z h
    obtain ⟨r, s', hr, h⟩ := h
    obtain ⟨a, _, c1⟩ := runs_pz hr rfl z
    exact ⟨r, _, c1, ih r Q E p s' a h⟩
  | handled own k ih => exact fun Q E p s z h => ih _ Q E p s z h
  | genState g k ih =>
    intro Q E p s z h
    obtain ⟨st, hs, h⟩ := h
    obtain ⟨st', h1, h2⟩ := genSt_seen z hs
    exact ⟨st', h1, by rw [h2]; exact ih _ Q E p s z h⟩
  | newGen c k ih =>
    intro Q E p s z h
    have e1 : (ovS orig s).gens.size = s.gens.size := ov_size
    have c1 := ih _ Q E p _ z.push h
    have e2 := ov_push (x := .fresh c) z.sz
    unfold ovS at c1
    simp only at c1
    rw [e2] at c1
    show wp M Γ (k (ovS orig s).gens.size) _ _ p _
    rw [e1]
    exact c1
  | resume g r _ k ih =>
    intro Q E p s z h
    obtain ⟨res, s', hw, h⟩ := h
    obtain ⟨a, c1⟩ := wakes_pz z hw
    exact ⟨res, _, c1, ih res Q E p s' a h⟩
  | yield _ _ _ _ => exact fun Q E p s _ h => h
  | stack k ih => exact fun Q E p s z h => ih _ Q E p s z h
  | fork _ _ => exact fun Q E p s _ h => h
  | thread k ih => exact fun Q E p s z h => ih _ Q E p s z h
  | await _ _ _ _ _ => exact fun Q E p s _ h => h

/-- the poisoned state -/
def pois (x : GenState) : GenState := match x with
  | .suspended _ l c p fs cl => .suspended zz l c p fs cl
  | x => x
def poS (s : Shared) : Shared := { s with gens := s.gens.map pois }
theorem poS_pz (s : Shared) : Pz s.gens (poS s) where
  sz := by show s.gens.size ≤ (s.gens.map pois).size; simp
  zz := fun i k l c p fs cl h => by
    show (s.gens.map pois)[i]? = _
    rw [Array.getElem?_map, h]; rfl
  gf := fun i k l c p fs cl h => by
    have h' : (s.gens.map pois)[i]? = some (.suspended k l c p fs cl) := h
    rw [Array.getElem?_map] at h'
    cases e : s.gens[i]? with
    | none => rw [e] at h'; cases h'
    | some x =>
      rw [e] at h'
      cases x with
      | suspended k' l' c' p' fs' cl' => exact .inl ⟨_, _, _, _, _, _, rfl⟩
      | _ => cases h'
theorem ovS_poS (s : Shared) : ovS s.gens (poS s) = s := by
  have : ov s.gens (s.gens.map pois) = s.gens := by
    apply Array.ext_getElem?
    intro i
    rw [ov_get, Array.getElem?_map]
    cases e : s.gens[i]? with
    | none => rfl
    | some x => cases x <;> rfl
  unfold ovS poS
  simp only [this]
theorem wpAny_sleep {α : Type} {M : Model} {A : Around} {s : Shared} {t : Sem α} {Q : α → Shared → Prop} {E : Value → Shared → Prop} (h : wpAny M A t Q E (poS s)) :
    wpAny M A t (fun a s' => ∃ s1, Back s.gens s1 s' ∧ Q a s1) (fun e s' => ∃ s1, Back s.gens s1 s' ∧ E e s1) s := fun Γ p hΓ => by
  have := wp_pz M Γ s.gens t _ _ p (poS s) (poS_pz s) (h Γ p hΓ)
  rw [ovS_poS] at this
  exact this
/-- what slept is as it was -/
theorem Back.kept {s s1 s' : Shared} (b : Back s.gens s1 s') {i : Nat} {k l c p fs cl} (h : s.gens[i]? = some (.suspended k l c p fs cl)) : s'.gens[i]? = some (.suspended k l c p fs cl) := by
  obtain ⟨z, rfl⟩ := b
  show (ov s.gens s1.gens)[i]? = _
  rw [ov_get, z.zz i _ _ _ _ _ _ h, h]
  rfl
theorem Back.heap {orig : Array GenState} {s1 s' : Shared} (b : Back orig s1 s') : s'.heap = s1.heap := by rw [b.2]; rfl
theorem Back.os {orig : Array GenState} {s1 s' : Shared} (b : Back orig s1 s') : s'.os = s1.os := by rw [b.2]; rfl
theorem Back.bare {orig : Array GenState} {s1 s' : Shared} (b : Back orig s1 s') (h0 : AllBare orig) (h : AllBare s1.gens) : AllBare s'.gens := by
  obtain ⟨z, rfl⟩ := b
  intro x hx
  obtain ⟨i, hi, rfl⟩ := Array.mem_iff_getElem.mp hx
  have e : (ov orig s1.gens)[i]? = some ((ovS orig s1).gens[i]) := Array.getElem?_eq_getElem hi
  rw [ov_get] at e
  cases q : s1.gens[i]? with
  | none => rw [q] at e; cases e
  | some y =>
    rw [q] at e
    have e' : pick orig[i]? y = (ovS orig s1).gens[i] := Option.some.inj e
    rw [← e']
    unfold pick
    split
    · rename_i k l c p fs cl w
      exact h0 _ (Array.mem_of_getElem? w)
    · exact h y (Array.mem_of_getElem? q)
theorem poS_bare {s : Shared} (h : AllBare s.gens) : AllBare (poS s).gens := fun x hx => by
  obtain ⟨y, hy, rfl⟩ := Array.mem_map.mp hx
  have := h y hy
  cases y <;> exact this
/-! ### the invariant -/
theorem inv_gens {X : Cx} {pins : List (Addr × Obj)} {σ : L2.St} {H : Hp} {s s' : Shared} (I : Inv X pins σ H s) (h1 : s'.heap = s.heap) (h2 : s'.os = s.os) (h3 : AllBare s'.gens) : Inv X pins σ H s' :=
  ⟨I.ok, h2.trans I.os, h3, by rw [h1]; exact I.base, by rw [h1]; exact I.loc, by rw [h1]; exact I.cell, I.free, I.freeC, by rw [h1]; exact I.pin, by rw [h1]; exact I.hok, I.len⟩
theorem inv_po {X : Cx} {pins : List (Addr × Obj)} {σ : L2.St} {H : Hp} {s : Shared} (I : Inv X pins σ H s) : Inv X pins σ H (poS s) := inv_gens I rfl rfl (poS_bare I.bare)
theorem inv_back {X : Cx} {pins : List (Addr × Obj)} {σ : L2.St} {H : Hp} {orig : Array GenState} {s1 s' : Shared} (I : Inv X pins σ H s1) (h0 : AllBare orig) (b : Back orig s1 s') : Inv X pins σ H s' := inv_gens I b.heap b.os (b.bare h0 I.bare)
end GL
set_option maxHeartbeats 4000000
/-! A generator's stretch from one wake to the next sleep, by what is wanted of its end. -/
namespace GL
open PySem PySem.Spec PyProof.Rows L2
open Sem (wp)

def Sg (M : Model) (A : Around) (Φ : End → Shared → Prop) (c : Code) (t : Sem PySem.Fin) (fs : List Frame) (s : Shared) : Prop :=
  ∀ (Γ : PySem.Ctx) (p : Pos), Γ.code = c → Γ.Woken A → ∃ e s', Runs M Γ p t fs s e s' ∧ Φ e s'
section
variable {M : Model} {A : Around} {Φ : End → Shared → Prop} {c : Code} {fs : List Frame} {s : Shared}
theorem sg_wrap {α : Type} {m : Sem α} {K : α → Sem PySem.Fin} {J : Value → Sem PySem.Fin} {gd : Bool → Bool} {lv : List Value → List Value}
    (h : wpAny M (A.over c fs) m (fun a s' => Sg M A Φ c (K a) fs s') (fun x s' => Sg M A Φ c (J x) fs s') s) : Sg M A Φ c (m.wrap K J gd lv) fs s := fun Γ p e w => by
  subst e
  exact runs_wrap_of_wp K J gd lv m (h _ p (w.over fs)) (fun a q s' z => z Γ q rfl w) (fun x q s' z => z Γ q rfl w)
theorem sg_at {q : Pos} {k : Unit → Sem PySem.Fin} (h : Sg M A Φ c (k ()) fs s) : Sg M A Φ c (.at q k) fs s := by
  have := sg_wrap (A := A) (Φ := Φ) (c := c) (fs := fs) (s := s) (M := M) (m := standAt q) (K := k) (J := .raise) (gd := id) (lv := id) (wpAny_standAt h)
  exact this
theorem sg_point {l : List Value} {k : Unit → Sem PySem.Fin} (h : Sg M A Φ c (k ()) fs s) : Sg M A Φ c (.point l k) fs s := by
  have := sg_wrap (A := A) (Φ := Φ) (c := c) (fs := fs) (s := s) (M := M) (m := point) (K := k) (J := .raise) (gd := id) (lv := fun _ => l) (wpAny_point h)
  exact this
theorem sg_call {c' : Code} {h g l} {k : Result → Sem PySem.Fin} (hc : ∀ p, Sg M A Φ c' (M.den c') (.ret k h g l c p [] :: fs) s) : Sg M A Φ c (.call c' h g l k) fs s := fun Γ p e w => by
  subst e
  obtain ⟨e, s', r, z⟩ := hc p (Γ.goto c') p rfl (w.goto c')
  exact ⟨e, s', runs_call_seg r, z⟩
theorem sg_leaf {k h g l c1 p1 kp} (r : Result) (hk : Sg M A Φ c1 (k r) fs s) : Sg M A Φ c (leafOf r) (.ret k h g l c1 p1 kp :: fs) s := fun Γ p e w => by
  subst e
  obtain ⟨e, s', q, z⟩ := hk (Γ.goto c1) p1 rfl (w.goto c1)
  exact ⟨e, s', Runs.pop r q, z⟩
theorem sg_again {c' : Code} (hq : c'.quiet = true) (hc : Sg M A Φ c' (M.den c') fs s) : Sg M A Φ c (.pure (.again c')) fs s := fun Γ p e w => by
  subst e
  obtain ⟨e, s', q, z⟩ := hc (Γ.goto c') p rfl (w.goto c')
  exact ⟨e, s', Runs.head (c₁ := c') (fun _ _ x => .again hq x) q, z⟩
theorem sg_end (r : Result) (h : Φ (.ret r) s) : Sg M A Φ c (leafOf r) [] s := fun Γ p e _ => by
  subst e
  exact ⟨.ret r, s, Runs.leaf r, h⟩
theorem sg_yield {v g l} {k : Resume → Sem PySem.Fin} (hfs : splitAtGen fs = none) (h : ∀ p, Φ (.susp v g l k c p fs) s) : Sg M A Φ c (.yield v g l k) fs s := fun Γ p e _ => by
  subst e
  exact ⟨_, s, Runs.yield' fs hfs, h p⟩
theorem sg_mono {Φ' : End → Shared → Prop} {t : Sem PySem.Fin} (h : Sg M A Φ c t fs s) (m : ∀ e s', Φ e s' → Φ' e s') : Sg M A Φ' c t fs s := fun Γ p e w =>
  let ⟨e, s', r, z⟩ := h Γ p e w
  ⟨e, s', r, m e s' z⟩
end
/-- woken by next() -/
def Goes (M : Model) (A : Around) (Φ : End → Shared → Prop) (gs : GenState) (s : Shared) : Prop := match gs with
  | .fresh c => Sg M A Φ c (M.den c) [] s
  | .suspended k _ c _ fs _ => Sg M A Φ c (k (.send .none)) fs s
  | _ => False
theorem wp_resumes {M : Model} {A : Around} {E : Value → Shared → Prop} {Φ : End → Shared → Prop} {s : Shared} {g : Nat} {gs : GenState} {l : List Value} {α : Type} {k : GenResult → Sem α} {Q : α → Shared → Prop} (hg : s.gens[g]? = some gs)
    (hgo : Goes M A Φ gs (s.setGen g .running)) (hq : ∀ e s', Φ e s' → e.quiet = true)
    (hk : ∀ e s1, Φ e s1 → g < s1.gens.size → wpAny M A (k e.result) Q E (s1.setGen g e.genState)) : wpAny M A (.resume g (.send .none) l k) Q E s := by
  intro Γ p hΓ
  rw [Sem.wp_resume]
  have hlt : g < (s.setGen g .running).gens.size := by
    rw [GenW.setGen_size]
    exact (Array.getElem?_eq_some_iff.mp hg).1
  cases gs with
  | fresh c =>
    obtain ⟨e, s1, r, z⟩ := hgo (Γ.wake c p) p rfl (hΓ.wake c p)
    refine ⟨e.result, s1.setGen g e.genState, ?_, hk e s1 z (Nat.lt_of_lt_of_le hlt (GenW.runs_gsz r)) Γ p hΓ⟩
    unfold Wakes
    rw [hg]
    exact ⟨e, s1, r, hq e s1 z, rfl, rfl⟩
  | suspended k0 l0 c p0 fs cl =>
    obtain ⟨e, s1, r, z⟩ := hgo (Γ.wake c p) p0 rfl (hΓ.wake c p)
    refine ⟨e.result, s1.setGen g e.genState, ?_, hk e s1 z (Nat.lt_of_lt_of_le hlt (GenW.runs_gsz r)) Γ p hΓ⟩
    unfold Wakes
    rw [hg]
    exact ⟨e, s1, r, hq e s1 z, rfl, rfl⟩
  | running => exact hgo.elim
  | finished => exact hgo.elim
/-- what next() makes of an end -/
def AtNext (P : Program) (w : World) (a : Addr) (g : Nat) (Q : Option Value → Shared → Prop) (E : Value → Shared → Prop) (e : End) (s1 : Shared) : Prop := match e with
  | .susp v .. => e.quiet = true ∧ Q (some v) (s1.setGen g e.genState)
  | .ret (.ok f) => f = .ret .none ∧ ∀ h', (∀ b o, s1.heap.get? b = some o → h'.get? b = some o) → Q none { s1.setGen g .finished with heap := h' }
  | .ret (.error x) => s1.heap.IsGen a g ∧ NotStop (model P w) x s1.heap ∧ E x (s1.setGen g .finished)
section
variable {P : Program} {w : World} {A : Around} {E : Value → Shared → Prop} {s : Shared}
theorem nx_gen {a : Addr} {g : Nat} {gs : GenState} {Φ : End → Shared → Prop} {Q : Option Value → Shared → Prop} (hh : A.handled = none) (hl : s.heap.NoLimit) (hroom : A.depth < recursionLimit) (hg : s.heap.IsGen a g) (hgs : s.gens[g]? = some gs)
    (hgo : Goes (model P w) A.in1 Φ gs (s.setGen g .running)) (hΦ : ∀ e s1, Φ e s1 → g < s1.gens.size → AtNext P w a g Q E e s1) (hq : ∀ e s1, Φ e s1 → e.quiet = true) : wpAny (model P w) A (pyNext (.ref a)) Q E s := by
  unfold pyNext
  refine wpAny_bind (wpAny_attempt (wpAny_callSpecial?_slot (name := Str.ofString "__next__") hg.typeIs slot_gen_next (wpAny_call_entry slot_gen_next hg.typeIs entry_gen_next ?_ (args_gen_next _))))
  show wpAny (model P w) A.in1 (Builtin.Generator.genWake (.ref a) (.send .none)) _ _ s
  unfold Builtin.Generator.genWake
  refine wpAny_bind (wpAny_holding (wpAny_genNumber hg (wpAny_bind (wpAny_genState hgs ?_))))
  cases gs with
  | running => exact hgo.elim
  | finished => exact hgo.elim
  | _ =>
    refine wpAny_bind (wpAny_roomToWake hl hroom ?_)
    show wpAny _ A.in1 (.resume g (.send .none) [] _) _ _ s
    refine wp_resumes hgs hgo hq fun e s1 z hlt => ?_
    have y := hΦ e s1 z hlt
    cases e with
    | susp v g' l k c p fs => exact wpAny_pure ⟨v, rfl, wpAny_pure y.2⟩
    | ret r =>
      cases r with
      | ok f =>
        obtain ⟨rfl, y⟩ := y
        show wpAny (model P w) A.in1 (newExc (.type "StopIteration") [] >>= _) _ _ (s1.setGen g .finished)
        refine wpAny_bind ?_
        simp only [newExc, newTuple]
        refine wpAny_bind (wpAny_newObj_type ?_ (by size_fits))
        refine wpAny_bind (m := firstArgMember _ _) (wpAny_of_eq (a := Value.none) (by first | rfl | (simp only [firstArgMember]; rfl)) ?_)
        refine wpAny_newObj_type ?_ (by size_fits)
        simp only [raiseNew]
        refine wpAny_bind (wpAny_bind (wpAny_handled ?_))
        first | rw [show A.in1.handled = none from hh] | rw [hh]
        refine wpAny_throw (wpAny_bind (wpAny_isInstance (T := "StopIteration") (b := true) ⟨_, Heap.get?_push_size _ rfl, rfl⟩ isSubtype_stop ?_))
        exact wpAny_pure (y _ fun b o hb => Heap.get?_push_of_some _ (Heap.get?_push_of_some _ hb))
      | error x =>
        obtain ⟨⟨o, nm, qn, ho, hc, hd, hsl⟩, ns, y⟩ := y
        show wpAny (model P w) A.in1 (Builtin.Generator.genLeft (.ref a) x) _ _ (s1.setGen g .finished)
        unfold Builtin.Generator.genLeft Builtin.Generator.madeByALambda
        refine wpAny_bind (wpAny_bind (wpAny_load (o := o) ho (wpAny_pure ?_)))
        refine wpAny_bind (ns _ _ _ _ rfl ?_)
        rw [Bool.and_false, if_neg Bool.false_ne_true]
        unfold Builtin.Generator.genEscaped
        first
          | refine wpAny_bind (ns _ _ _ _ rfl ?_)
          | refine wpAny_bind (wpAny_pure (wpAny_bind (ns _ _ _ _ rfl ?_)))
        rw [if_pos (show (!false) = true from rfl)]
        first
          | refine wpAny_throw ?_
          | refine wpAny_bind (wpAny_throw ?_)
        refine wpAny_bind (ns _ _ _ _ rfl ?_)
        rw [if_neg Bool.false_ne_true]
        exact wpAny_throw y
end
end GL
set_option maxHeartbeats 4000000
/-! A generator def's frame while it sleeps. -/
namespace GL
open PySem PySem.Spec PyProof.Rows L2 DL
open Sem (wp)
open Classical

/-- a generator that a call has made -/
structure Inst where
  P : Program
  w : World
  K : PySem.W.Frag
  mg : Str → Option Value
  base : Heap
  N : List Str
  qual : Str
  st : Stmt
  f : Addr
  cdv : Value
  outer : List Env
  n0 : Addr
  k : Nat
  gi : Nat
def Inst.env (g : Inst) : Env := envOfC g.qual (defScope g.st) g.n0 g.f g.cdv
/-- a stretch: who woke it, in what state, by what heap and zone, what is its own -/
structure Gh where
  A : Around
  sW : Shared
  HW : Hp
  ZW : Hp
  pv : List (Addr × Obj)
  xe : Value → Shared → Prop
  er : Value → Shared → Prop
  ok : Prop
def dom (pv : List (Addr × Obj)) (b : Addr) : Prop := ∃ o, (b, o) ∈ pv
def trunc0 (s : Shared) (n : Nat) : Heap := ⟨s.heap.objs.extract 0 n, s.heap.life⟩
theorem trunc0_get {s : Shared} {n b : Nat} : (trunc0 s n).get? b = if b < n then s.heap.get? b else none := by
  show (match (s.heap.objs.extract 0 n)[b]? with | some ⟨_, _, .freed, _⟩ => none | o => o) = _
  rw [Array.getElem?_extract]
  by_cases h : b < n
  · simp only [h, if_true]
    by_cases h2 : b < s.heap.objs.size
    · rw [if_pos (by omega)]
      simp only [Nat.zero_add]
      rfl
    · rw [if_neg (by omega)]
      show none = (match s.heap.objs[b]? with | some ⟨_, _, .freed, _⟩ => none | o => o)
      rw [Array.getElem?_eq_none (by omega)]
  · rw [if_neg h, if_neg (by omega)]
/-- the heap below the frame, without what is its own -/
def trunc (s : Shared) (n : Nat) (pv : List (Addr × Obj)) : Shared := { s with heap := PySem.W.hideAll (trunc0 s n) (pv.map (·.1)) }
theorem dom_mem {pv : List (Addr × Obj)} {b : Addr} : dom pv b ↔ b ∈ pv.map (·.1) := by
  unfold dom
  simp
theorem trunc_some {s : Shared} {n : Nat} {pv : List (Addr × Obj)} {b : Addr} {o : Obj} (h : (trunc s n pv).heap.get? b = some o) : b < n ∧ s.heap.get? b = some o ∧ ¬ dom pv b := by
  have h' : (PySem.W.hideAll (trunc0 s n) (pv.map (·.1))).get? b = some o := h
  have h1 := PySem.W.of_hideAll (pv.map (·.1)) h'
  rw [trunc0_get] at h1
  split at h1
  · rename_i q
    refine ⟨q, h1, fun hd => ?_⟩
    have := PySem.W.hideAll_none (h := trunc0 s n) (pv.map (·.1)) (dom_mem.mp hd)
    rw [show (PySem.W.hideAll (trunc0 s n) (pv.map (·.1))).get? b = some o from h] at this
    cases this
  · cases h1
theorem trunc_of {s : Shared} {n : Nat} {pv : List (Addr × Obj)} {b : Addr} {o : Obj} (hb : b < n) (h : s.heap.get? b = some o) (hd : ¬ dom pv b) : (trunc s n pv).heap.get? b = some o :=
  PySem.W.hideAll_get _ (by rw [trunc0_get, if_pos hb, h]) (fun m => hd (dom_mem.mpr m))
theorem trunc_size {s : Shared} {n : Nat} {pv : List (Addr × Obj)} (h : n ≤ s.heap.objs.size) : (trunc s n pv).heap.objs.size = n := by
  have : (trunc s n pv).heap.objs.size = (trunc0 s n).objs.size := PySem.W.hideAll_size _ _
  rw [this]
  show (s.heap.objs.extract 0 n).size = n
  simp; omega
/-- another's: not to be touched while it runs -/
def lk (g : Inst) (γ : Gh) (b : Addr) : Prop := ¬ dom γ.pv b ∧ g.n0 ≤ b ∧ (γ.HW b = none ∨ ∃ ps, γ.HW b = some (.tbl ps)) ∧ γ.ZW b = none ∧ ∃ o, γ.sW.heap.get? b = some o
abbrev lock (s : Shared) (b : Addr) : Option HO := (s.heap.get? b).map fun o => .frz o (.own 0)
noncomputable def Bg (g : Inst) (γ : Gh) : Hp := fun b => if dom γ.pv b then none else if lk g γ b then lock γ.sW b else γ.HW b
noncomputable def H0g (g : Inst) (γ : Gh) : Hp := fun b => if b < g.n0 ∧ ¬ dom γ.pv b then γ.HW b else none
noncomputable def Inst.X (g : Inst) (γ : Gh) : Cx where
  prog := g.P
  w := g.w
  K := g.K
  mg := g.mg
  base := g.base
  A := γ.A.deeper g.env
  N := g.N
  s_0 := trunc γ.sW g.n0 γ.pv
  H_0 := H0g g γ
  env := g.env
  outer := g.outer
  stack := g.env :: g.outer
  ex := []
  calm := true
  fn := fun _ => true
  pn := []
  xe := γ.xe
noncomputable def Inst.E (g : Inst) (γ : Gh) : Cfg := ⟨tabs g.K, γ.ZW, Bg g γ, Bg g γ⟩
/-- what the waker brings -/
structure WkC (g : Inst) (γ : Gh) : Prop where
  env : Env0 g.P g.w g.K g.mg g.base γ.A g.outer γ.sW γ.HW
  room : Room g.k (γ.A.deeper g.env)
  n0 : g.n0 ≤ γ.sW.heap.objs.size
  pv : ∀ p ∈ γ.pv, γ.sW.heap.get? p.1 = some p.2 ∧ γ.HW p.1 = some (.frz p.2 (.own 0)) ∧ γ.ZW p.1 = none
  zh : Ex γ.ZW γ.HW
  tb : LamX.Tabs (tabs g.K) γ.HW
  gz : g.gi ≤ γ.sW.gens.size
  nz : NoT γ.ZW
structure WkS (g : Inst) (γ : Gh) : Prop where
  own : ∀ b, (b = g.n0 ∨ ∃ x, g.env.cells.lookup x = some b) → dom γ.pv b ∨ γ.sW.heap.get? b = none
  tn : ∀ p ∈ tabs g.K, p.1 < g.n0
  fn : ∀ b ∈ frs g.outer, b < g.n0
  bn : g.base.objs.size ≤ g.n0
structure Rn (g : Inst) (γ : Gh) (σ : L2.St) (H Z : Hp) (ρ : List Sl) (s : Shared) : Prop where
  I : Inv (g.X γ) [] σ H s
  S : St1 g.K (g.E γ) Z H σ ρ
  c : WkC g γ
  w : WkS g γ
  gz : g.gi ≤ s.gens.size
theorem okSome {P : Program} {w : World} {H : Hp} {h : Heap} {a : Addr} {o : HO} (x : ObjOk P w H h a o) : ∃ ob, h.get? a = some ob := by
  cases o with
  | lst xs => obtain ⟨_, _, _, _, e⟩ := x; exact ⟨_, e⟩
  | tup xs => obtain ⟨_, _, _, ob, e, _⟩ := x; exact ⟨_, e⟩
  | dK kvs => obtain ⟨_, _, _, _, o, _, _, e, _⟩ := x; exact ⟨_, e⟩
  | dT kvs => obtain ⟨_, _, _, _, o, _, _, e, _⟩ := x; exact ⟨_, e⟩
  | set S n => obtain ⟨o, _, _, _, e, _⟩ := x; exact ⟨_, e⟩
  | ins C dx fs => obtain ⟨_, _, _, e, _⟩ := x; exact ⟨_, e⟩
  | own y => obtain ⟨_, e⟩ := x; exact ⟨_, e⟩
  | xd fs => obtain ⟨_, ⟨_, _, _, e, _⟩, _⟩ := x; exact ⟨_, e⟩
  | rng lo hi => obtain ⟨_, _, _, e⟩ := x; exact ⟨_, e⟩
  | frz ob u => obtain ⟨e, _⟩ := x; exact ⟨_, e⟩
  | tbl ps => exact ⟨_, show h.get? a = some _ from x⟩
  | met f y => exact ⟨_, show h.get? a = some _ from x⟩
  | ext φ => obtain ⟨_, ⟨_, e⟩, _⟩ := x; exact ⟨_, e⟩
section
variable {g : Inst} {γ γ2 : Gh} {σ : L2.St} {H Z : Hp} {ρ : List Sl} {s : Shared} {b : Addr} {o : Obj} {u : HO}
theorem Bg_dom (h : dom γ.pv b) : Bg g γ b = none := by unfold Bg; rw [if_pos h]
theorem Bg_lk (h : lk g γ b) : Bg g γ b = lock γ.sW b := by unfold Bg; rw [if_neg h.1, if_pos h]
theorem Bg_el (h : ¬ dom γ.pv b) (h2 : ¬ lk g γ b) : Bg g γ b = γ.HW b := by unfold Bg; rw [if_neg h, if_neg h2]
/-- the waker's heap is seen, but for its tables -/
theorem Bg_of (h : ¬ dom γ.pv b) (e : γ.HW b = some u) (n : ∀ ps, u ≠ .tbl ps) : Bg g γ b = some u := by
  rw [Bg_el h ?_]
  · exact e
  · rintro ⟨_, _, q | ⟨ps, q⟩, _⟩
    · rw [e] at q; cases q
    · rw [e] at q; cases q; exact n ps rfl
theorem Rn.bh (R : Rn g γ σ H Z ρ s) : LamX.ExtN (Bg g γ) H := R.S.s.bh
theorem Rn.lkH (R : Rn g γ σ H Z ρ s) (h : lk g γ b) (e : γ.sW.heap.get? b = some o) : H b = some (.frz o (.own 0)) ∧ s.heap.get? b = some o := by
  have q : H b = some (.frz o (.own 0)) := R.bh b _ (by rw [Bg_lk h]; show (γ.sW.heap.get? b).map _ = _; rw [e]; rfl) (fun _ z => nomatch z)
  exact ⟨q, (R.I.hok b _ q).1⟩
theorem Rn.lkZ (R : Rn g γ σ H Z ρ s) (h : lk g γ b) : Z b = none := by
  obtain ⟨o, e⟩ := h.2.2.2.2
  cases q : Z b with
  | none => rfl
  | some v =>
    rcases R.S.s.fr b (by rw [q]; exact fun z => nomatch z) with w | w
    · exact absurd h.2.2.2.1 w
    · obtain ⟨ps, z⟩ := w (.frz o (.own 0)) (by show Bg g γ b = _; rw [Bg_lk h]; show (γ.sW.heap.get? b).map _ = _; rw [e]; rfl)
      cases z
/-- what the waker knew -/
theorem Rn.seen (R : Rn g γ σ H Z ρ s) (h : ¬ dom γ.pv b) (e : γ.HW b = some u) (n : ∀ ps, u ≠ .tbl ps) : H b = some u := R.bh b u (Bg_of h e n) n
def mineC (γ : Gh) (H Z : Hp) (b : Addr) : Prop := (dom γ.pv b ∨ γ.sW.heap.get? b = none) ∧ (H b = none ∨ (∃ xs, H b = some (.lst xs)) ∨ ∃ o, H b = some (.frz o (.own 0))) ∧ Z b = none
noncomputable def pvOf (γ : Gh) (H Z : Hp) (s : Shared) : List (Addr × Obj) := (List.range s.heap.objs.size).filterMap fun b => match s.heap.get? b with
  | none => none
  | some o => if mineC γ H Z b then some (b, o) else none
theorem mem_pvOf : (b, o) ∈ pvOf γ H Z s ↔ s.heap.get? b = some o ∧ mineC γ H Z b := by
  unfold pvOf
  rw [List.mem_filterMap]
  constructor
  · rintro ⟨c, _, e⟩
    split at e
    · cases e
    · rename_i q
      split at e
      · rename_i m
        cases e
        exact ⟨q, m⟩
      · cases e
  · rintro ⟨e, m⟩
    refine ⟨b, List.mem_range.mpr (Heap.lt_size e), ?_⟩
    rw [e]
    simp only [m, if_true]
theorem dom_pvOf : dom (pvOf γ H Z s) b ↔ (∃ o, s.heap.get? b = some o) ∧ mineC γ H Z b :=
  ⟨fun ⟨o, h⟩ => ⟨⟨o, (mem_pvOf.mp h).1⟩, (mem_pvOf.mp h).2⟩, fun ⟨⟨o, e⟩, m⟩ => ⟨o, mem_pvOf.mpr ⟨e, m⟩⟩⟩
/-- the heap as the waker sees it while it sleeps -/
noncomputable def Hs (g : Inst) (γ : Gh) (H Z : Hp) (s : Shared) : Hp := fun b => if dom (pvOf γ H Z s) b then lock s b else if lk g γ b then γ.HW b else H b
/-- .. as it sees it itself, woken -/
noncomputable def Hw (g : Inst) (γ2 : Gh) (H : Hp) : Hp := fun b => if dom γ2.pv b then H b else Bg g γ2 b
/-- what the waker finds -/
structure Aft (P : Program) (w : World) (K : PySem.W.Frag) (fs : List Addr) (n0 : Addr) (γ : Gh) (pv' : List (Addr × Obj)) (H' Z' : Hp) (s' : Shared) : Prop where
  os : s'.os = γ.sW.os
  sz : n0 ≤ s'.heap.objs.size
  bare : AllBare s'.gens
  keep : ∀ b o, γ.sW.heap.get? b = some o → γ.HW b = none → b ∉ fs → s'.heap.get? b = some o
  slot : ∀ b o, γ.sW.heap.get? b = some o → γ.HW b = none → b ∈ fs → ∃ sl, s'.heap.get? b = some { o with slots := sl }
  free : ∀ b o, γ.sW.heap.get? b = some o → γ.HW b = none → H' b = none
  there : ∀ b o, γ.sW.heap.get? b = some o → ¬ dom γ.pv b → ∃ o', s'.heap.get? b = some o'
  ext : ∀ b u, ¬ dom γ.pv b → γ.HW b = some u → (∀ ps, u ≠ .tbl ps) → H' b = some u
  tbls : ∀ b ps, γ.HW b = some (.tbl ps) → ∃ more, H' b = some (.tbl (ps ++ more))
  hok : HOk P w H' s'.heap
  z : Ex γ.ZW Z'
  zh : Ex Z' H'
  tb : LamX.Tabs (tabs K) H'
  fr : ∀ a, Z' a ≠ none → γ.ZW a ≠ none ∨ Frsh γ.HW a ∨ dom γ.pv a
  nz : NoT Z'
  pv : ∀ p ∈ pv', s'.heap.get? p.1 = some p.2 ∧ H' p.1 = some (.frz p.2 (.own 0)) ∧ Z' p.1 = none
  new : ∀ b, dom pv' b → dom γ.pv b ∨ γ.sW.heap.get? b = none
theorem Wk_lt (c : WkC g γ) (h : γ.HW b = some u) : ∃ o, γ.sW.heap.get? b = some o := okSome (c.env.hok b u h)
theorem dom_frz (c : WkC g γ) (h : dom γ.pv b) : ∃ o, γ.sW.heap.get? b = some o ∧ γ.HW b = some (.frz o (.own 0)) ∧ γ.ZW b = none := let ⟨o, m⟩ := h; ⟨o, c.pv (b, o) m⟩
theorem Rn.H0 (R : Rn g γ σ H Z ρ s) (hb : b < g.n0) (n : γ.HW b = none) : (g.X γ).H_0 b = none := by
  show H0g g γ b = none
  unfold H0g
  split
  · exact n
  · rfl
/-- known to nobody: it stays -/
theorem Rn.un (R : Rn g γ σ H Z ρ s) (e : γ.sW.heap.get? b = some o) (n : γ.HW b = none) : (b ∉ frs g.outer → s.heap.get? b = some o) ∧ (b ∈ frs g.outer → ∃ sl, s.heap.get? b = some { o with slots := sl }) ∧ Hs g γ H Z s b = none := by
  have nd : ¬ dom γ.pv b := fun h => by obtain ⟨_, _, q, _⟩ := dom_frz R.c h; rw [n] at q; cases q
  have zw : γ.ZW b = none := R.c.zh.free n
  have nm : ¬ dom (pvOf γ H Z s) b := fun h => by
    rcases (dom_pvOf.mp h).2.1 with q | q
    · exact nd q
    · rw [e] at q; cases q
  by_cases hb : b < g.n0
  · have nl : ¬ lk g γ b := fun h => absurd h.2.1 (Nat.not_le.mpr hb)
    have e0 := trunc_of hb e nd
    have h0 := R.H0 hb n
    have fre := R.I.base.free b o e0 h0 (by simp [Inst.X])
    refine ⟨fun h => R.I.base.keep b o e0 h0 h (by simp [Inst.X]), fun h => R.I.base.slot b o e0 h0 h (by simp [Inst.X]), ?_⟩
    unfold Hs
    rw [if_neg nm, if_neg nl]
    exact fre
  · have hl : lk g γ b := ⟨nd, Nat.not_lt.mp hb, .inl n, zw, o, e⟩
    refine ⟨fun _ => (R.lkH hl e).2, fun h => absurd (R.w.fn b h) hb, ?_⟩
    unfold Hs
    rw [if_neg nm, if_pos hl]
    exact n
theorem Hs_el (h : ¬ dom (pvOf γ H Z s) b) (h2 : ¬ lk g γ b) : Hs g γ H Z s b = H b := by unfold Hs; rw [if_neg h, if_neg h2]
/-- what is tracked, and no list, is seen by the waker -/
theorem Rn.hsOf (R : Rn g γ σ H Z ρ s) (e : H b = some u) (n : ∀ xs, u ≠ .lst xs) (n2 : ∀ ob, u ≠ .frz ob (.own 0)) : Hs g γ H Z s b = some u := by
  rw [Hs_el, e]
  · intro h
    rcases (dom_pvOf.mp h).2.2.1 with q | ⟨xs, q⟩ | ⟨ob, q⟩
    · rw [e] at q; cases q
    · rw [e] at q; cases q; exact n xs rfl
    · rw [e] at q; cases q; exact n2 ob rfl
  · intro h
    obtain ⟨ob, eo⟩ := h.2.2.2.2
    have := (R.lkH h eo).1
    rw [e] at this; cases this
    exact n2 ob rfl
theorem Rn.hsZ (R : Rn g γ σ H Z ρ s) (e : Z b = some u) : Hs g γ H Z s b = some u := by
  rw [Hs_el, R.S.s.zh b u e]
  · intro h
    have := (dom_pvOf.mp h).2.2.2
    rw [e] at this; cases this
  · intro h
    have := R.lkZ h
    rw [e] at this; cases this
theorem Rn.hsHok (R : Rn g γ σ H Z ρ s) : HOk g.P g.w (Hs g γ H Z s) s.heap := fun b u e => by
  have own : ∀ c, H c = some (.own b) → Hs g γ H Z s c = some (.own b) := fun c q => R.hsOf q (fun _ z => nomatch z) (fun _ z => nomatch z)
  have tup : ∀ c xs, H c = some (.tup xs) → Hs g γ H Z s c = some (.tup xs) := fun c xs q => R.hsOf q (fun _ z => nomatch z) (fun _ z => nomatch z)
  unfold Hs at e
  split at e
  · obtain ⟨o, eo⟩ := Option.map_eq_some_iff.mp e
    obtain ⟨eo, rfl⟩ := eo
    exact ⟨eo, ⟨_, eo⟩⟩
  · split at e
    · rename_i hl
      rcases hl.2.2.1 with q | ⟨ps, q⟩
      · rw [e] at q; cases q
      · rw [e] at q; cases q
        obtain ⟨o, eo⟩ := hl.2.2.2.2
        have k := (R.lkH hl eo).2
        have k2 : γ.sW.heap.get? b = some { cls := .none, data := .fields ps } := R.c.env.hok b _ e
        rw [eo] at k2; cases k2
        exact k
    · exact (R.I.hok b u e).stay (fun _ _ _ q => q) own tup
theorem Rn.aft (R : Rn g γ σ H Z ρ s) : Aft g.P g.w g.K (frs g.outer) g.n0 γ (pvOf γ H Z s) (Hs g γ H Z s) Z s where
  os := R.I.os
  sz := by
    have h := R.I.sz
    rw [show (g.X γ).s_0.heap.objs.size = g.n0 from trunc_size R.c.n0] at h
    exact h
  bare := R.I.bare
  keep := fun b o e n h => (R.un e n).1 h
  slot := fun b o e n h => (R.un e n).2.1 h
  free := fun b o e n => (R.un e n).2.2
  there := fun b o e nd => by
    by_cases hn : γ.HW b = none
    · by_cases hf : b ∈ frs g.outer
      · obtain ⟨sl, q⟩ := (R.un e hn).2.1 hf; exact ⟨_, q⟩
      · exact ⟨_, (R.un e hn).1 hf⟩
    · obtain ⟨u, hu⟩ := Option.ne_none_iff_exists'.mp hn
      by_cases ht : ∃ ps, u = .tbl ps
      · obtain ⟨ps, rfl⟩ := ht
        by_cases hb : b < g.n0
        · have e0 := trunc_of hb e nd
          have h0 : (g.X γ).H_0 b = some (.tbl ps) := by show H0g g γ b = _; unfold H0g; rw [if_pos ⟨hb, nd⟩]; exact hu
          exact R.I.base.there b o e0 (by simp [Inst.X])
        · by_cases hz : γ.ZW b = none
          · exact ⟨_, (R.lkH ⟨nd, Nat.not_lt.mp hb, .inr ⟨ps, hu⟩, hz, o, e⟩ e).2⟩
          · obtain ⟨v, hv⟩ := Option.ne_none_iff_exists'.mp hz
            exact okSome (R.I.hok b v (R.S.s.zh b v (R.S.s.z0 b v hv)))
      · exact okSome (R.I.hok b u (R.seen nd hu fun ps z => ht ⟨ps, z⟩))
  ext := fun b u nd e n => by
    have q := R.seen nd e n
    rw [Hs_el, q]
    · intro h
      obtain ⟨o, eo⟩ := Wk_lt R.c e
      rcases (dom_pvOf.mp h).2.1 with z | z
      · exact nd z
      · rw [eo] at z; cases z
    · rintro ⟨_, _, z | ⟨ps, z⟩, _⟩
      · rw [e] at z; cases z
      · rw [e] at z; cases z; exact n ps rfl
  tbls := fun b ps e => by
    have nd : ¬ dom γ.pv b := fun h => by obtain ⟨_, _, q, _⟩ := dom_frz R.c h; rw [e] at q; cases q
    obtain ⟨o, eo⟩ := Wk_lt R.c e
    have nm : ¬ dom (pvOf γ H Z s) b := fun h => by
      rcases (dom_pvOf.mp h).2.1 with z | z
      · exact nd z
      · rw [eo] at z; cases z
    by_cases hb : b < g.n0
    · have h0 : (g.X γ).H_0 b = some (.tbl ps) := by show H0g g γ b = _; unfold H0g; rw [if_pos ⟨hb, nd⟩]; exact e
      obtain ⟨more, q⟩ := R.I.base.tbls b ps h0
      exact ⟨more, by rw [Hs_el nm fun h => absurd h.2.1 (Nat.not_le.mpr hb)]; exact q⟩
    · by_cases hz : γ.ZW b = none
      · refine ⟨#[], ?_⟩
        unfold Hs
        rw [if_neg nm, if_pos ⟨nd, Nat.not_lt.mp hb, .inr ⟨ps, e⟩, hz, o, eo⟩, e]
        simp
      · obtain ⟨v, hv⟩ := Option.ne_none_iff_exists'.mp hz
        have : v = .tbl ps := by have := R.c.zh b v hv; rw [e] at this; exact (Option.some.inj this).symm
        subst this
        refine ⟨#[], ?_⟩
        rw [R.hsZ (R.S.s.z0 b _ hv)]
        simp
  hok := R.hsHok
  z := R.S.s.z0
  zh := fun b u e => R.hsZ e
  tb := fun p hp => by
    have tb := R.S.s.tb
    rw [R.S.t] at tb
    obtain ⟨ps, h1, h2, h3⟩ := tb p hp
    refine ⟨ps, R.hsOf h1 (fun _ z => nomatch z) (fun _ z => nomatch z), h2, fun pos cv hc => ?_⟩
    obtain ⟨c, e1, e2⟩ := h3 pos cv hc
    exact ⟨c, e1, R.hsOf e2 (fun _ z => nomatch z) (fun _ z => nomatch z)⟩
  fr := fun a h => by
    rcases R.S.s.fr a h with q | q
    · exact .inl q
    · by_cases hd : dom γ.pv a
      · exact .inr (.inr hd)
      · refine .inr (.inl fun o e => ?_)
        by_cases ht : ∃ ps, o = .tbl ps
        · exact ht
        · exact q o (Bg_of hd e fun ps z => ht ⟨ps, z⟩)
  nz := R.S.s.nz
  pv := fun ⟨b, o⟩ hp => by
    obtain ⟨e, m⟩ := mem_pvOf.mp hp
    refine ⟨e, ?_, m.2.2⟩
    unfold Hs
    rw [if_pos ⟨o, hp⟩]
    show (s.heap.get? b).map _ = _
    rw [e]; rfl
  new := fun b h => (dom_pvOf.mp h).2.1
theorem Rn.own' (R : Rn g γ σ H Z ρ s) : ∀ b, (b = g.n0 ∨ ∃ x, g.env.cells.lookup x = some b) → dom (pvOf γ H Z s) b := fun b h => by
  refine dom_pvOf.mpr ?_
  rcases h with h | ⟨x, h⟩
  · subst h
    obtain ⟨m, ⟨o, es, ep, ho, _⟩, _⟩ := R.I.loc
    have hf : H g.n0 = none := R.I.free
    exact ⟨⟨o, ho⟩, R.w.own _ (.inl rfl), .inl hf, R.S.s.zh.free hf⟩
  · obtain ⟨v, o, ho, _⟩ := R.I.cell x b h
    have hf : H b = none := R.I.freeC x b h
    exact ⟨⟨o, ho⟩, R.w.own _ (.inr ⟨x, h⟩), .inl hf, R.S.s.zh.free hf⟩
/-- woken again -/
theorem Rn.wake (R : Rn g γ σ H Z ρ s) (hp : γ2.pv = pvOf γ H Z s) (C : WkC g γ2) (hz : Ex Z γ2.ZW) : Rn g γ2 σ (Hw g γ2 H) γ2.ZW ρ γ2.sW := by
  have S2 : WkS g γ2 := ⟨fun b h => .inl (by rw [hp]; exact R.own' b h), R.w.tn, R.w.fn, R.w.bn⟩
  have ow2 : ∀ b, (b = g.n0 ∨ ∃ x, g.env.cells.lookup x = some b) → dom γ2.pv b := fun b h => by rw [hp]; exact R.own' b h
  have same : ∀ b, dom γ2.pv b → ∃ o, s.heap.get? b = some o ∧ γ2.sW.heap.get? b = some o := fun b ⟨o, m⟩ => ⟨o, (mem_pvOf.mp (hp ▸ m)).1, (C.pv (b, o) m).1⟩
  have dm : ∀ b, dom γ2.pv b → mineC γ H Z b := fun b h => (dom_pvOf.mp (hp ▸ h)).2
  have wd : ∀ b, dom γ2.pv b → Hw g γ2 H b = H b := fun b h => by unfold Hw; rw [if_pos h]
  have wn : ∀ b, ¬ dom γ2.pv b → Hw g γ2 H b = Bg g γ2 b := fun b h => by unfold Hw; rw [if_neg h]
  have ndm : ∀ b u, γ2.HW b = some u → (∀ ob, u ≠ .frz ob (.own 0)) → ¬ dom γ2.pv b := fun b u e n h => by
    obtain ⟨o, _, q, _⟩ := dom_frz C h
    rw [e] at q; cases q; exact n o rfl
  have seen : ∀ b u, γ2.HW b = some u → (∀ ob, u ≠ .frz ob (.own 0)) → (∀ ps, u ≠ .tbl ps) → Hw g γ2 H b = some u := fun b u e n n2 => by rw [wn b (ndm b u e n), Bg_of (ndm b u e n) e n2]
  have hok : HOk g.P g.w (Hw g γ2 H) γ2.sW.heap := fun b u e => by
    by_cases hd : dom γ2.pv b
    · rw [wd b hd] at e
      rcases (dm b hd).2.1 with q | ⟨xs, q⟩ | ⟨ob, q⟩
      · rw [e] at q; cases q
      · rw [e] at q; cases q
        obtain ⟨o, e1, e2⟩ := same b hd
        obtain ⟨z, its, n, r, k⟩ := R.I.hok b _ e
        rw [e1] at k
        exact ⟨z, its, n, r, by rw [e2]; exact k⟩
      · rw [e] at q; cases q
        obtain ⟨o, e1, e2⟩ := same b hd
        have k := (R.I.hok b _ e).1
        rw [e1] at k; cases k
        exact ⟨e2, ⟨_, e2⟩⟩
    · rw [wn b hd] at e
      by_cases hl : lk g γ2 b
      · rw [Bg_lk hl] at e
        obtain ⟨o, eo, rfl⟩ := Option.map_eq_some_iff.mp e
        exact ⟨eo, ⟨_, eo⟩⟩
      · rw [Bg_el hd hl] at e
        exact (C.env.hok b u e).stay (fun _ _ _ q => q) (fun c q => seen c _ q (fun _ z => nomatch z) (fun _ z => nomatch z)) fun c xs q => seen c _ q (fun _ z => nomatch z) (fun _ z => nomatch z)
  have h0 : ∀ b u, (g.X γ2).H_0 b = some u → b < g.n0 ∧ ¬ dom γ2.pv b ∧ γ2.HW b = some u := fun b u e => by
    have e' : H0g g γ2 b = some u := e
    unfold H0g at e'
    split at e'
    · rename_i q; exact ⟨q.1, q.2, e'⟩
    · cases e'
  have low : ∀ b, b < g.n0 → ¬ dom γ2.pv b → Hw g γ2 H b = γ2.HW b := fun b hb hd => by rw [wn b hd, Bg_el hd fun h => absurd h.2.1 (Nat.not_le.mpr hb)]
  refine ⟨⟨⟨C.env.mod, R.I.ok.kind, R.I.ok.glob, R.I.ok.blt, ?_, R.I.ok.inj, R.I.ok.has, fun x c _ h => ?_, fun _ => C.room.hd, Around.frames_deeper C.env.frames, .inr ⟨rfl, rfl⟩, fun b z => ?_, fun b o e => ?_, ?_, fun b _ _ z => ?_, fun b z => ?_, ?_, fun b h => ?_⟩,
    rfl, C.env.bare, ⟨fun b o e _ _ _ => (trunc_some e).2.1, fun b o e _ _ _ => ⟨o.slots, (trunc_some e).2.1⟩, fun b o e n _ => ?_, fun b o e _ => ⟨o, (trunc_some e).2.1⟩, fun b xs e => ?_, fun b o u e => ?_, fun b ps e => ⟨#[], ?_⟩⟩, ?_, fun x c e => ?_, ?_, fun x c e => ?_, fun p h => ?_, hok, R.I.len⟩, ⟨⟨fun b u e => ?_, ?_, ?_, ?_, fun a h => .inl h, Ex.refl _, C.nz, R.S.s.len, fun i sl h => ?_, R.S.s.ap⟩, rfl⟩, C, S2, C.gz⟩
  · show (trunc γ2.sW g.n0 γ2.pv).heap.objs.size ≤ g.n0
    rw [trunc_size C.n0]; exact Nat.le_refl _
  · have := R.I.ok.cab x c rfl h
    have e1 : (g.X γ).s_0.heap.objs.size = g.n0 := trunc_size R.c.n0
    have e2 : (g.X γ2).s_0.heap.objs.size = g.n0 := trunc_size C.n0
    rw [e2]; rw [e1] at this; exact this
  · exact absurd (show b ∈ ([] : List Addr) from z) (by simp)
  · have hb : b < g.n0 := Nat.lt_of_lt_of_le (Heap.lt_size e) S2.bn
    obtain ⟨q1, q2⟩ := C.env.bs b o e
    refine ⟨trunc_of hb q1 fun h => by (obtain ⟨_, _, q, _⟩ := dom_frz C h; rw [q2] at q; cases q), ?_⟩
    show H0g g γ2 b = none
    unfold H0g
    split
    · exact q2
    · rfl
  · have e2 : (g.X γ2).s_0.heap.objs.size = g.n0 := trunc_size C.n0
    rw [e2]; exact S2.bn
  · exact absurd (show b ∈ ([] : List Addr) from z) (by simp)
  · exact absurd (show b ∈ ([] : List Addr) from z) (by simp)
  · have all : ∀ l : List Env, (∀ b ∈ frs l, b < g.n0 ∧ ¬ dom γ2.pv b) → γ2.sW.heap.FunFrames g.base l → (trunc γ2.sW g.n0 γ2.pv).heap.FunFrames g.base l := by
      intro l
      induction l with
      | nil => exact fun _ _ => trivial
      | cons env r ih =>
        rintro hs ⟨hk, ⟨L, o, hf, hn, ho, hd⟩, hr⟩
        have hm : L ∈ frs (env :: r) := by unfold frs; rw [List.filterMap_cons, hf]; exact List.mem_cons_self
        exact ⟨hk, ⟨L, o, hf, hn, trunc_of (hs L hm).1 ho (hs L hm).2, hd⟩, ih (fun b hb => hs b (by unfold frs; rw [List.filterMap_cons, hf]; exact List.mem_cons_of_mem _ hb)) hr⟩
    exact all g.outer (fun b hb => ⟨S2.fn b hb, fun h => by (obtain ⟨_, _, q, _⟩ := dom_frz C h; rw [C.env.frf b hb] at q; cases q)⟩) C.env.funs
  · show H0g g γ2 b = none
    unfold H0g
    split
    · exact C.env.frf b h
    · rfl
  · obtain ⟨hb, _, hd⟩ := trunc_some e
    have n' : H0g g γ2 b = none := n
    unfold H0g at n'
    rw [if_pos ⟨hb, hd⟩] at n'
    rw [low b hb hd]; exact n'
  · obtain ⟨q1, q2, q3⟩ := h0 b _ e
    rw [low b q1 q2]; exact q3
  · obtain ⟨q1, q2, q3⟩ := h0 b _ e
    rw [low b q1 q2]; exact q3
  · obtain ⟨q1, q2, q3⟩ := h0 b _ e
    rw [low b q1 q2, q3]; simp
  · obtain ⟨m, hn, hl⟩ := R.I.loc
    have hd : dom γ2.pv g.n0 := ow2 _ (.inl rfl)
    obtain ⟨o, e1, e2⟩ := same _ hd
    refine ⟨m, hn.at' fun o' e => by rw [show s.heap.get? (g.X γ).env.locals = s.heap.get? g.n0 from rfl, e1] at e; cases e; exact e2, fun i x v h1 h2 h3 => ?_⟩
    obtain ⟨u, r, l⟩ := hl i x v h1 h2 h3
    refine ⟨u, r, ?_⟩
    rcases l with l | ⟨k, c, hc, oc, ho, hcd⟩
    · exact .inl l
    · obtain ⟨o2, e3, e4⟩ := same c (ow2 _ (.inr ⟨x, hc⟩))
      rw [e3] at ho; cases ho
      exact .inr ⟨k, c, hc, _, e4, hcd⟩
  · obtain ⟨v, oc, ho, hcd⟩ := R.I.cell x c e
    obtain ⟨o2, e3, e4⟩ := same c (ow2 _ (.inr ⟨x, e⟩))
    rw [e3] at ho; cases ho
    exact ⟨v, _, e4, hcd⟩
  · have : Hw g γ2 H g.n0 = none := by rw [wd _ (ow2 _ (.inl rfl))]; exact R.I.free
    exact this
  · rw [wd _ (ow2 _ (.inr ⟨x, e⟩))]; exact R.I.freeC x c e
  · exact absurd (show p ∈ ([] : List (Addr × Obj)) from h) (by simp)
  · have hd : ¬ dom γ2.pv b := fun h => by obtain ⟨_, _, _, q⟩ := dom_frz C h; rw [e] at q; cases q
    rw [wn b hd, Bg_el hd fun h => by have := h.2.2.2.1; rw [e] at this; cases this]
    exact C.zh b u e
  · intro b u e n
    have hd : ¬ dom γ2.pv b := fun h => by have e' : Bg g γ2 b = some u := e; rw [Bg_dom h] at e'; cases e'
    rw [wn b hd]; exact e
  · intro b u e n
    have hd : ¬ dom γ2.pv b := fun h => by have e' : Bg g γ2 b = some u := e; rw [Bg_dom h] at e'; cases e'
    rw [wn b hd]; exact e
  · intro p hpp
    obtain ⟨ps, h1, h2, h3⟩ := C.tb p hpp
    refine ⟨ps, ?_, h2, fun pos cv hc => ?_⟩
    · rw [low _ (S2.tn p hpp) (ndm _ _ h1 fun _ z => nomatch z)]; exact h1
    · obtain ⟨c, e1, e2⟩ := h3 pos cv hc
      exact ⟨c, e1, seen c _ e2 (fun _ z => nomatch z) (fun _ z => nomatch z)⟩
  · have w := R.S.s.at_ i sl h
    cases sl with
    | no => trivial
    | val d => obtain ⟨v, e, r⟩ := w; exact ⟨v, e, r.mono hz⟩
    | raw v => exact w
    | own ds =>
      obtain ⟨l, xs, e, hl, zl, f1, f2, r⟩ := w
      have hd : dom γ2.pv l := by
        rw [hp]
        obtain ⟨o, eo⟩ := okSome (R.I.hok l _ hl)
        refine dom_pvOf.mpr ⟨⟨o, eo⟩, ?_, .inr (.inl ⟨xs, hl⟩), zl⟩
        by_cases hd : dom γ.pv l
        · exact .inl hd
        · right
          cases q : γ.sW.heap.get? l with
          | none => rfl
          | some ol =>
            exfalso
            cases q2 : γ.HW l with
            | none =>
              have := (R.un q q2).2.2
              by_cases hk : lk g γ l
              · have := (R.lkH hk q).1
                rw [hl] at this; cases this
              · rw [Hs_el (fun h => by
                  rcases (dom_pvOf.mp h).2.1 with z | z
                  · exact hd z
                  · rw [q] at z; cases z) hk, hl] at this
                cases this
            | some u =>
              by_cases ht : ∃ ps, u = .tbl ps
              · obtain ⟨ps, rfl⟩ := ht
                obtain ⟨more, z⟩ := R.aft.tbls l ps q2
                by_cases hk : lk g γ l
                · have := (R.lkH hk q).1
                  rw [hl] at this; cases this
                · rw [Hs_el (fun h => by
                    rcases (dom_pvOf.mp h).2.1 with z | z
                    · exact hd z
                    · rw [q] at z; cases z) hk, hl] at z
                  cases z
              · obtain ⟨ps, z⟩ := f1 u (Bg_of hd q2 fun ps z => ht ⟨ps, z⟩)
                exact ht ⟨ps, z⟩
      refine ⟨l, xs, e, by rw [wd l hd]; exact hl, ?_, ?_, ?_, r.mono hz⟩
      · obtain ⟨_, _, _, q⟩ := dom_frz C hd; exact q
      · exact Frsh.none (Bg_dom hd)
      · exact Frsh.none (Bg_dom hd)
end
end GL
set_option maxHeartbeats 4000000
/-! A generator def's body by data. -/
namespace GL
open PySem PySem.Spec PyProof.Rows L2 DL
open Sem (wp)
open Classical

def Susp (x : GenState) : Prop := ∃ k l c p fs cl, x = .suspended k l c p fs cl
def nv (γ : Gh) : Prop := γ.xe = (fun _ _ => False) ∧ γ.er = (fun _ _ => False) ∧ γ.ok = True
/-- how a stretch ends: rem: what is still to be handed out -/
def Post (g : Inst) : List D → Gh → End → Shared → Prop
  | [], γ, e, s' => (∃ x, e = .ret (.error x) ∧ γ.er x s') ∨ (γ.ok ∧ e = .ret (.ok (.ret .none)) ∧ ∃ pv' H' Z', Aft g.P g.w g.K (frs g.outer) g.n0 γ pv' H' Z' s')
  | y :: ys, γ, e, s' => (∃ x, e = .ret (.error x) ∧ γ.er x s') ∨ γ.ok ∧ ∃ v b l k c p fs, e = .susp v b l k c p fs ∧ e.quiet = true ∧ ∃ (pv' : List (Addr × Obj)) (gp' : List (Nat × GenState)) (H' Z' : Hp) (x : V), Aft g.P g.w g.K (frs g.outer) g.n0 γ pv' H' Z' s' ∧ RelV x v ∧ Rep g.K Z' x y ∧
      (∀ q ∈ gp', s'.gens[(q : Nat × GenState).1]? = some q.2 ∧ Susp q.2 ∧ g.gi ≤ q.1) ∧ ∀ γ2 : Gh, γ2.pv = pv' → WkC g γ2 → Ex Z' γ2.ZW → nv γ2 → (∀ q ∈ gp', γ2.sW.gens[(q : Nat × GenState).1]? = some q.2) → Goes (model g.P g.w) γ2.A (Post g ys γ2) e.genState γ2.sW
theorem Post.quiet {g : Inst} {rem : List D} {γ : Gh} {e : End} {s' : Shared} (h : Post g rem γ e s') : e.quiet = true := by
  cases rem with
  | nil => rcases h with ⟨x, rfl, _⟩ | ⟨_, rfl, _⟩ <;> rfl
  | cons y ys =>
    rcases h with ⟨x, rfl, _⟩ | ⟨_, v, b, l, k, c, p, fs, rfl, q, _⟩
    · rfl
    · exact q
structure GC (g : Inst) (c : Code) (fs : List Frame) (gd : Bool → Bool) : Prop where
  over : ∀ A : Around, A.over c fs = A.deeper g.env
  split : splitAtGen fs = none
  guard : fs.any Frame.guarded = false
  gd : gd false = false
abbrev Sx (g : Inst) (γ : Gh) (rem : List D) (c : Code) (t : Sem PySem.Fin) (fs : List Frame) (s : Shared) : Prop := Sg (model g.P g.w) γ.A (Post g rem γ) c t fs s
def GT (g : Inst) (t : Sem Flow) (ρ : List Sl) (rem : List D) (Nx : List Sl → List D → Prop) : Prop :=
  ∀ c fs (K : Flow → Sem PySem.Fin) (J : Value → Sem PySem.Fin) gd lv, GC g c fs gd → (∀ γ σ H Z ρ' rem' s, nv γ → Nx ρ' rem' → Rn g γ σ H Z ρ' s → Sx g γ rem' c (K .next) fs s) →
    ∀ γ σ H Z s, nv γ → Rn g γ σ H Z ρ s → Sx g γ rem c (t.wrap K J gd lv) fs s
section
variable {g : Inst} {γ γ2 : Gh} {σ : L2.St} {H Z : Hp} {ρ : List Sl} {s : Shared} {rem ys : List D} {y : D} {c : Code} {fs : List Frame} {Nx : List Sl → List D → Prop}
theorem sg_sleep {v : Value} {x : V} {l : List Value} {k : Resume → Sem PySem.Fin} {gp : List (Nat × GenState)} (hfs : splitAtGen fs = none) (hfg : fs.any Frame.guarded = false) (hk : γ.ok) (R : Rn g γ σ H Z ρ s) (rv : RelV x v) (rx : Rep g.K Z x y)
    (hgp : ∀ q ∈ gp, s.gens[q.1]? = some q.2 ∧ Susp q.2 ∧ g.gi ≤ q.1) (h : ∀ γ2, nv γ2 → (∀ q ∈ gp, γ2.sW.gens[q.1]? = some q.2) → γ2.pv = pvOf γ H Z s → WkC g γ2 → Ex Z γ2.ZW → Rn g γ2 σ (Hw g γ2 H) γ2.ZW ρ γ2.sW → Sx g γ2 ys c (k (.send .none)) fs γ2.sW) :
    Sx g γ (y :: ys) c (.yield v false l k) fs s :=
  sg_yield hfs fun p => Or.inr ⟨hk, v, false, l, k, c, p, fs, rfl, by show (!(false || fs.any Frame.guarded)) = true; rw [hfg]; rfl, pvOf γ H Z s, gp, Hs g γ H Z s, Z, x, R.aft, rv, rx, hgp, fun γ2 hp C hz n q => h γ2 n q hp C hz (R.wake hp C hz)⟩
theorem wpz {α : Type} {M : Model} {A : Around} {t : Sem α} {Q : α → Shared → Prop} {E : Value → Shared → Prop} {n : Nat} (hn : n ≤ s.gens.size) (h : wpAny M A t Q E s) : wpAny M A t (fun a s' => Q a s' ∧ n ≤ s'.gens.size) E s :=
  GenW.wpAny_gsz hn (wpAny_mono h (fun _ _ q z => ⟨q, z⟩) fun _ _ q _ => q)
theorem xw_never {X : Cx} {E : Cfg} : XW X E (fun _ => False) := ⟨fun _ _ _ _ => False, fun u s' ⟨_, _, _, _, _, _, _, _, _, _, _, _, _, _, _, _, w⟩ => w.elim, fun _ _ _ h => h.elim⟩
theorem gt_mono {t : Sem Flow} {Nx' : List Sl → List D → Prop} (h : GT g t ρ rem Nx) (m : ∀ ρ' r, Nx ρ' r → Nx' ρ' r) : GT g t ρ rem Nx' := fun c fs K J gd lv gc k => h c fs K J gd lv gc fun γ σ H Z ρ' rem' s n q => k γ σ H Z ρ' rem' s n (m ρ' rem' q)
/-- statements that hand out nothing -/
theorem gt_plain {sts : List Stmt} {P : Po} (h : ∀ γ, Room g.k (g.X γ).A → PassesOwn (model g.P g.w) (g.X γ).A (g.X γ).env (g.X γ).xe → DSs (g.X γ) sts ρ P) (hn : ∀ ρ', P.nx ρ' → Nx ρ' rem) (h1 : ∀ d, ¬ P.rt d := by intro _ z; exact z) (h2 : ∀ d, ¬ P.bk d := by intro _ z; exact z) (h3 : ∀ d, ¬ P.ct d := by intro _ z; exact z) (h4 : P.xn = fun _ => False := by rfl) :
    GT g (execs sts g.env) ρ rem Nx := fun c fs K J gd lv gc k γ σ H Z s n R => by
  refine sg_wrap ?_
  rw [gc.over]
  have xe : (g.X γ).xe = fun _ _ => False := n.1
  have hp : PassesOwn (model g.P g.w) (g.X γ).A (g.X γ).env (g.X γ).xe := by rw [xe]; exact PassesOwn.never
  have d := h γ R.c.room hp (g.E γ) Z H σ R.S (by rw [h4]; exact xw_never) [] s R.I
  refine wpAny_mono (wpz R.gz d) (fun f s' ⟨q, gz⟩ => ?_) fun x s' hx => by rw [xe] at hx; exact hx.elim
  cases f with
  | next => obtain ⟨σ', H', I', Z', ρ', S', q⟩ := q; exact k γ σ' H' Z' ρ' rem s' n (hn ρ' q) ⟨I', S', R.c, R.w, gz⟩
  | ret v => obtain ⟨_, _, _, _, _, _, d, _, q⟩ := q; exact absurd q (h1 d)
  | brk => obtain ⟨_, _, _, _, ρ', _, q⟩ := q; exact absurd q (h2 ρ')
  | cont => obtain ⟨_, _, _, _, ρ', _, q⟩ := q; exact absurd q (h3 ρ')
theorem gt_plain1 {st : Stmt} {P : Po} (h : ∀ γ, Room g.k (g.X γ).A → PassesOwn (model g.P g.w) (g.X γ).A (g.X γ).env (g.X γ).xe → DS (g.X γ) st ρ P) (hn : ∀ ρ', P.nx ρ' → Nx ρ' rem) (h1 : ∀ d, ¬ P.rt d := by intro _ z; exact z) (h2 : ∀ d, ¬ P.bk d := by intro _ z; exact z) (h3 : ∀ d, ¬ P.ct d := by intro _ z; exact z) (h4 : P.xn = fun _ => False := by rfl) :
    GT g (exec st g.env) ρ rem Nx := fun c fs K J gd lv gc k γ σ H Z s n R => by
  refine sg_wrap ?_
  rw [gc.over]
  have xe : (g.X γ).xe = fun _ _ => False := n.1
  have hp : PassesOwn (model g.P g.w) (g.X γ).A (g.X γ).env (g.X γ).xe := by rw [xe]; exact PassesOwn.never
  have d := h γ R.c.room hp (g.E γ) Z H σ R.S (by rw [h4]; exact xw_never) [] s R.I
  refine wpAny_mono (wpz R.gz d) (fun f s' ⟨q, gz⟩ => ?_) fun x s' hx => by rw [xe] at hx; exact hx.elim
  cases f with
  | next => obtain ⟨σ', H', I', Z', ρ', S', q⟩ := q; exact k γ σ' H' Z' ρ' rem s' n (hn ρ' q) ⟨I', S', R.c, R.w, gz⟩
  | ret v => obtain ⟨_, _, _, _, _, _, d, _, q⟩ := q; exact absurd q (h1 d)
  | brk => obtain ⟨_, _, _, _, ρ', _, q⟩ := q; exact absurd q (h2 ρ')
  | cont => obtain ⟨_, _, _, _, ρ', _, q⟩ := q; exact absurd q (h3 ρ')
theorem gt_nil (h : Nx ρ rem) : GT g (execs [] g.env) ρ rem Nx := fun c fs K J gd lv gc k γ σ H Z s n R => k γ σ H Z ρ rem s n h R
theorem gt_cons {st : Stmt} {rest : List Stmt} (h : GT g (exec st g.env) ρ rem fun ρ' rem' => GT g (execs rest g.env) ρ' rem' Nx) : GT g (execs (st :: rest) g.env) ρ rem Nx := fun c fs K J gd lv gc k γ σ H Z s n R => by
  rw [execs_cons_wrap]
  exact h c fs _ J gd lv gc (fun γ' σ' H' Z' ρ' rem' s' n' q R' => q c fs K J gd lv gc k γ' σ' H' Z' s' n' R') γ σ H Z s n R
theorem gt_one {st : Stmt} (h : GT g (exec st g.env) ρ rem Nx) : GT g (execs [st] g.env) ρ rem Nx := gt_cons (gt_mono h fun _ _ q => gt_nil q)
theorem gt_if {t : Expr} {body orelse : List Stmt} {pos : Pos} {k : Bool} (hc : ∀ γ, Room g.k (g.X γ).A → DT (g.X γ) t ρ k) (h1 : k = true → GT g (execs body g.env) ρ rem Nx) (h2 : k = false → GT g (execs orelse g.env) ρ rem Nx) : GT g (exec (.If t body orelse pos) g.env) ρ rem Nx := fun c fs K J gd lv gc kk γ σ H Z s n R => by
  rw [exec_If]
  refine sg_at ?_
  show Sx g γ rem c (((isTrue t g.env (eval t g.env)).bind _).wrap K J gd lv) fs s
  rw [Sem.bind_eq_wrap, Sem.wrap_wrap]
  refine sg_wrap ?_
  rw [gc.over]
  have xe : (g.X γ).xe = fun _ _ => False := n.1
  refine wpAny_mono (wpz R.gz (hc γ R.c.room (g.E γ) Z H σ R.S (fun b H' => b = k ∧ ∃ Z', G g.K Z H Z' H') (fun Z' H' g' => ⟨rfl, Z', g'⟩) [] s R.I)) (fun b s' ⟨q, gz⟩ => ?_) fun x s' hx => by rw [xe] at hx; exact hx.elim
  obtain ⟨H', I', rfl, Z', g'⟩ := q
  have R' : Rn g γ σ H' Z' ρ s' := ⟨I', R.S.grow g', R.c, R.w, gz⟩
  cases b with
  | true => exact h1 rfl c fs K J gd lv gc kk γ σ H' Z' s' n R'
  | false => exact h2 rfl c fs K J gd lv gc kk γ σ H' Z' s' n R'
/-! ### yield -/
theorem sg_yieldE {e : Expr} {yp pos : Pos} {K : Flow → Sem PySem.Fin} {J : Value → Sem PySem.Fin} {gd : Bool → Bool} {lv : List Value → List Value} {M : Model} {A : Around} {Φ : End → Shared → Prop} {env : Env} (hgd : gd false = false)
    (h : wpAny M (A.over c fs) (eval e env) (fun v s' => ∀ l, ∀ k : Resume → Sem PySem.Fin, k (.send .none) = K .next → Sg M A Φ c (.yield v false l k) fs s') (fun x s' => Sg M A Φ c (J x) fs s') s)
    (hco : env.scope.isCoroutine = false := by rfl) (hi : interactive env = false := by rfl) : Sg M A Φ c ((exec (.Expr (.Yield (some e) yp) pos) env).wrap K J gd lv) fs s := by
  rw [exec_Expr env _ pos hi rfl]
  show Sg M A Φ c (.at pos fun _ => ((eval e env >>= fun v => (standAt yp >>= fun _ => yieldOut env v)) >>= fun x => dropValue (.Yield (some e) yp) pos x).wrap K J gd lv) fs s
  have hy : ∀ v, yieldOut env v = yieldValue v := fun v => by simp only [yieldOut, hco, Bool.false_eq_true, if_false]
  simp only [hy]
  refine sg_at ?_
  rw [Sem.bind_eq_wrap', Sem.bind_eq_wrap', Sem.wrap_wrap, Sem.wrap_wrap]
  refine sg_wrap (wpAny_mono h (fun v s' h' => ?_) fun _ _ x => x)
  refine sg_at ?_
  have := fun l k q => h' l k q
  show Sg M A Φ c (.yield v (gd false) _ _) fs s'
  rw [hgd]
  exact h' _ _ rfl
theorem gt_yield {e : Expr} {yp pos : Pos} (he : ∀ γ, Room g.k (g.X γ).A → DE (g.X γ) e ρ y) (hn : Nx ρ ys) (hco : g.env.scope.isCoroutine = false := by rfl) (hi : interactive g.env = false := by rfl) : GT g (exec (.Expr (.Yield (some e) yp) pos) g.env) ρ (y :: ys) Nx := fun c fs K J gd lv gc k γ σ H Z s n R => by
  refine sg_yieldE gc.gd ?_ hco hi
  rw [gc.over]
  have xe : (g.X γ).xe = fun _ _ => False := n.1
  refine wpAny_mono (wpz R.gz (he γ R.c.room (g.E γ) Z H σ R.S (fun v H' => ∃ Z', G g.K Z H Z' H' ∧ Rep g.K Z' v y) (fun v Z' H' g' r => ⟨Z', g', r⟩) [] s R.I)) (fun u s' ⟨q, gz⟩ => ?_) fun x s' hx => by rw [xe] at hx; exact hx.elim
  obtain ⟨v, H', I', rv, Z', g', r⟩ := q
  intro l kk ek
  have R' : Rn g γ σ H' Z' ρ s' := ⟨I', R.S.grow g', R.c, R.w, gz⟩
  refine sg_sleep (gp := []) gc.split gc.guard (by rw [n.2.2]; trivial) R' rv r (fun q hq => absurd hq (by simp)) fun γ2 n2 _ _ _ _ R2 => ?_
  rw [ek]
  exact k γ2 σ _ γ2.ZW ρ ys γ2.sW n2 hn R2
/-! ### while -/
theorem gc_deep {gd : Bool → Bool} {c' : Code} {k : Result → Sem PySem.Fin} {l kp : List Value} {p : Pos} (gc : GC g c fs gd) (hw : c'.weight = 0) (hu : c'.cUnits = 0) : GC g c' (.ret k none (gd false) l c p kp :: fs) id where
  over := fun A => (GenW.over_loop hw hu).trans (gc.over A)
  split := by
    show (splitAtGen fs).map _ = none
    rw [gc.split]; rfl
  guard := by
    show (gd false || fs.any Frame.guarded) = false
    rw [gc.gd, gc.guard]; rfl
  gd := rfl
theorem gt_while {t : Expr} {body : List Stmt} {pos : Pos} (W : Nat → List Sl → List D → Prop) (m0 : Nat) (h0 : W m0 ρ rem)
    (hs : ∀ m ρ' rem', W m ρ' rem' → ∃ k, (∀ γ, Room g.k (g.X γ).A → DT (g.X γ) t ρ' k) ∧ (k = true → GT g (execs body g.env) ρ' rem' fun ρ2 r2 => ∃ m', m' < m ∧ W m' ρ2 r2) ∧ (k = false → Nx ρ' rem')) : GT g (exec (.While t body [] pos) g.env) ρ rem Nx := fun c fs K J gd lv gc kk γ σ H Z s n R => by
  rw [exec_While]
  refine sg_at ?_
  show Sx g γ rem c (((Sem.call (.whileLoop t body [] g.env) none false [] fun r => match r with | .ok f => (.pure f : Sem Flow) | .error e => .raise e).onRaise _).wrap K J gd lv) fs s
  refine sg_call fun p => ?_
  have loop : ∀ (m : Nat) (γ : Gh) σ H Z ρ' rem' s, nv γ → W m ρ' rem' → Rn g γ σ H Z ρ' s → Sx g γ rem' (.whileLoop t body [] g.env) ((model g.P g.w).den (.whileLoop t body [] g.env)) (.ret (fun r => ((match r with | .ok f => (.pure f : Sem Flow) | .error e => .raise e).onRaise fun (x : Value) => do
        if (← field x 1) == Value.none then unsupported "frame.own-activation:exception-without-traceback"
        setFlight x g.env.frame).wrap K J gd lv) none (gd false) (lv []) c p [] :: fs) s := by
    intro m
    induction m using Nat.strongRecOn with
    | ind m ih =>
      intro γ σ H Z ρ' rem' s n w R
      obtain ⟨k, hk, h1, h2⟩ := hs m ρ' rem' w
      have gl := fun (k : Result → Sem PySem.Fin) => gc_deep (k := k) (c' := .whileLoop t body [] g.env) (l := lv []) (kp := []) (p := p) gc rfl rfl
      have xe : (g.X γ).xe = fun _ _ => False := n.1
      show Sx g γ rem' _ ((whileTurn t body [] g.env).onRaise fun x => do noteFrame x g.env; theTreesLotGoes x) _ s
      unfold whileTurn
      rw [Sem.onRaise_eq_wrap, Sem.bind_eq_wrap', Sem.wrap_wrap]
      refine sg_wrap ?_
      rw [(gl _).over]
      refine wpAny_mono (wpz R.gz (hk γ R.c.room (g.E γ) Z H σ R.S (fun b H' => b = k ∧ ∃ Z', G g.K Z H Z' H') (fun Z' H' g' => ⟨rfl, Z', g'⟩) [] s R.I)) (fun b s' ⟨q, gz⟩ => ?_) fun x s' hx => by rw [xe] at hx; exact hx.elim
      obtain ⟨H', I', rfl, Z', g'⟩ := q
      have R' : Rn g γ σ H' Z' ρ' s' := ⟨I', R.S.grow g', R.c, R.w, gz⟩
      cases b with
      | true =>
        show Sx g γ rem' _ (Sem.wrap _ _ _ _ (if true = true then _ else _)) _ s'
        rw [if_pos rfl, Sem.bind_eq_wrap', Sem.wrap_wrap]
        refine h1 rfl _ _ _ _ _ _ (gl _) (fun γ2 σ2 H2 Z2 ρ2 r2 s2 n2 ⟨m', lt, w2⟩ R2 => ?_) γ σ H' Z' s' n R'
        exact sg_again rfl (ih m' lt γ2 σ2 H2 Z2 ρ2 r2 s2 n2 w2 R2)
      | false =>
        show Sx g γ rem' _ (Sem.wrap _ _ _ _ (if false = true then _ else _)) _ s'
        rw [if_neg Bool.false_ne_true, Sem.bind_eq_wrap', Sem.wrap_wrap]
        exact sg_leaf (.ok .next) (kk γ σ H' Z' ρ' rem' s' n (h2 rfl) R')
  exact loop m0 γ σ H Z ρ rem s n h0 R
end
end GL
set_option maxHeartbeats 4000000
/-! A generator def called; its body as a whole. -/
namespace GL
open PySem PySem.Spec PyProof.Rows L2 DL
open Sem (wp)
open Classical

/-- what an exception of the first stretch says -/
noncomputable def EXg (g : Inst) (γ : Gh) (er : Option Addr) : XK := fun cls d H' => ∃ C, er = some C ∧ cls = .ref C ∧ d = none ∧ LamX.ExtN (Bg g γ) H' ∧ LamX.Tabs (tabs g.K) H'
structure Md (g : Inst) (er : Option Addr) (γ : Gh) : Prop where
  her : γ.er = fun e s' => L2.CX g.P g.w g.outer (H0g g γ) (trunc γ.sW g.n0 γ.pv) (EXg g γ er) e s'
  hok : γ.ok = (er = none)
  hxe : γ.xe = fun e s' => wpAny (model g.P g.w) (γ.A.deeper g.env) (leaving g.env e) (fun _ s'' => L2.CX g.P g.w g.outer (H0g g γ) (trunc γ.sW g.n0 γ.pv) (EXg g γ er) e s'') (fun _ _ => False) s'
def GTop (g : Inst) (body : List Stmt) (ρ : List Sl) (items : List D) (er : Option Addr) : Prop := ∀ γ σ H Z s, Md g er γ → Rn g γ σ H Z ρ s → Sx g γ items (.func body g.env) ((model g.P g.w).den (.func body g.env)) [] s
theorem execs_app_wrap {env : Env} {tl : List Stmt} {J : Value → Sem PySem.Fin} {gd : Bool → Bool} {lv : List Value → List Value} : ∀ (pre : List Stmt) (K : Flow → Sem PySem.Fin),
    (execs (pre ++ tl) env).wrap K J gd lv = (execs pre env).wrap (fun f => match f with | .next => (execs tl env).wrap K J gd lv | f => K f) J gd lv
  | [], K => rfl
  | st :: pre, K => by
    show (execs (st :: (pre ++ tl)) env).wrap K J gd lv = _
    rw [execs_cons_wrap, execs_cons_wrap]
    exact Sem.wrap_congr _ _ _ (fun f => by
      cases f with
      | next => exact execs_app_wrap pre K
      | _ => rfl) (fun _ => rfl)
section
variable {g : Inst} {γ γ2 : Gh} {σ : L2.St} {H Z : Hp} {ρ : List Sl} {s : Shared} {rem ys : List D} {y : D} {c : Code} {fs : List Frame} {er : Option Addr}
abbrev calmG (γ : Gh) : Gh := { γ with xe := fun _ _ => False, er := fun _ _ => False, ok := True }
theorem Rn.calm (R : Rn g γ σ H Z ρ s) : Rn g (calmG γ) σ H Z ρ s :=
  have I := R.I
  ⟨⟨⟨I.ok.mod, I.ok.kind, I.ok.glob, I.ok.blt, I.ok.above, I.ok.inj, I.ok.has, I.ok.cab, I.ok.hd, I.ok.frames, I.ok.stk, I.ok.exf, I.ok.bs, I.ok.bsz, I.ok.noex, I.ok.exfs, I.ok.funs, I.ok.frf⟩, I.os, I.bare, I.base, I.loc, I.cell, I.free, I.freeC, I.pin, I.hok, I.len⟩, R.S, ⟨R.c.env, R.c.room, R.c.n0, R.c.pv, R.c.zh, R.c.tb, R.c.gz, R.c.nz⟩, ⟨R.w.own, R.w.tn, R.w.fn, R.w.bn⟩, R.gz⟩
theorem aft_same {P : Program} {w : World} {K : PySem.W.Frag} {fs : List Addr} {n0 : Addr} {γ γ' : Gh} {pv' : List (Addr × Obj)} {H' Z' : Hp} {s' : Shared} (a : Aft P w K fs n0 γ pv' H' Z' s') (h1 : γ'.sW = γ.sW) (h2 : γ'.HW = γ.HW) (h3 : γ'.ZW = γ.ZW) (h4 : γ'.pv = γ.pv) : Aft P w K fs n0 γ' pv' H' Z' s' :=
  ⟨by rw [h1]; exact a.os, a.sz, a.bare, by rw [h1, h2]; exact a.keep, by rw [h1, h2]; exact a.slot, by rw [h1, h2]; exact a.free, by rw [h1, h4]; exact a.there, by rw [h2, h4]; exact a.ext, by rw [h2]; exact a.tbls, a.hok, by rw [h3]; exact a.z, a.zh, a.tb, by rw [h2, h3, h4]; exact a.fr, a.nz, a.pv, by rw [h1, h4]; exact a.new⟩
theorem post_calm {e : End} {s' : Shared} (hk : γ.ok) (h : Post g rem (calmG γ) e s') : Post g rem γ e s' := by
  cases rem with
  | nil =>
    rcases h with ⟨x, _, q⟩ | ⟨_, rfl, pv', H', Z', a⟩
    · exact False.elim q
    · exact .inr ⟨hk, rfl, pv', H', Z', aft_same a rfl rfl rfl rfl⟩
  | cons y ys =>
    rcases h with ⟨x, _, q⟩ | ⟨_, v, b, l, k, c, p, fs, rfl, q, pv', gp', H', Z', x, a, r⟩
    · exact False.elim q
    · exact .inr ⟨hk, v, b, l, k, c, p, fs, rfl, q, pv', gp', H', Z', x, aft_same a rfl rfl rfl rfl, r⟩
theorem md_takes (m : Md g er γ) : XW (g.X γ) (g.E γ) (fun C => er = some C) :=
  ⟨fun cls d _ H' => EXg g γ er cls d H', takes_of (X := g.X γ) (E := EXg g γ er) (E₁ := fun _ _ => False) rfl rfl rfl m.hxe, fun C σ H' e h1 h2 h3 => ⟨C, e, rfl, rfl, h1, h3⟩⟩
theorem gtop_of {pre tl body : List Stmt} {Tl : List Sl → Prop} (hb : body = pre ++ tl) (h : ∀ γ, Room g.k (g.X γ).A → PassesOwn (model g.P g.w) (g.X γ).A (g.X γ).env (g.X γ).xe → DSs (g.X γ) pre ρ { nx := Tl, rt := fun _ => False, xn := fun C => er = some C })
    (ht : ∀ ρ', Tl ρ' → er = none ∧ GT g (execs tl g.env) ρ' rem fun _ r => r = []) : GTop g body ρ rem er := fun γ σ H Z s m R => by
  subst hb
  show Sx g γ rem _ (.point [] fun _ => ((execs (pre ++ tl) g.env).onRaise (leaving g.env)) >>= _) [] s
  refine sg_point ?_
  rw [Sem.onRaise_eq_wrap, Sem.bind_eq_wrap', Sem.wrap_wrap, execs_app_wrap]
  refine sg_wrap ?_
  rw [GenW.over_func]
  have hp : PassesOwn (model g.P g.w) (g.X γ).A (g.X γ).env (g.X γ).xe := passes_of (X := g.X γ) (E₁ := fun _ _ => False) m.hxe
  refine wpAny_mono (wpz R.gz (h γ R.c.room hp (g.E γ) Z H σ R.S (md_takes m) [] s R.I)) (fun f s' ⟨q, gz⟩ => ?_) fun x s' hx => ?_
  · cases f with
    | next =>
      obtain ⟨σ', H', I', Z', ρ', S', q⟩ := q
      have R' : Rn g (calmG γ) σ' H' Z' ρ' s' := Rn.calm ⟨I', S', R.c, R.w, gz⟩
      refine sg_mono (Φ := Post g rem (calmG γ)) (A := γ.A) ((ht ρ' q).2 _ [] _ _ _ _ ⟨fun A => GenW.over_func, rfl, rfl, rfl⟩ (fun γ3 σ3 H3 Z3 ρ3 r3 s3 n3 q3 R3 => ?_) (calmG γ) σ' H' Z' s' ⟨rfl, rfl, rfl⟩ R') fun e s'' z => post_calm (by rw [m.hok]; exact (ht ρ' q).1) z
      have q3' : r3 = [] := q3
      subst q3'
      exact sg_end (.ok (.ret .none)) (Or.inr ⟨by rw [n3.2.2]; trivial, rfl, _, _, _, R3.aft⟩)
    | ret v => obtain ⟨_, _, _, _, _, _, d, _, q⟩ := q; exact False.elim q
    | brk => obtain ⟨_, _, _, _, ρ', _, q⟩ := q; exact False.elim q
    | cont => obtain ⟨_, _, _, _, ρ', _, q⟩ := q; exact False.elim q
  · have xe : (g.X γ).xe = γ.xe := rfl
    rw [xe, m.hxe] at hx
    show Sx g γ rem _ (Sem.wrap _ _ _ _ ((leaving g.env x).bind fun _ => .raise x)) [] s'
    rw [Sem.bind_eq_wrap, Sem.wrap_wrap]
    refine sg_wrap ?_
    rw [GenW.over_func]
    refine wpAny_mono hx (fun _ s'' q => ?_) fun _ _ q => False.elim q
    refine sg_end (.error x) ?_
    have q' : γ.er x s'' := by rw [m.her]; exact q
    cases rem with
    | nil => exact .inl ⟨x, rfl, q'⟩
    | cons y ys => exact .inl ⟨x, rfl, q'⟩
end
/-! ### the call -/
def IsGo (go : Obj) (gn : Nat) : Prop := ∃ nm qn, go.cls = .type "generator" ∧ go.data = .fields #[.int gn 0, nm, qn] ∧ go.slots = #[]
theorem IsGo.at {go : Obj} {gn : Nat} {h : Heap} {a : Addr} (x : IsGo go gn) (e : h.get? a = some go) : h.IsGen a gn := let ⟨nm, qn, h1, h2, h3⟩ := x; ⟨go, nm, qn, e, h1, h2, h3⟩
theorem IsGo.nocell {go : Obj} {gn : Nat} (x : IsGo go gn) : ∀ v, go.data ≠ .cell v := fun v q => by obtain ⟨_, _, _, h, _⟩ := x; rw [h] at q; cases q
/-- what a call gives -/
structure GMd (g : Inst) (s : Shared) (H Z : Hp) (items : List D) (er : Option Addr) (a : Addr) (gn : Nat) (go : Obj) (pv : List (Addr × Obj)) (H' : Hp) (s' : Shared) : Prop where
  kept : ∀ b o, s.heap.get? b = some o → s'.heap.get? b = some o
  new : s.heap.objs.size ≤ a
  at_ : s'.heap.get? a = some go
  go : IsGo go gn
  gi : g.gi = gn + 1
  gnew : s.gens.size ≤ gn
  os : s'.os = s.os
  bare : AllBare s'.gens
  lim : s'.heap.NoLimit
  hpv : ∀ p ∈ pv, s'.heap.get? p.1 = some p.2 ∧ H' p.1 = some (.frz p.2 (.own 0)) ∧ Z p.1 = none ∧ s.heap.get? p.1 = none ∧ p.1 ≠ a
  hp : ∀ b, ¬ dom pv b → H' b = H b
  hok : HOk g.P g.w H' s'.heap
  st : ∃ c, s'.gens[gn]? = some (.fresh c) ∧ ∀ γ : Gh, γ.pv = pv → WkC g γ → Ex Z γ.ZW → Md g er γ → Goes (model g.P g.w) γ.A (Post g items γ) (.fresh c) γ.sW
def GenOk (P : Program) (w : World) (K : PySem.W.Frag) (mg : Str → Option Value) (base : Heap) (x : Str) (k : Nat) (R : List D → List D → Option Addr → Prop) : Prop :=
  ∃ f fd ps N qual st, mg x = some (.ref f) ∧ PySem.W.keepIn K (.ref f) = true ∧ Binds K fd ps [] ∧ (∀ ds items er, R ds items er → ds.length = ps.length) ∧
    ∀ (A : Around) (outer : List Env) (s : Shared) (H Z : Hp) (args : Args) (us : List Value) (vs : List V) (ds items : List D) (er : Option Addr), Room (k + 1) A → Env0 P w K mg base A outer s H → BindsTo s fd args (ps.zip us) → Vals vs us → RepL K Z vs ds → Ex Z H → NoT Z → LamX.Tabs (tabs K) H → R ds items er →
      codeAny (model P w) A (.call (.ref f) args) (fun r s' => ∃ cdv gi a gn go pv H', r = .ok (.ret (.ref a)) ∧ GMd ⟨P, w, K, mg, base, N, qual, st, f, cdv, outer, s.heap.objs.size, k, gi⟩ s H Z items er a gn go pv H' s') s
theorem gen_ok {P : Program} {w : World} {K : PySem.W.Frag} {mg : Str → Option Value} {base : Heap} {x : Str} {st : Stmt} {f : Addr} {fd : FuncData} {N ps : List Str} {k : Nat} {R : List D → List D → Option Addr → Prop} (F : FunD K x x (defArgs st) (defBody st) (defScope st) [] [] f fd) (hm : mg x = some (.ref f)) (S : GScope N ps (defScope st)) (len : ∀ ds items er, R ds items er → ds.length = ps.length)
    (hb : ∀ (kV doc pm : Value) (an : Option Addr) (cdv ct : Value) (us : List Value), us.length = ps.length → bindArgs (PySem.W.fnOf x x (defArgs st) (defBody st) (defScope st) .none kV doc pm an cdv ct) ⟨us, []⟩ = pure (ps.zip us))
    (hbody : ∀ (cdv : Value) (outer : List Env) (n0 : Addr) (gi : Nat) ds items er, R ds items er → GTop ⟨P, w, K, mg, base, N, x, st, f, cdv, outer, n0, k, gi⟩ (defBody st) (sl0 N ds) items er) : GenOk P w K mg base x k R := by
  refine ⟨f, fd, ps, N, x, st, hm, F.kp, F.bindsN hb, len, fun A outer s H Z args us vs ds items er hr e0 hbt r rl zh nz tb hR => ?_⟩
  obtain ⟨oc, od, dV, kV, doc, pm, an, cdv, ct, osl, rfl, lkf, hcd, _, _⟩ := F.ex
  have hl : ds.length = ps.length := len _ _ _ hR
  have hlv : vs.length = ps.length := by rw [rl.length]; exact hl
  have KX : K.In s.heap := e0.mod.kin.keeps fun b o e => (e0.bs b o e).1
  have lim : s.heap.NoLimit := e0.mod.nolimit.keeps fun b o e => (e0.bs b o e).1
  have hkind : ∀ y ∈ ps.zip us, (defScope st).names.lookup y.1 = some .local ∨ ((defScope st).names.lookup y.1 = some .cell ∧ ((cellsFrom (s.heap.objs.size + 1) (defScope st).names []).lookup y.1).isSome = true) := fun ⟨n, v⟩ hy => by
    rcases S.par n (List.of_mem_zip hy).1 with q | q
    · exact .inl q
    · exact .inr ⟨q, PySem.W.cellsFrom_some _ _ _ (.inl q)⟩
  refine codeAny_call_generator (by have := hr.dp; omega) (KX _ _ lkf) rfl S.co S.gen rfl (PySem.W.codeRec_of KX hcd) (hbt _ _ _ _ (wpAny_newFunctionEnv_cells S.kind hkind fun env he s1 x1 => ?_))
  subst he
  have lim1 : s1.heap.NoLimit := lim.keeps x1.toInCall.keep
  refine ⟨lim1, ?_⟩
  obtain ⟨h1, tk, es1, hk1⟩ := x1.done
  have os1 : s1.os = s.os := by rw [es1]
  have gen1 : s1.gens = s.gens := by rw [es1]
  have kp1 : ∀ b o, s.heap.get? b = some o → s1.heap.get? b = some o := x1.toInCall.keep
  let g : Inst := ⟨P, w, K, mg, base, N, x, st, f, cdv, outer, s.heap.objs.size, k, s1.gens.size + 1⟩
  let s2 : Shared := { s1 with gens := s1.gens.push (.fresh (.func (defBody st) (envOfC x (defScope st) s.heap.objs.size f cdv))) }
  have bare2 : AllBare s2.gens := AllBare.push (by rw [gen1]; exact e0.bare) rfl
  let γ0 : Gh := ⟨A, { s with gens := s2.gens }, H, Z, [], fun _ _ => False, fun _ _ => False, True⟩
  have nd0 : ∀ b, ¬ dom γ0.pv b := fun b ⟨o, h⟩ => absurd h (by simp [γ0])
  have nlk : ∀ b, ¬ lk g γ0 b := fun b h => by
    obtain ⟨o, e⟩ := h.2.2.2.2
    exact absurd (Nat.lt_of_lt_of_le (Heap.lt_size e) h.2.1) (Nat.lt_irrefl _)
  have bg0 : Bg g γ0 = H := by funext b; rw [Bg_el (nd0 b) (nlk b)]
  have tr : ∀ b, (trunc s s.heap.objs.size []).heap.get? b = s.heap.get? b := fun b => by
    show (trunc0 s s.heap.objs.size).get? b = _
    rw [trunc0_get]
    split
    · rfl
    · rename_i q
      exact (Heap.get?_none_of_le (Nat.not_lt.mp q)).symm
  have h00 : H0g g γ0 = H := by
    funext b
    unfold H0g
    by_cases hb : b < s.heap.objs.size
    · rw [if_pos ⟨hb, nd0 b⟩]
    · rw [if_neg fun q => hb q.1]
      exact (e0.hok.fresh (Nat.not_lt.mp hb)).symm
  have I1 : Inv (cxOf (L2.CX P w) P w K mg base N x (defScope st) f cdv A outer s H fun _ _ _ => False) [] (L2.start N vs) H s1 := by
    have q := inv_startG (P := P) (w := w) (K := K) (mg := mg) (base := base) (qual := x) (f := f) (cd := cdv) (E := fun _ _ _ => False) S hr.hd e0 hlv r x1
    exact ⟨⟨q.ok.mod, q.ok.kind, q.ok.glob, q.ok.blt, q.ok.above, q.ok.inj, q.ok.has, q.ok.cab, q.ok.hd, q.ok.frames, q.ok.stk, q.ok.exf, q.ok.bs, q.ok.bsz, q.ok.noex, q.ok.exfs, q.ok.funs, q.ok.frf⟩, q.os, q.bare, q.base, q.loc, q.cell, q.free, q.freeC, q.pin, q.hok, q.len⟩
  have sz0 : (trunc s s.heap.objs.size []).heap.objs.size = s.heap.objs.size := trunc_size (Nat.le_refl _)
  have funs0 : (trunc s s.heap.objs.size []).heap.FunFrames base outer := e0.funs.of_keeps fun b o e _ => ⟨o, by rw [tr]; exact e, rfl⟩
  have R : Rn g γ0 (L2.start N vs) H Z (sl0 N ds) s2 := by
    refine ⟨⟨⟨I1.ok.mod, I1.ok.kind, I1.ok.glob, I1.ok.blt, ?_, I1.ok.inj, I1.ok.has, fun y c h1 h2 => ?_, I1.ok.hd, I1.ok.frames, I1.ok.stk, fun b z => ?_, fun b o e => ?_, ?_, fun b o e z => ?_, fun b z => ?_, funs0, fun b h => ?_⟩, I1.os, bare2, ⟨fun b o e _ _ _ => kp1 b o (by rw [← tr]; exact e), fun b o e _ _ _ => ⟨o.slots, kp1 b o (by rw [← tr]; exact e)⟩, fun b o e n _ => ?_, fun b o e _ => ⟨o, kp1 b o (by rw [← tr]; exact e)⟩, fun b xs e => ?_, fun b o u e => ?_, fun b ps' e => ⟨#[], ?_⟩⟩, I1.loc, I1.cell, I1.free, I1.freeC, I1.pin, I1.hok, I1.len⟩, ?_, ?_, ?_, ?_⟩
    · show (trunc s s.heap.objs.size []).heap.objs.size ≤ _
      rw [sz0]; exact Nat.le_refl _
    · show (trunc s s.heap.objs.size []).heap.objs.size ≤ c
      rw [sz0]; exact I1.ok.cab y c h1 h2
    · exact absurd (show b ∈ ([] : List Addr) from z) (by simp)
    · obtain ⟨q1, q2⟩ := e0.bs b o e
      exact ⟨by show (trunc s s.heap.objs.size []).heap.get? b = _; rw [tr]; exact q1, by show H0g g γ0 b = _; rw [h00]; exact q2⟩
    · show _ ≤ (trunc s s.heap.objs.size []).heap.objs.size
      rw [sz0]; exact e0.bsz
    · exact absurd (show b ∈ ([] : List Addr) from z) (by simp)
    · exact absurd (show b ∈ ([] : List Addr) from z) (by simp)
    · show H0g g γ0 b = none
      rw [h00]; exact e0.frf b h
    · have n' : H0g g γ0 b = none := n
      rw [h00] at n'; exact n'
    · have n' : H0g g γ0 b = _ := e
      rw [h00] at n'; exact n'
    · have n' : H0g g γ0 b = _ := e
      rw [h00] at n'; exact n'
    · have n' : H0g g γ0 b = _ := e
      rw [h00] at n'; rw [n']; simp
    · have q := st1_start N zh nz tb rl
      have e : g.E γ0 = ⟨tabs K, Z, H, H⟩ := by show (⟨tabs K, Z, Bg g γ0, Bg g γ0⟩ : Cfg) = _; rw [bg0]
      rw [e]; exact q
    · refine ⟨⟨e0.frames, e0.mod, e0.bs, e0.bsz, e0.funs, e0.frf, e0.hok, bare2⟩, hr.deeper _, Nat.le_refl _, fun p hp => absurd hp (by simp [γ0]), zh, tb, ?_, nz⟩
      show s1.gens.size + 1 ≤ (s1.gens.push _).size
      rw [Array.size_push]; exact Nat.le_refl _
    · refine ⟨fun b h => .inr ?_, fun p hp => ?_, fun b hb => ?_, e0.bsz⟩
      · refine Heap.get?_none_of_le ?_
        rcases h with h | ⟨y, h⟩
        · rw [h]; exact Nat.le_refl _
        · exact I1.ok.cab y b rfl h
      · obtain ⟨ps', q, _⟩ := tb p hp
        exact e0.hok.lt q
      · obtain ⟨_, o, q, _⟩ := e0.funs.mem hb
        exact Heap.lt_size q
    · show s1.gens.size + 1 ≤ (s1.gens.push _).size
      rw [Array.size_push]; exact Nat.le_refl _
  have main : ∀ (go : Obj) (nm qn : Value) (tk2 : Nat), go.cls = .type "generator" → go.data = .fields #[.int s1.gens.size 0, nm, qn] → go.slots = #[] → (∀ h : Heap, (h.push go).get? h.objs.size = some go) →
      GMd g s H Z items er s1.heap.objs.size s1.gens.size go (pvOf γ0 H Z s2) (Hs g γ0 H Z s2) { s1 with gens := s1.gens.push (.fresh (.func (defBody st) (envOfC x (defScope st) s.heap.objs.size f cdv))), toks := tk2, heap := s1.heap.push go } := by
    intro go nm qn tk2 hgc hgd0 hgs hgp
    have kp2 : ∀ b o, s1.heap.get? b = some o → (s1.heap.push go).get? b = some o := fun b o e => Heap.get?_push_of_some _ e
    refine ⟨fun b o e => kp2 b o (kp1 b o e), ?_, hgp _, ⟨nm, qn, hgc, hgd0, hgs⟩, rfl, by rw [gen1]; exact Nat.le_refl _, os1, AllBare.push (by rw [gen1]; exact e0.bare) rfl, lim1.keeps kp2, fun p hp => ?_, fun b h => ?_, R.hsHok.kept kp2, _, Array.getElem?_push_size .., fun γ hpv C hz m => ?_⟩
    · exact Nat.le_of_lt x1.toInCall.ns.lt
    · obtain ⟨q1, q2, q3⟩ := R.aft.pv p hp
      have q4 := R.aft.new p.1 ⟨p.2, hp⟩
      refine ⟨kp2 _ _ q1, q2, q3, q4.resolve_left (nd0 _), Nat.ne_of_lt (Heap.lt_size q1)⟩
    · exact Hs_el h (nlk b)
    · exact hbody cdv outer s.heap.objs.size _ ds items er hR γ _ _ _ _ m (R.wake hpv C hz)
  exact ⟨cdv, _, _, _, _, _, _, rfl, main _ _ _ _ rfl rfl rfl fun h => Heap.get?_push_size _ rfl⟩
end GL
set_option maxHeartbeats 4000000
/-! for x in gen(..): body. -/
namespace GL
open PySem PySem.Spec PyProof.Rows L2 DL
open Sem (wp)
open Classical

section
variable {X : Cx} {pins : List (Addr × Obj)} {σ : L2.St} {H Z H' Z' : Hp} {s s' : Shared} {γ : Gh} {pv' : List (Addr × Obj)} {E : Cfg} {ρ : List Sl}
/-- the sleeping one's own, as the consumer bears it -/
structure Bears (X : Cx) (E : Cfg) (H Z : Hp) (s : Shared) (pv : List (Addr × Obj)) : Prop where
  at_ : ∀ p ∈ pv, s.heap.get? p.1 = some p.2 ∧ H p.1 = some (.frz p.2 (.own 0)) ∧ Z p.1 = none
  young : ∀ b, dom pv b → X.s_0.heap.get? b = none ∧ (∀ o u, X.H_0 b ≠ some (.frz o u)) ∧ Frsh E.B b ∧ Frsh E.B0 b
theorem Bears.frz {pv : List (Addr × Obj)} (B : Bears X E H Z s pv) {b : Addr} (h : dom pv b) : ∃ o, s.heap.get? b = some o ∧ H b = some (.frz o (.own 0)) ∧ Z b = none := let ⟨o, m⟩ := h; ⟨o, B.at_ (b, o) m⟩
theorem Bears.nd {pv : List (Addr × Obj)} (B : Bears X E H Z s pv) {b : Addr} {u : HO} (h : H b = some u) (n : ∀ o, u ≠ .frz o (.own 0)) : ¬ dom pv b := fun d => by
  obtain ⟨o, _, q, _⟩ := B.frz d
  rw [h] at q; cases q; exact n o rfl
theorem inv_aft (hex : X.ex = []) (I : Inv X pins σ H s) (B : Bears X E H Z s γ.pv) (h1 : γ.sW.heap = s.heap) (h2 : γ.HW = H) (h3 : γ.sW.os = s.os) {n0 : Addr} (a : Aft X.prog X.w X.K (frs X.stack) n0 γ pv' H' Z' s') : Inv X pins σ H' s' := by
  have keep : ∀ b o, s.heap.get? b = some o → H b = none → b ∉ frs X.stack → s'.heap.get? b = some o := fun b o e n h => a.keep b o (by rw [h1]; exact e) (by rw [h2]; exact n) h
  have any : ∀ b o, s.heap.get? b = some o → H b = none → ∃ sl, s'.heap.get? b = some { o with slots := sl } := fun b o e n => by
    by_cases h : b ∈ frs X.stack
    · exact a.slot b o (by rw [h1]; exact e) (by rw [h2]; exact n) h
    · exact ⟨o.slots, keep b o e n h⟩
  have free : ∀ b o, s.heap.get? b = some o → H b = none → H' b = none := fun b o e n => a.free b o (by rw [h1]; exact e) (by rw [h2]; exact n)
  have nex : ∀ b, b ∉ X.ex := fun b h => by rw [hex] at h; cases h
  have nst : ∀ b o, X.s_0.heap.get? b = some o → b ∉ X.fs → b ∉ frs X.stack := fun b o e h m => by
    rcases List.mem_cons.mp (I.stkSub b m) with z | z
    · have := Heap.lt_size e
      have h2 := I.ok.above
      rw [z] at this
      exact absurd (Nat.lt_of_lt_of_le this h2) (Nat.lt_irrefl _)
    · exact h z
  have ext : ∀ b u, H b = some u → (∀ o, u ≠ .frz o (.own 0)) → (∀ ps, u ≠ .tbl ps) → H' b = some u := fun b u e n n2 => a.ext b u (B.nd e n) (by rw [h2]; exact e) n2
  have cell : ∀ c v, s.heap.IsCell c v → H c = none → s'.heap.IsCell c v := fun c v ⟨o, ho, hd⟩ n => by
    obtain ⟨sl, q⟩ := any c o ho n
    exact ⟨_, q, hd⟩
  refine ⟨I.ok, a.os.trans (h3.trans I.os), a.bare, ⟨fun b o e n hb hx => ?_, fun b o e n hb hx => ?_, fun b o e n hx => ?_, fun b o e hx => ?_, fun b xs e => ?_, fun b o u e => ?_, fun b ps e => ?_⟩, ?_, fun x c e => ?_, ?_, fun x c e => ?_, fun p hp => ?_, a.hok, I.len⟩
  · exact keep b o (I.base.keep b o e n hb hx) (I.base.free b o e n hx) (nst b o e hb)
  · obtain ⟨sl, q⟩ := I.base.slot b o e n hb hx
    obtain ⟨sl2, q2⟩ := any b _ q (I.base.free b o e n hx)
    exact ⟨sl2, q2⟩
  · obtain ⟨o', q⟩ := I.base.there b o e hx
    exact free b o' q (I.base.free b o e n hx)
  · obtain ⟨o', q⟩ := I.base.there b o e hx
    exact a.there b o' (by rw [h1]; exact q) fun d => by
      have := (B.young b d).1
      rw [e] at this; cases this
  · exact ext b _ (I.base.tups b xs e) (fun _ z => nomatch z) (fun _ z => nomatch z)
  · have q := I.base.frzs b o u e
    exact a.ext b _ (fun d => (B.young b d).2.1 o u e) (by rw [h2]; exact q) (fun _ z => nomatch z)
  · obtain ⟨m1, q⟩ := I.base.tbls b ps e
    obtain ⟨m2, q2⟩ := a.tbls b _ (by rw [h2]; exact q)
    exact ⟨m1 ++ m2, by rw [q2, Array.append_assoc]⟩
  · obtain ⟨m, ⟨o, es, ep, ho, r⟩, hl⟩ := I.loc
    obtain ⟨sl, q⟩ := any _ o ho I.free
    refine ⟨m, ⟨_, es, ep, q, r⟩, fun i x v e1 e2 e3 => ?_⟩
    obtain ⟨u, ru, l⟩ := hl i x v e1 e2 e3
    refine ⟨u, ru, ?_⟩
    rcases l with l | ⟨k, c, hc, z⟩
    · exact .inl l
    · exact .inr ⟨k, c, hc, cell c _ z (I.freeC x c hc)⟩
  · obtain ⟨v, z⟩ := I.cell x c e
    exact ⟨v, cell c v z (I.freeC x c e)⟩
  · obtain ⟨m, ⟨o, es, ep, ho, r⟩, hl⟩ := I.loc
    exact free _ o ho I.free
  · obtain ⟨v, o, ho, hd⟩ := I.cell x c e
    exact free _ o ho (I.freeC x c e)
  · obtain ⟨e, n, ne, nf, d⟩ := I.pin p hp
    refine ⟨keep _ _ e n fun m => ?_, free _ _ e n, ne, nf, d⟩
    rcases List.mem_cons.mp (I.stkSub _ m) with z | z
    · exact ne z
    · exact nf z
theorem st_aft (S : St1 X.K E Z H σ ρ) (B : Bears X E H Z s γ.pv) (h2 : γ.HW = H) (h4 : γ.ZW = Z) {P : Program} {w : World} {fs : List Addr} {n0 : Addr} (a : Aft P w X.K fs n0 γ pv' H' Z' s') : St1 X.K E Z' H' σ ρ := by
  have ext : ∀ (T : Hp), LamX.ExtN T H → (∀ b, dom γ.pv b → Frsh T b) → LamX.ExtN T H' := fun T h f b u e n => by
    refine a.ext b u (fun d => ?_) (by rw [h2]; exact h b u e n) n
    obtain ⟨ps, z⟩ := f b d u e
    exact n ps z
  refine ⟨⟨a.zh, ext _ S.s.bh fun b d => (B.young b d).2.2.1, ext _ S.s.b0 fun b d => (B.young b d).2.2.2, by rw [S.t]; exact a.tb, fun x h => ?_, fun b u e => ?_, a.nz, S.s.len, fun i sl h => ?_, S.s.ap⟩, S.t⟩
  · rcases a.fr x h with q | q | q
    · rw [h4] at q; exact S.s.fr x q
    · rw [h2] at q; exact .inr (q.back S.s.b0)
    · exact .inr (B.young x q).2.2.2
  · exact a.z b u (by rw [h4]; exact S.s.z0 b u e)
  · have w := S.s.at_ i sl h
    have hz : Ex Z Z' := by rw [← h4]; exact a.z
    cases sl with
    | no => trivial
    | val d => obtain ⟨v, e, r⟩ := w; exact ⟨v, e, r.mono hz⟩
    | raw v => exact w
    | own ds =>
      obtain ⟨l, xs, e, hl, zl, f1, f2, r⟩ := w
      refine ⟨l, xs, e, a.ext l _ (B.nd hl fun _ z => nomatch z) (by rw [h2]; exact hl) (fun _ z => nomatch z), ?_, f1, f2, r.mono hz⟩
      cases q : Z' l with
      | none => rfl
      | some u =>
        rcases a.fr l (by rw [q]; exact fun z => nomatch z) with w | w | w
        · rw [h4] at w; exact absurd zl w
        · obtain ⟨ps, z⟩ := w _ (by rw [h2]; exact hl)
          cases z
        · exact absurd w (B.nd hl fun _ z => nomatch z)
theorem bears_aft (hex : X.ex = []) (I : Inv X pins σ H s) (S : St1 X.K E Z H σ ρ) (B : Bears X E H Z s γ.pv) (h1 : γ.sW.heap = s.heap) {P : Program} {w : World} {fs : List Addr} {n0 : Addr} (a : Aft P w X.K fs n0 γ pv' H' Z' s') : Bears X E H' Z' s' pv' := by
  refine ⟨a.pv, fun b d => ?_⟩
  rcases a.new b d with q | q
  · exact B.young b q
  · rw [h1] at q
    have hn : H b = none := by
      cases e : H b with
      | none => rfl
      | some u => obtain ⟨o, e2⟩ := okSome (I.hok b u e); rw [q] at e2; cases e2
    refine ⟨?_, fun o u e => ?_, (Frsh.none hn).back S.s.bh, (Frsh.none hn).back S.s.b0⟩
    · cases e : X.s_0.heap.get? b with
      | none => rfl
      | some o =>
        obtain ⟨o', e2⟩ := I.base.there b o e (by rw [hex]; simp)
        rw [q] at e2; cases e2
    · have := I.base.frzs b o u e
      rw [hn] at this; cases this
end
/-- the consumer's generator: g made for it -/
structure Of (X : Cx) (g : Inst) : Prop where
  P : g.P = X.prog
  w : g.w = X.w
  K : g.K = X.K
  mg : g.mg = X.mg
  base : g.base = X.base
  outer : g.outer = X.stack
/-- at the loop's head -/
structure Hd (X : Cx) (g : Inst) (pins : List (Addr × Obj)) (a : Addr) (gn : Nat) (go : Obj) (E : Cfg) (σ : L2.St) (H Z : Hp) (ρ : List Sl) (pv : List (Addr × Obj)) (rem : List D) (gs : GenState) (ok : Prop) (s : Shared) : Prop where
  I : Inv X (pins ++ [(a, go)]) σ H s
  S : St1 X.K E Z H σ ρ
  B : Bears X E H Z s pv
  n0 : g.n0 ≤ s.heap.objs.size
  gi : g.gi = gn + 1
  hgs : s.gens[gn]? = some gs
  hgo : ∃ xe er, Goes (model g.P g.w) X.A.in1 (Post g rem ⟨X.A.in1, s.setGen gn .running, H, Z, pv, xe, er, ok⟩) gs (s.setGen gn .running) ∧ ∀ e s1, er e s1 → s1.heap.IsGen a gn ∧ NotStop (model X.prog X.w) e s1.heap ∧ X.xe e (s1.setGen gn .finished)
theorem allBare_set {s : Shared} {g : Nat} {x : GenState} (h : AllBare s.gens) (hx : x.bare = true) : AllBare (s.setGen g x).gens := allBare_setGen h hx
section
variable {X : Cx} {g : Inst} {pins : List (Addr × Obj)} {a : Addr} {gn : Nat} {go : Obj} {E : Cfg} {σ : L2.St} {H Z : Hp} {ρ : List Sl} {pv : List (Addr × Obj)} {rem : List D} {gs : GenState} {ok : Prop} {s : Shared}
theorem Inv.setG (I : Inv X pins σ H s) {x : GenState} (hx : x.bare = true) : Inv X pins σ H (s.setGen gn x) := inv_gens I rfl rfl (allBare_set I.bare hx)
/-- the next wake's conditions -/
theorem wkc (o : Of X g) (I : Inv X pins σ H s) (S : St1 X.K E Z H σ ρ) (B : Bears X E H Z s pv) (hn : g.n0 ≤ s.heap.objs.size) (hgz : g.gi ≤ s.gens.size) (hr : Room (g.k + 2) X.A) (xe er ok) : WkC g ⟨X.A.in1, s.setGen gn .running, H, Z, pv, xe, er, ok⟩ := by
  obtain ⟨o1, o2, o3, o4, o5, o6⟩ := o
  have e0 := (Inv.setG (gn := gn) I (x := .running) rfl).env0
  refine ⟨?_, (hr.in1).deeper _, hn, B.at_, S.zh, by rw [o3, ← S.t]; exact S.s.tb, by rw [show (s.setGen gn .running).gens.size = s.gens.size from GenW.setGen_size _ _ _]; exact hgz, S.s.nz⟩
  rw [o1, o2, o3, o4, o5, o6]
  exact ⟨e0.frames, e0.mod, e0.bs, e0.bsz, e0.funs, e0.frf, e0.hok, e0.bare⟩
/-- what stands behind a next -/
structure Got (X : Cx) (g : Inst) (pins : List (Addr × Obj)) (a : Addr) (gn : Nat) (go : Obj) (E : Cfg) (σ : L2.St) (ρ : List Sl) (y : D) (ys : List D) (r : Option Value) (Z0 : Hp) (pv : List (Addr × Obj)) (s0 s' : Shared) : Prop where
  ex : ∃ (v : Value) (x : V) (gs' : GenState) (pv' : List (Addr × Obj)) (gp' : List (Nat × GenState)) (H' Z' : Hp), r = some v ∧ RelV x v ∧ Rep X.K Z' x y ∧ Ex Z0 Z' ∧ Inv X (pins ++ [(a, go)]) σ H' s' ∧ St1 X.K E Z' H' σ ρ ∧ Bears X E H' Z' s' pv' ∧ (∀ b, dom pv' b → dom pv b ∨ s0.heap.get? b = none) ∧ g.n0 ≤ s'.heap.objs.size ∧
    s'.gens[gn]? = some gs' ∧ Susp gs' ∧ (∀ q ∈ gp', s'.gens[(q : Nat × GenState).1]? = some q.2 ∧ Susp q.2 ∧ q.1 ≠ gn ∧ g.gi ≤ q.1) ∧
    ∀ γ2 : Gh, γ2.pv = pv' → WkC g γ2 → Ex Z' γ2.ZW → nv γ2 → (∀ q ∈ gp', γ2.sW.gens[(q : Nat × GenState).1]? = some q.2) → Goes (model g.P g.w) γ2.A (Post g ys γ2) gs' γ2.sW
def NextP (X : Cx) (g : Inst) (pins : List (Addr × Obj)) (a : Addr) (gn : Nat) (go : Obj) (E : Cfg) (σ : L2.St) (ρ : List Sl) (ok : Prop) (Z : Hp) (pv : List (Addr × Obj)) (s : Shared) : List D → Option Value → Shared → Prop
  | [], r, s' => ok ∧ r = none ∧ ∃ H' Z', Inv X pins σ H' s' ∧ St1 X.K E Z' H' σ ρ
  | y :: ys, r, s' => ok ∧ Got X g pins a gn go E σ ρ y ys r Z pv s s'
theorem hd_next (o : Of X g) (hex : X.ex = []) (hgo : IsGo go gn) (hr : Room (g.k + 2) X.A) (h : Hd X g pins a gn go E σ H Z ρ pv rem gs ok s) :
    wpAny (model X.prog X.w) X.A (pyNext (.ref a)) (NextP X g pins a gn go E σ ρ ok Z pv s rem) X.xe s := by
  obtain ⟨I, S, B, n0, hgi, hgs, xe, er, hg, he⟩ := h
  have hpin := (I.pin (a, go) (List.mem_append_right _ (List.mem_append_right _ (List.mem_singleton.mpr rfl))))
  obtain ⟨o1, o2, o3, o4, o5, o6⟩ := id o
  have eM : model g.P g.w = model X.prog X.w := by rw [o1, o2]
  rw [eM] at hg
  refine nx_gen hr.hd I.nolimit (by have := hr.dp; omega) (hgo.at hpin.1) hgs hg (fun e s1 z hlt => ?_) (fun e s1 z => z.quiet)
  have aftX : ∀ {pv' : List (Addr × Obj)} {H' Z' : Hp} {s1 : Shared}, Aft g.P g.w g.K (frs g.outer) g.n0 ⟨X.A.in1, s.setGen gn .running, H, Z, pv, xe, er, ok⟩ pv' H' Z' s1 → Aft X.prog X.w X.K (frs X.stack) g.n0 ⟨X.A.in1, s.setGen gn .running, H, Z, pv, xe, er, ok⟩ pv' H' Z' s1 := fun q => by
    rw [o1, o2, o3, o6] at q; exact q
  cases rem with
  | nil =>
    rcases z with ⟨x, rfl, q⟩ | ⟨hok, rfl, pv', H', Z', a'⟩
    · exact he x s1 q
    · refine ⟨rfl, fun h' hk => ⟨hok, rfl, H', Z', ?_, ?_⟩⟩
      · have I1 := inv_aft (γ := ⟨X.A.in1, s.setGen gn .running, H, Z, pv, xe, er, ok⟩) hex I B rfl rfl rfl (aftX a')
        have I2 : Inv X (pins ++ [(a, go)]) σ H' { s1.setGen gn .finished with heap := h' } := (Inv.setG (gn := gn) I1 (x := .finished) rfl).call' (ch := []) (s' := { s1.setGen gn .finished with heap := h' }) rfl (Un.kept hk) (a'.hok.kept hk |> fun q => by rw [o1, o2] at q; exact q) (allBare_set I1.bare rfl) (fun b z => absurd z (by simp))
        exact ⟨I2.ok, I2.os, I2.bare, I2.base, I2.loc, I2.cell, I2.free, I2.freeC, fun p hp => I2.pin p (by
          rcases List.mem_append.mp hp with q | q
          · exact List.mem_append_left _ q
          · exact List.mem_append_right _ (List.mem_append_left _ q)), I2.hok, I2.len⟩
      · exact st_aft (γ := ⟨X.A.in1, s.setGen gn .running, H, Z, pv, xe, er, ok⟩) S B rfl rfl (aftX a')
  | cons y ys =>
    rcases z with ⟨x, rfl, q⟩ | ⟨hok, v, b, l, k, c, p, fs, rfl, qt, pv', gp', H', Z', x, a', rv, rx, hgp', cont⟩
    · exact he x s1 q
    · refine ⟨qt, hok, ⟨v, x, _, pv', gp', H', Z', rfl, rv, ?_, a'.z, ?_, ?_, ?_, a'.new, a'.sz, setGen_at hlt, ⟨_, _, _, _, _, _, rfl⟩, ?_, cont⟩⟩
      · rw [o3] at rx; exact rx
      · exact Inv.setG (inv_aft (γ := ⟨X.A.in1, s.setGen gn .running, H, Z, pv, xe, er, ok⟩) hex I B rfl rfl rfl (aftX a')) (End.bare_of_quiet qt)
      · exact st_aft (γ := ⟨X.A.in1, s.setGen gn .running, H, Z, pv, xe, er, ok⟩) S B rfl rfl (aftX a')
      · have := bears_aft (γ := ⟨X.A.in1, s.setGen gn .running, H, Z, pv, xe, er, ok⟩) hex I S B rfl (aftX a')
        exact ⟨this.at_, this.young⟩
      · intro q hq
        obtain ⟨q1, q2, q3⟩ := hgp' q hq
        have ne : q.1 ≠ gn := by omega
        refine ⟨?_, q2, ne, q3⟩
        show (s1.gens.setIfInBounds gn _)[q.1]? = _
        rw [Array.getElem?_setIfInBounds_ne (Ne.symm ne)]
        exact q1
end
end GL
set_option maxHeartbeats 4000000
namespace GL
open PySem PySem.Spec PyProof.Rows L2 DL
open Sem (wp)
open Classical

section
variable {X : Cx} {pins : List (Addr × Obj)} {a : Addr} {gn : Nat} {go : Obj} {E : Cfg} {σ : L2.St} {H Z H' : Hp} {ρ : List Sl} {pv : List (Addr × Obj)} {s s' : Shared}
abbrev instOf (X : Cx) (N : List Str) (qual : Str) (st : Stmt) (f : Addr) (cdv : Value) (n0 : Addr) (k gi : Nat) : Inst := ⟨X.prog, X.w, X.K, X.mg, X.base, N, qual, st, f, cdv, X.stack, n0, k, gi⟩
theorem ofInst {N qual st f cdv n0 k gi} : Of X (instOf X N qual st f cdv n0 k gi) := ⟨rfl, rfl, rfl, rfl, rfl, rfl⟩
/-- what may be raised is taken, at these slots -/
def XWf (X : Cx) (E : Cfg) (xn : Addr → Prop) (σ : L2.St) : Prop := ∃ W, Takes X W ∧ ∀ C H, xn C → LamX.ExtN E.B0 H → LamX.ExtN E.B H → LamX.Tabs (tabs X.K) H → W (.ref C) none σ H
theorem xw_f {X : Cx} {E : Cfg} {xn : Addr → Prop} (h : XW X E xn) (σ : L2.St) : XWf X E xn σ := by
  obtain ⟨W, t, w⟩ := h
  exact ⟨W, t, fun C H => w C σ H⟩
theorem hd_start {N qual st f cdv} {k gi : Nat} {items : List D} {er : Option Addr} (hex : X.ex = []) (I : Inv X pins σ H s) (S : St1 X.K E Z H σ ρ) (hx : XWf X E (fun C => er = some C) σ) (hns : ∀ C, er = some C → PySem.W.subIn X.K (.ref C) (.type "StopIteration") = some false)
    (hr : Room (k + 2) X.A) (m : GMd (instOf X N qual st f cdv s.heap.objs.size k gi) s H Z items er a gn go pv H' s') :
    ∃ c, Hd X (instOf X N qual st f cdv s.heap.objs.size k gi) pins a gn go E σ H' Z ρ pv items (.fresh c) (er = none) s' := by
  obtain ⟨c, hgs, cont⟩ := m.st
  have pvS : ∀ b, dom pv b → s.heap.get? b = none := fun b ⟨o, h⟩ => (m.hpv (b, o) h).2.2.2.1
  have ndS : ∀ b u, H b = some u → ¬ dom pv b := fun b u e d => by
    obtain ⟨o, e2⟩ := okSome (I.hok b u e)
    rw [pvS b d] at e2; cases e2
  have eH : ∀ b u, H b = some u → H' b = some u := fun b u e => by rw [m.hp b (ndS b u e)]; exact e
  have dn : ∀ b, dom pv b → H b = none := fun b d => by
    cases e : H b with
    | none => rfl
    | some u => exact absurd d (ndS b u e)
  have nda : ¬ dom pv a := fun ⟨o, h⟩ => (m.hpv (a, o) h).2.2.2.2 rfl
  have Ha : H a = none := I.hok.fresh m.new
  have I1 : Inv X pins σ H' s' := I.call' (ch := []) m.os ⟨fun b o e _ _ _ => m.kept b o e, fun b o e _ _ _ => ⟨o.slots, m.kept b o e⟩, fun b o e n _ => by
    rw [m.hp b fun d => by rw [pvS b d] at e; cases e]; exact n, fun b o e _ => ⟨o, m.kept b o e⟩, fun b xs e => eH b _ e, fun b o u e => eH b _ e, fun b ps e => ⟨#[], by rw [eH b _ e]; simp⟩⟩ m.hok m.bare (fun b z => absurd z (by simp))
  have I2 : Inv X (pins ++ [(a, go)]) σ H' s' := ⟨I1.ok, I1.os, I1.bare, I1.base, I1.loc, I1.cell, I1.free, I1.freeC, fun p hp => by
    rcases List.mem_append.mp hp with q | q
    · exact I1.pin p (List.mem_append_left _ q)
    · rcases List.mem_append.mp q with q | q
      · exact I1.pin p (List.mem_append_right _ q)
      · rw [List.mem_singleton.mp q]
        refine ⟨m.at_, by rw [m.hp a nda]; exact Ha, fun z => ?_, I.nofs m.new, m.go.nocell⟩
        have h1 := I.lt
        have h2 := m.new
        rw [show a = X.env.locals from z] at h2
        exact absurd (Nat.lt_of_lt_of_le h1 h2) (Nat.lt_irrefl _), I1.hok, I1.len⟩
  have tbH : LamX.Tabs (tabs X.K) H := by rw [← S.t]; exact S.s.tb
  have gr : G X.K Z H Z H' := ⟨Ex.refl _, LamX.ExtN.of eH, S.s.zh.trans eH, tbH.ext eH, fun _ h => .inl h, id⟩
  have S2 := S.grow gr
  have B : Bears X E H' Z s' pv := by
    refine ⟨fun p hp => let ⟨q1, q2, q3, _⟩ := m.hpv p hp; ⟨q1, q2, q3⟩, fun b d => ?_⟩
    refine ⟨?_, fun o u e => ?_, (Frsh.none (dn b d)).back S.s.bh, (Frsh.none (dn b d)).back S.s.b0⟩
    · cases e : X.s_0.heap.get? b with
      | none => rfl
      | some o =>
        obtain ⟨o', e2⟩ := I.base.there b o e (by rw [hex]; simp)
        rw [pvS b d] at e2; cases e2
    · have := I.base.frzs b o u e
      rw [dn b d] at this; cases this
  have n0 : s.heap.objs.size ≤ s'.heap.objs.size := Nat.le_trans m.new (Nat.le_of_lt (Heap.lt_size m.at_))
  have hgl : gn < s'.gens.size := (Array.getElem?_eq_some_iff.mp hgs).1
  refine ⟨c, I2, S2, B, n0, m.gi, hgs, ?_⟩
  let g : Inst := instOf X N qual st f cdv s.heap.objs.size k gi
  let γb : Gh := ⟨X.A.in1, s'.setGen gn .running, H', Z, pv, fun _ _ => False, fun _ _ => False, er = none⟩
  let erF : Value → Shared → Prop := fun e s1 => L2.CX g.P g.w g.outer (H0g g γb) (trunc γb.sW g.n0 γb.pv) (EXg g γb er) e s1
  let xeF : Value → Shared → Prop := fun e s1 => wpAny (model g.P g.w) (γb.A.deeper g.env) (leaving g.env e) (fun _ s'' => L2.CX g.P g.w g.outer (H0g g γb) (trunc γb.sW g.n0 γb.pv) (EXg g γb er) e s'') (fun _ _ => False) s1
  have C := wkc (gn := gn) (ofInst (X := X) (N := N) (qual := qual) (st := st) (f := f) (cdv := cdv) (n0 := s.heap.objs.size) (k := k) (gi := gi)) I2 S2 B n0 (by rw [show (instOf X N qual st f cdv s.heap.objs.size k gi).gi = gn + 1 from m.gi]; exact hgl) hr xeF erF (er = none)
  refine ⟨xeF, erF, cont ⟨X.A.in1, s'.setGen gn .running, H', Z, pv, xeF, erF, er = none⟩ rfl C (Ex.refl _) ⟨rfl, rfl, rfl⟩, fun e s1 hcx => ?_⟩
  have h0 : H0g g γb = H := by
    funext b
    unfold H0g
    by_cases hb : b < s.heap.objs.size
    · by_cases hd : dom pv b
      · rw [if_neg fun q => q.2 hd]; exact (dn b hd).symm
      · rw [if_pos ⟨hb, hd⟩]; exact m.hp b hd
    · rw [if_neg fun q => hb q.1]
      exact (I.hok.fresh (Nat.not_lt.mp hb)).symm
  have tr : ∀ b o, s.heap.get? b = some o → (trunc γb.sW g.n0 γb.pv).heap.get? b = some o := fun b o e => trunc_of (Heap.lt_size e) (m.kept b o e) fun d => by rw [pvS b d] at e; cases e
  obtain ⟨a2, B2, H2, cls, d, e2, fl, hok2, ub, na, os, ag, hE⟩ := id hcx
  obtain ⟨C2, hC, e3, e4, ext2, tb2⟩ := hE
  have ext : LamX.ExtN H H2 := fun b u e n => ext2 b u (Bg_of (ndS b u e) (eH b u e) n) n
  have B2s : ∀ b o, B2.get? b = some o → s1.heap.get? b = some o := fl.1
  refine ⟨?_, ?_, ?_⟩
  · have hl : lk g γb a := ⟨nda, m.new, .inl (by show H' a = none; rw [m.hp a nda]; exact Ha), S.s.zh.free Ha, go, m.at_⟩
    have q : H2 a = some (.frz go (.own 0)) := ext2 a _ (by rw [Bg_lk hl]; show (s'.heap.get? a).map _ = _; rw [m.at_]; rfl) (fun _ z => nomatch z)
    exact m.go.at (B2s a go (hok2 a _ q).1)
  · refine notStop_of (K := X.K) (E := EXg g γb er) (fun cls d H' hh => ?_) ?_ hcx
    · obtain ⟨C3, h1, h2, _⟩ := hh
      rw [h2]; exact hns C3 h1
    · refine I.ok.mod.kin.keeps fun b o eb => B2s b o (ub.keep b o (tr b o (I.bs b o eb).1) (by rw [h0]; exact (I.bs b o eb).2) fun hm => ?_)
      rcases List.mem_cons.mp (I.stkSub b hm) with z | z
      · have h1 := Heap.lt_size eb
        have h2 := Nat.le_trans I.ok.bsz I.ok.above
        rw [z] at h1
        exact absurd (Nat.lt_of_lt_of_le h1 h2) (Nat.lt_irrefl _)
      · exact I.ok.nofr eb z
  · obtain ⟨W, tk, hW⟩ := hx
    rw [h0] at ub
    refine passAt tk σ pins H s e _ I ⟨a2, B2, H2, cls, d, e2, fl, hok2, ?_, na, os.trans m.os, allBare_setGen ag rfl, ?_⟩
    rotate_left
    · subst e3 e4
      exact hW C2 H2 hC (S.s.b0.trans ext) (S.s.bh.trans ext) tb2
    · exact ⟨fun b o q => ub.keep b o (tr b o q), fun b o q => ub.slot b o (tr b o q), fun b o q => ub.free b o (tr b o q), fun b o q => ub.there b o (tr b o q), ub.tups, ub.frzs, ub.tbls⟩
/-! ### the body -/
/-- what is wanted of exceptions may be seen through what slept -/
def XeB (X : Cx) : Prop := ∀ orig s1 s' e, AllBare orig → Back orig s1 s' → X.xe e s1 → X.xe e s'
theorem wpAny_back {α : Type} {M : Model} {A : Around} {orig : Array GenState} {s1 s' : Shared} {t : Sem α} {Q : α → Shared → Prop} {E : Value → Shared → Prop} (b : Back orig s1 s') (h : wpAny M A t Q E s1) :
    wpAny M A t (fun x s2' => ∃ s2, Back orig s2 s2' ∧ Q x s2) (fun e s2' => ∃ s2, Back orig s2 s2' ∧ E e s2) s' := fun Γ p hΓ => by
  obtain ⟨z, rfl⟩ := b
  exact wp_pz M Γ orig t _ _ p s1 z (h Γ p hΓ)
theorem cx_back {P : Program} {w : World} {outer : List Env} {H : Hp} {s0 s1 s' : Shared} {Ex : XK} {e : Value} {orig : Array GenState} (h0 : AllBare orig) (b : Back orig s1 s') (h : L2.CX P w outer H s0 Ex e s1) : L2.CX P w outer H s0 Ex e s' := by
  obtain ⟨a, B, H', cls, d, e2, fl, hok, ub, na, os, ag, hE⟩ := h
  exact ⟨a, B, H', cls, d, e2, by rw [b.heap]; exact fl, hok, by rw [b.heap]; exact ub, na, b.os.trans os, b.bare h0 ag, hE⟩
theorem xeb_cx {P : Program} {w : World} {K : PySem.W.Frag} {mg : Str → Option Value} {base : Heap} {N : List Str} {qual : Str} {st : Stmt} {f : Addr} {cdv : Value} {A : Around} {outer : List Env} {s : Shared} {H : Hp} {Ex : XK} : XeB (cX P w K mg base N qual st f cdv A outer s H Ex) := fun orig s1 s' e h0 b h => by
  exact wpAny_mono (wpAny_back b h) (fun _ s2' ⟨s2, b2, q⟩ => cx_back h0 b2 q) fun e' s2' ⟨s2, b2, q⟩ => cx_back h0 b2 q
theorem xeb_never {X : Cx} (h : X.xe = fun _ _ => False) : XeB X := fun orig s1 s' e h0 b q => by rw [h] at q; exact q.elim
/-- a run that leaves what sleeps as it is -/
theorem keepG {α : Type} {t : Sem α} {Q : α → Shared → Prop} (hxb : XeB X) (hb : AllBare s.gens) (h : wpAny (model X.prog X.w) X.A t Q X.xe (poS s)) : wpAny (model X.prog X.w) X.A t (fun x s' => ∃ s1, Back s.gens s1 s' ∧ Q x s1) X.xe s :=
  wpAny_mono (wpAny_sleep h) (fun _ _ q => q) fun e s' ⟨s1, b, q⟩ => hxb s.gens s1 s' e hb b q
/-- the text's Cfg while something sleeps -/
noncomputable def lkCfg (E : Cfg) (pv : List (Addr × Obj)) (H Z : Hp) : Cfg := ⟨E.T, Z, fun b => if dom pv b then H b else E.B0 b, fun b => if dom pv b then H b else E.B b⟩
theorem st_lock (S : St1 X.K E Z H σ ρ) (B : Bears X E H Z s pv) : St1 X.K (lkCfg E pv H Z) Z H σ ρ := by
  have ext : ∀ T : Hp, LamX.ExtN T H → LamX.ExtN (fun b => if dom pv b then H b else T b) H := fun T h b u e n => by
    by_cases d : dom pv b
    · simp only [d, if_true] at e; exact e
    · simp only [d, if_false] at e; exact h b u e n
  have fr : ∀ (T : Hp) (l : Addr), Frsh T l → ¬ dom pv l → Frsh (fun b => if dom pv b then H b else T b) l := fun T l h d o e => by
    simp only [d, if_false] at e; exact h o e
  refine ⟨⟨S.s.zh, ext _ S.s.bh, ext _ S.s.b0, S.s.tb, fun x h => .inl h, Ex.refl _, S.s.nz, S.s.len, fun i sl h => ?_, S.s.ap⟩, S.t⟩
  have w := S.s.at_ i sl h
  cases sl with
  | no => trivial
  | val d => exact w
  | raw v => exact w
  | own ds =>
    obtain ⟨l, xs, e, hl, zl, f1, f2, r⟩ := w
    have nd := B.nd hl fun _ z => nomatch z
    exact ⟨l, xs, e, hl, zl, fr _ l f1 nd, fr _ l f2 nd, r⟩
section
variable {H1 Z1 : Hp} {σ1 : L2.St} {ρ1 : List Sl} {s1 : Shared}
theorem unlock_ext {T : Hp} (f : ∀ b, dom pv b → Frsh T b) {H1 : Hp} (h : LamX.ExtN (fun b => if dom pv b then H b else T b) H1) : LamX.ExtN T H1 := fun b u e n => h b u (by
  have nd : ¬ dom pv b := fun d => by obtain ⟨ps, z⟩ := f b d u e; exact n ps z
  simp only [nd, if_false]; exact e) n
theorem unlock_fr {T : Hp} (B : Bears X E H Z s pv) {l : Addr} (h : Frsh (fun b => if dom pv b then H b else T b) l) : ¬ dom pv l ∧ Frsh T l := by
  have nd : ¬ dom pv l := fun d => by
    obtain ⟨o, _, q, _⟩ := B.frz d
    obtain ⟨ps, z⟩ := h (.frz o (.own 0)) (by simp only [d, if_true]; exact q)
    cases z
  refine ⟨nd, fun o e => h o (by simp only [nd, if_false]; exact e)⟩
theorem st_unlock (S0 : St1 X.K E Z H σ ρ) (B : Bears X E H Z s pv) (S : St1 X.K (lkCfg E pv H Z) Z1 H1 σ1 ρ1) : St1 X.K E Z1 H1 σ1 ρ1 := by
  refine ⟨⟨S.s.zh, unlock_ext (fun b d => (B.young b d).2.2.1) S.s.bh, unlock_ext (fun b d => (B.young b d).2.2.2) S.s.b0, S.s.tb, fun x h => ?_, S0.s.z0.trans S.s.z0, S.s.nz, S.s.len, fun i sl h => ?_, S.s.ap⟩, S.t⟩
  · rcases S.s.fr x h with q | q
    · exact S0.s.fr x q
    · exact .inr (unlock_fr B q).2
  · have w := S.s.at_ i sl h
    cases sl with
    | no => trivial
    | val d => exact w
    | raw v => exact w
    | own ds =>
      obtain ⟨l, xs, e, hl, zl, f1, f2, r⟩ := w
      exact ⟨l, xs, e, hl, zl, (unlock_fr B f1).2, (unlock_fr B f2).2, r⟩
theorem ret_unlock {v : V} {d : D} (S0 : St1 X.K E Z H σ ρ) (B : Bears X E H Z s pv) (R : RetOk X.K (lkCfg E pv H Z) v Z1 H1 d) : RetOk X.K E v Z1 H1 d :=
  ⟨R.r, R.zh, S0.s.z0.trans R.z0, unlock_ext (fun b d => (B.young b d).2.2.2) R.b0, unlock_ext (fun b d => (B.young b d).2.2.1) R.bh, R.tb, fun x h => by
    rcases R.fr x h with q | q
    · exact S0.s.fr x q
    · exact .inr (unlock_fr B q).2, R.nz⟩
theorem bears_still (B : Bears X E H Z s pv) (I : Inv X pins σ1 H1 s1) (S : St1 X.K (lkCfg E pv H Z) Z1 H1 σ1 ρ1) : Bears X E H1 Z1 s1 pv := by
  refine ⟨fun p hp => ?_, B.young⟩
  obtain ⟨q1, q2, q3⟩ := B.at_ p hp
  have d : dom pv p.1 := ⟨p.2, hp⟩
  have e : H1 p.1 = some (.frz p.2 (.own 0)) := S.s.bh p.1 _ (by show (if dom pv p.1 then H p.1 else E.B p.1) = _; rw [if_pos d]; exact q2) (fun _ z => nomatch z)
  refine ⟨(I.hok _ _ e).1, e, ?_⟩
  cases q : Z1 p.1 with
  | none => rfl
  | some u =>
    rcases S.s.fr p.1 (by rw [q]; exact fun z => nomatch z) with w | w
    · exact absurd q3 w
    · exact absurd d (unlock_fr B w).1
end
theorem xw_lock {xn : Addr → Prop} (B : Bears X E H Z s pv) (W : XW X E xn) : XW X (lkCfg E pv H Z) xn := by
  obtain ⟨W, tk, w⟩ := W
  exact ⟨W, tk, fun C σ H' x h1 h2 h3 => w C σ H' x (unlock_ext (fun b d => (B.young b d).2.2.2) h1) (unlock_ext (fun b d => (B.young b d).2.2.1) h2) h3⟩
end
end GL
set_option maxHeartbeats 4000000
namespace GL
open PySem PySem.Spec PyProof.Rows L2 DL
open Sem (wp)
open Classical

section
variable {X : Cx} {pins : List (Addr × Obj)} {a : Addr} {gn : Nat} {go : Obj} {E : Cfg} {σ : L2.St} {H Z H' : Hp} {ρ : List Sl} {pv : List (Addr × Obj)} {s s' : Shared} {e : Expr} {es : List Expr} {x v : Str} {p pos pvn fpos : Pos} {body : List Stmt} {ds : List D} {P : Po}
theorem inv_unpin {q : Addr × Obj} (I : Inv X (pins ++ [q]) σ H s) : Inv X pins σ H s := ⟨I.ok, I.os, I.bare, I.base, I.loc, I.cell, I.free, I.freeC, fun p hp => I.pin p (by
    rcases List.mem_append.mp hp with h | h
    · exact List.mem_append_left _ h
    · exact List.mem_append_right _ (List.mem_append_left _ h)), I.hok, I.len⟩
/-- the call of a generator def -/
theorem wp_gen {k : Nat} {R : List D → List D → Option Addr → Prop} {items : List D} {er : Option Addr} (F : GenOk X.prog X.w X.K X.mg X.base x k R) (hr : Room (k + 2) X.A) (hex : X.ex = []) (ha : DA X (e :: es) ρ ds) (hR : R ds items er) (hns : ∀ C, er = some C → PySem.W.subIn X.K (.ref C) (.type "StopIteration") = some false)
    (I : Inv X pins σ H s) (S : St1 X.K E Z H σ ρ) (hx : XWf X E (fun C => er = some C) σ) {n : Nat} (hn : n ≤ s.gens.size) {Q : Value → Shared → Prop}
    (q : ∀ (a : Addr) (gn : Nat) (go : Obj) (g : Inst) (pv : List (Addr × Obj)) (c : Code) (H' Z' : Hp) (s0 s' : Shared) (N : List Str) (qual : Str) (st : Stmt) (f : Addr) (cdv : Value) (gi : Nat), g = instOf X N qual st f cdv s0.heap.objs.size k gi → IsGo go gn → s0.heap.objs.size ≤ a → s0.gens.size ≤ gn → G X.K Z H Z' H' → (∀ b, dom pv b → s0.heap.get? b = none) → (∃ H0 : Hp, Inv X pins σ H0 s0 ∧ St1 X.K E Z' H0 σ ρ ∧ n ≤ s0.gens.size) →
      Hd X g pins a gn go E σ H' Z' ρ pv items (.fresh c) (er = none) s' → Q (.ref a) s') (hg : Gl X x := by rfl) (hdb : (x == ("__debug__" : Str)) = false := by decide)
    (he : starEach (e :: es) X.env = (false, eval e X.env) :: starEach es X.env := by rfl) (hpl : (backTo pos (starEach es X.env)).any (·.1) = false := by rfl) : wpAny (model X.prog X.w) X.A (eval (.Call (.Name x p) (e :: es) [] pos) X.env) Q X.xe s := by
  obtain ⟨f, fd, ps, N, qual, st, hm, hk, hb, len, run⟩ := F
  refine wpAny_Call_Name_kw (ld_glob I hg hm ?_ hdb)
  refine PySem.W.callWith_K (h₀ := X.base) I.ok.mod.kin hk (thn (wpz hn (ha E Z H σ S (fun vs H1 => ∃ Z1, G X.K Z H Z1 H1 ∧ RepL X.K Z1 vs ds) (fun vs Z1 H1 g1 r1 => ⟨Z1, g1, r1⟩) pos pins s I)) fun us s1 ⟨⟨vs, H1, I1, r, Z1, g1, r1⟩, gz⟩ => ⟨I1.kIn, ?_⟩) he hpl
  have hl : us.length = ps.length := by rw [← r.length, r1.length]; exact len _ _ _ hR
  have S1 := S.grow g1
  have hbt : BindsTo s1 fd ⟨us, []⟩ (ps.zip us) := by
    have := hb s1 us I1.kIn (by rw [List.append_nil]; exact hl)
    rw [List.append_nil] at this; exact this
  refine wpAny_call (codeAny_mono (run X.A X.stack s1 H1 Z1 ⟨us, []⟩ us vs ds items er (hr.mono (by omega)) I1.env0 hbt r r1 g1.zh S1.s.nz g1.tb hR) fun r2 s2 ⟨cdv, gi, a, gn, go, pv, H2, e2, m⟩ => ?_)
  subst e2
  obtain ⟨c, hd⟩ := hd_start (st := st) hex I1 S1 hx hns hr m
  have ndS : ∀ b u, H1 b = some u → ¬ dom pv b := fun b u e ⟨o, hp⟩ => by
    obtain ⟨o2, e2⟩ := okSome (I1.hok b u e)
    rw [(m.hpv (b, o) hp).2.2.2.1] at e2; cases e2
  have eH : ∀ b u, H1 b = some u → H2 b = some u := fun b u e => by rw [m.hp b (ndS b u e)]; exact e
  have g2 : G X.K Z1 H1 Z1 H2 := ⟨Ex.refl _, LamX.ExtN.of eH, g1.zh.trans eH, g1.tb.ext eH, fun _ h => .inl h, id⟩
  exact q a gn go _ pv c H2 Z1 s1 s2 N qual st f cdv gi rfl m.go m.new m.gnew (g1.trans g2) (fun b ⟨o, h⟩ => (m.hpv (b, o) h).2.2.2.1) ⟨H1, I1, S1, gz⟩ hd
/-- behind what was run while it slept: the loop's head again -/
theorem hd_again {g : Inst} {gs' : GenState} {pv' : List (Addr × Obj)} {gp' : List (Nat × GenState)} {ys : List D} {Z1 H1 : Hp} {σ1 : L2.St} {ρ1 : List Sl} {s1 : Shared} (o : Of X g) (hr : Room (g.k + 2) X.A) (hgi : g.gi = gn + 1) (hn0 : g.n0 ≤ a)
    (I1 : Inv X (pins ++ [(a, go)]) σ1 H1 s1) (S1 : St1 X.K E Z1 H1 σ1 ρ1) (B1 : Bears X E H1 Z1 s1 pv') (hz : Ex Z Z1) (hgs : s1.gens[gn]? = some gs') (hgp : ∀ q ∈ gp', s1.gens[(q : Nat × GenState).1]? = some q.2 ∧ q.1 ≠ gn)
    (cont : ∀ γ2 : Gh, γ2.pv = pv' → WkC g γ2 → Ex Z γ2.ZW → nv γ2 → (∀ q ∈ gp', γ2.sW.gens[(q : Nat × GenState).1]? = some q.2) → Goes (model g.P g.w) γ2.A (Post g ys γ2) gs' γ2.sW) : Hd X g pins a gn go E σ1 H1 Z1 ρ1 pv' ys gs' True s1 := by
  have hpin := (I1.pin (a, go) (List.mem_append_right _ (List.mem_append_right _ (List.mem_singleton.mpr rfl)))).1
  have n0 : g.n0 ≤ s1.heap.objs.size := Nat.le_trans hn0 (Nat.le_of_lt (Heap.lt_size hpin))
  have hgl : gn < s1.gens.size := (Array.getElem?_eq_some_iff.mp hgs).1
  refine ⟨I1, S1, B1, n0, hgi, hgs, fun _ _ => False, fun _ _ => False, ?_, fun e s2 h => h.elim⟩
  refine cont ⟨X.A.in1, s1.setGen gn .running, H1, Z1, pv', fun _ _ => False, fun _ _ => False, True⟩ rfl (wkc o I1 S1 B1 n0 (by rw [hgi]; exact hgl) hr _ _ _) hz ⟨rfl, rfl, rfl⟩ fun q hq => ?_
  obtain ⟨q1, q2⟩ := hgp q hq
  show (s1.gens.setIfInBounds gn _)[q.1]? = _
  rw [Array.getElem?_setIfInBounds_ne (Ne.symm q2)]
  exact q1
theorem Susp.kept {s s1 s' : Shared} (b : Back s.gens s1 s') {i : Nat} {x : GenState} (h : s.gens[i]? = some x) (hs : Susp x) : s'.gens[i]? = some x := by
  obtain ⟨k, l, c, p, fs, cl, rfl⟩ := hs
  exact b.kept h
theorem ds_forG {k : Nat} {R : List D → List D → Option Addr → Prop} (i : Nat) (items : List D) (er : Option Addr) (F : GenOk X.prog X.w X.K X.mg X.base x k R) (hr : Room (k + 2) X.A) (hp : PassesOwn (model X.prog X.w) X.A X.env X.xe) (hxb : XeB X) (hN : X.N.Nodup) (ha : DA X (e :: es) ρ ds) (hR : R ds items er)
    (hns : ∀ C, er = some C → PySem.W.subIn X.K (.ref C) (.type "StopIteration") = some false) (hxn : ∀ C, er = some C → P.xn C) (I : Nat → List Sl → Prop) (h0 : I 0 ρ)
    (hs : er = none → ∀ j y ρ', items[j]? = some y → I j ρ' → DSs X body (ρ'.set i (.val y)) { nx := I (j + 1), ct := I (j + 1), bk := P.nx, rt := P.rt, xn := P.xn }) (hd : er = none → ∀ ρ', I items.length ρ' → P.nx ρ')
    (hi : X.N[i]? = some v := by rfl) (hx : Loc X.env.scope v := by first | exact .inl rfl | exact .inr rfl) (hf : X.fn v = true ∨ X.env.scope.names.lookup v = some .local := by first | exact .inl rfl | exact .inr rfl) (hex : X.ex = [] := by rfl) (hg : Gl X x := by rfl) (hdb : (x == ("__debug__" : Str)) = false := by decide)
    (he : starEach (e :: es) X.env = (false, eval e X.env) :: starEach es X.env := by rfl) (hpl : (backTo pos (starEach es X.env)).any (·.1) = false := by rfl)
    (hfs : ∀ x', foldedSetIterable (.Call (.Name x p) (e :: es) [] pos) X.env x' = pure x' := by intro _; rfl) : DS X (.For (.Name v pvn) (.Call (.Name x p) (e :: es) [] pos) body [] fpos) ρ P := fun E Z H σ S W pins s I0 => by
  refine wpAny_For ?_ hfs
  refine wp_gen F hr hex ha hR hns I0 S (xw_f (xw_mono hxn W) σ) (Nat.zero_le _) (fun a gn go g pv c H1 Z1 s0 s1 N qual st f cdv gi eg hgo hn0 _ gr _ _ hd0 => ?_) hg hdb he hpl
  have o : Of X g := by rw [eg]; exact ofInst
  have hk : g.k = k := by rw [eg]
  have hn1 : g.n0 ≤ a := by rw [eg]; exact hn0
  have hr' : Room (g.k + 2) X.A := by rw [hk]; exact hr
  have hgi := hd0.gi
  have hpin0 := (hd0.I.pin (a, go) (List.mem_append_right _ (List.mem_append_right _ (List.mem_singleton.mpr rfl)))).1
  refine wpAny_pyIter_gen (hgo.at hpin0) ?_
  refine codeAny_forLoop (fun n s' => ∃ (j : Nat) (σ' : L2.St) (H' Z' : Hp) (ρ' : List Sl) (pv' : List (Addr × Obj)) (gs' : GenState) (ok : Prop), n = items.length - j ∧ j ≤ items.length ∧ Hd X g pins a gn go E σ' H' Z' ρ' pv' (items.drop j) gs' ok s' ∧ I j ρ' ∧ (ok → er = none)) ?_ items.length
    ⟨0, σ, H1, Z1, ρ, pv, _, _, rfl, Nat.zero_le _, hd0, h0, id⟩
  rintro n s2 ⟨j, σ2, H2, Z2, ρ2, pv2, gs2, ok, en, hj, hd2, hI, hok⟩
  refine wpAny_passesOwn hp (thn (hd_next o hex hgo hr' hd2) fun r s3 q => ?_)
  cases erem : items.drop j with
  | nil =>
    rw [erem] at q
    obtain ⟨ok1, rfl, H3, Z3, I3, S3⟩ := q
    have hj2 : j = items.length := by
      have := List.drop_eq_nil_iff.mp erem
      omega
    subst hj2
    exact wpAny_execs_nil ⟨σ2, H3, I3, Z3, ρ2, S3, hd (hok ok1) ρ2 hI⟩
  | cons y ys =>
    rw [erem] at q
    obtain ⟨ok1, v1, xv, gs3, pv3, gp3, H3, Z3, rfl, rv, rx, hz3, I3, S3, B3, _, hn3, hgs3, hsu3, hgp3, cont⟩ := q
    have hjl : j < items.length := by
      rcases Nat.lt_or_ge j items.length with h | h
      · exact h
      · rw [List.drop_eq_nil_iff.mpr h] at erem; cases erem
    have hy : items[j]? = some y := by
      have := congrArg List.head? erem
      rw [List.head?_drop] at this
      exact this
    have hys : items.drop (j + 1) = ys := by
      have := congrArg List.tail erem
      rw [List.tail_drop] at this
      exact this
    have ern := hok ok1
    refine wpAny_passesOwn hp (thn (keepG hxb I3.bare ((dg_name (d := y) (pos := pvn) i hN hi hx hf) Z3 H3 σ2 xv S3.zh rx (fun σ' H' => H' = H3 ∧ ∃ vs, RepL X.K Z3 vs [y] ∧ σ' = setS σ2 [i] vs) (fun vs rvs => ⟨rfl, vs, rvs, rfl⟩) (pins ++ [(a, go)]) (poS s3) v1 (inv_po I3) rv)) fun _ s4 ⟨s4', b4, σ4, H4, I4', e4, vs, rvs, e4'⟩ => ?_)
    subst e4
    have I4 := inv_back I4' I3.bare b4
    have S4 : St1 X.K E Z3 H4 σ4 (ρ2.set i (.val y)) := by
      rw [e4']
      exact S3.puts (js := [i]) rvs
    have B4 : Bears X E H4 Z3 s4 pv3 := ⟨fun p hp => let ⟨_, q2, q3⟩ := B3.at_ p hp; ⟨(I4.hok _ _ q2).1, q2, q3⟩, B3.young⟩
    have hgs4 := hsu3.kept b4 hgs3
    have hgp4 : ∀ q ∈ gp3, s4.gens[(q : Nat × GenState).1]? = some q.2 ∧ Susp q.2 ∧ q.1 ≠ gn := fun q hq => let ⟨q1, q2, q3, _⟩ := hgp3 q hq; ⟨q2.kept b4 q1, q2, q3⟩
    refine wpAny_passesOwn hp (thn (keepG hxb I4.bare (hs ern j y ρ2 hy hI (lkCfg E pv3 H4 Z3) Z3 H4 σ4 (st_lock S4 B4) (xw_lock B4 W) (pins ++ [(a, go)]) (poS s4) (inv_po I4))) fun fl s5 ⟨s5', b5, q5⟩ => ?_)
    have hgs5 := hsu3.kept b5 hgs4
    have hgp5 : ∀ q ∈ gp3, s5.gens[(q : Nat × GenState).1]? = some q.2 ∧ q.1 ≠ gn := fun q hq => let ⟨q1, q2, q3⟩ := hgp4 q hq; ⟨q2.kept b5 q1, q3⟩
    have turn : (∃ σ5 H5, Inv X (pins ++ [(a, go)]) σ5 H5 s5' ∧ ∃ Z5 ρ5, St1 X.K (lkCfg E pv3 H4 Z3) Z5 H5 σ5 ρ5 ∧ I (j + 1) ρ5) → ∃ m, m < n ∧ ∃ (j : Nat) (σ' : L2.St) (H' Z' : Hp) (ρ' : List Sl) (pv' : List (Addr × Obj)) (gs' : GenState) (ok : Prop), m = items.length - j ∧ j ≤ items.length ∧ Hd X g pins a gn go E σ' H' Z' ρ' pv' (items.drop j) gs' ok s5 ∧ I j ρ' ∧ (ok → er = none) := by
      rintro ⟨σ5, H5, I5', Z5, ρ5, S5, hI5⟩
      have I5 := inv_back I5' I4.bare b5
      refine ⟨items.length - (j + 1), by omega, j + 1, σ5, H5, Z5, ρ5, pv3, gs3, True, rfl, hjl, ?_, hI5, fun _ => ern⟩
      rw [hys]
      exact hd_again o hr' hgi hn1 I5 (st_unlock S4 B4 S5) (bears_still B4 I5 S5) S5.s.z0 hgs5 hgp5 cont
    cases fl with
    | next => exact turn q5
    | cont => exact turn q5
    | brk =>
      obtain ⟨σ5, H5, I5', Z5, ρ5, S5, hn⟩ := q5
      exact ⟨σ5, H5, inv_unpin (inv_back I5' I4.bare b5), Z5, ρ5, st_unlock S4 B4 S5, hn⟩
    | ret u =>
      obtain ⟨u5, σ5, H5, I5', r5, Z5, d5, R5, hn⟩ := q5
      exact ⟨u5, σ5, H5, inv_unpin (inv_back I5' I4.bare b5), r5, Z5, d5, ret_unlock S4 B4 R5, hn⟩
end
end GL
set_option maxHeartbeats 4000000
/-! A generator def that walks another one and hands out one thing for each. -/
namespace GL
open PySem PySem.Spec PyProof.Rows L2 DL
open Sem (wp)
open Classical

section
variable {g1 : Inst} {γ : Gh} {σ : L2.St} {H Z : Hp} {ρ : List Sl} {s : Shared} {Nx : List Sl → List D → Prop} {e ye : Expr} {es : List Expr} {x v : Str} {p pos pvn fpos yp ypos : Pos} {ds : List D}
theorem ours_of (R : Rn g1 γ σ H Z ρ s) {b : Addr} (h : s.heap.get? b = none) : dom γ.pv b ∨ γ.sW.heap.get? b = none := by
  by_cases d : dom γ.pv b
  · exact .inl d
  · right
    cases q : γ.sW.heap.get? b with
    | none => rfl
    | some o =>
      obtain ⟨o', e⟩ := R.aft.there b o q d
      rw [h] at e; cases e
theorem gt_forG {k : Nat} {R : List D → List D → Option Addr → Prop} (i : Nat) (items : List D) (Y : D → D) (F : GenOk g1.P g1.w g1.K g1.mg g1.base x k R) (hk : k + 2 ≤ g1.k) (hN : g1.N.Nodup) (hR : R ds items none) (ha : ∀ γ, Room g1.k (g1.X γ).A → DA (g1.X γ) (e :: es) ρ ds)
    (Jv : List Sl → Prop) (h0 : Jv ρ) (hs : ∀ y ∈ items, ∀ ρ', Jv ρ' → Jv (ρ'.set i (.val y)) ∧ ∀ γ, Room g1.k (g1.X γ).A → DE (g1.X γ) ye (ρ'.set i (.val y)) (Y y)) (hd : ∀ ρ', Jv ρ' → Nx ρ' [])
    (hi : g1.N[i]? = some v := by rfl) (hx : Loc g1.env.scope v := by first | exact .inl rfl | exact .inr rfl) (hg : ∀ γ, Gl (g1.X γ) x := by intro _; rfl) (hdb : (x == ("__debug__" : Str)) = false := by decide)
    (he : starEach (e :: es) g1.env = (false, eval e g1.env) :: starEach es g1.env := by rfl) (hpl : (backTo pos (starEach es g1.env)).any (·.1) = false := by rfl)
    (hfs : ∀ x', foldedSetIterable (.Call (.Name x p) (e :: es) [] pos) g1.env x' = pure x' := by intro _; rfl) (hco : g1.env.scope.isCoroutine = false := by rfl) (hin : interactive g1.env = false := by rfl) :
    GT g1 (exec (.For (.Name v pvn) (.Call (.Name x p) (e :: es) [] pos) [.Expr (.Yield (some ye) yp) ypos] [] fpos) g1.env) ρ (items.map Y) Nx := fun c fs K J gd lv gc kk γ σ H Z s n R0 => by
  have xeF : ∀ {γ : Gh}, nv γ → (g1.X γ).xe = fun _ _ => False := fun n => n.1
  rw [exec_For]
  refine sg_at ?_
  show Sx g1 γ _ c ((eval (.Call (.Name x p) (e :: es) [] pos) g1.env >>= _).wrap K J gd lv) fs s
  rw [Sem.bind_eq_wrap', Sem.wrap_wrap]
  refine sg_wrap ?_
  rw [gc.over]
  refine wpAny_mono (wpz R0.gz (wp_gen (X := g1.X γ) (er := none) F (R0.c.room.mono hk) rfl (ha γ R0.c.room) hR (fun C z => nomatch z) R0.I R0.S (xw_f (xw_mono (fun C z => nomatch z) xw_never) _) R0.gz
    (Q := fun u s1 => ∃ (a : Addr) (gn : Nat) (go : Obj) (g : Inst) (pv : List (Addr × Obj)) (cc : Code) (H1 Z1 : Hp), u = .ref a ∧ Of (g1.X γ) g ∧ (∀ γ', Of (g1.X γ') g) ∧ g.k = k ∧ IsGo go gn ∧ g.n0 ≤ a ∧ g1.gi ≤ gn ∧ (∀ b, dom pv b → dom γ.pv b ∨ γ.sW.heap.get? b = none) ∧ (dom γ.pv a ∨ γ.sW.heap.get? a = none) ∧ Hd (g1.X γ) g [] a gn go (g1.E γ) σ H1 Z1 ρ pv items (.fresh cc) True s1)
    (fun a gn go g pv cc H1 Z1 s0 s1 N qual st f cdv gi eg hgo hn0 hgn gr hpn ⟨H0, I00, S00, gz0⟩ hd0 => ?_) (hg γ) hdb he hpl)) (fun u s1 ⟨hq, gz1⟩ => ?_) fun x' s' hx' => by rw [xeF n] at hx'; exact hx'.elim
  · have R00 : Rn g1 γ σ H0 Z1 ρ s0 := ⟨I00, S00, R0.c, R0.w, gz0⟩
    refine ⟨a, gn, go, g, pv, cc, H1, Z1, rfl, by rw [eg]; exact ofInst, fun γ' => by rw [eg]; exact ⟨rfl, rfl, rfl, rfl, rfl, rfl⟩, by rw [eg], hgo, by rw [eg]; exact hn0, Nat.le_trans gz0 hgn, fun b d => ours_of R00 (hpn b d), ours_of R00 (Heap.get?_none_of_le hn0), ?_⟩
    have ek : (((none : Option Addr) = none) = True) := by simp
    rw [ek] at hd0
    exact hd0
  · obtain ⟨a, gn, go, g, pv, cc, H1, Z1, rfl, o, oo, egk, hgo, hn0, hgn, hours, hoursA, hd1⟩ := hq
    show Sx g1 γ _ c ((foldedSetIterable (.Call (.Name x p) (e :: es) [] pos) g1.env (.ref a) >>= _).wrap K J gd lv) fs s1
    rw [hfs]
    show Sx g1 γ _ c (.at (Expr.Call (.Name x p) (e :: es) [] pos).pos fun _ => (holding [.ref a] (pyIter (.ref a)) >>= _).wrap K J gd lv) fs s1
    refine sg_at ?_
    rw [Sem.bind_eq_wrap', Sem.wrap_wrap]
    refine sg_wrap ?_
    have hpin1 := (hd1.I.pin (a, go) (List.mem_append_right _ (List.mem_append_right _ (List.mem_singleton.mpr rfl)))).1
    refine wpAny_holding (wpAny_pyIter_gen (hgo.at hpin1) ?_)
    show Sx g1 γ _ c (((Sem.call (.forLoop (.Name v pvn) (.ref a) [.Expr (.Yield (some ye) yp) ypos] [] g1.env) none false [] fun r => match r with | .ok f => (.pure f : Sem Flow) | .error e => .raise e).onRaise _).wrap K J gd lv) fs s1
    refine sg_call fun pq => ?_
    have hr' : ∀ {γ : Gh}, Room g1.k (g1.X γ).A → Room (g.k + 2) (g1.X γ).A := fun r => by rw [egk]; exact r.mono hk
    have hgi := hd1.gi
    have loop : ∀ (ys : List D) (γ : Gh) σ H Z ρ' pv gs ok s, nv γ → (∀ y ∈ ys, y ∈ items) → Jv ρ' → Rn g1 γ σ H Z ρ' s → Hd (g1.X γ) g [] a gn go (g1.E γ) σ H Z ρ' pv ys gs ok s → (∀ b, dom pv b → dom γ.pv b ∨ γ.sW.heap.get? b = none) → (dom γ.pv a ∨ γ.sW.heap.get? a = none) →
        Sx g1 γ (ys.map Y) (.forLoop (.Name v pvn) (.ref a) [.Expr (.Yield (some ye) yp) ypos] [] g1.env) ((model g1.P g1.w).den (.forLoop (.Name v pvn) (.ref a) [.Expr (.Yield (some ye) yp) ypos] [] g1.env)) (.ret (fun r => ((match r with | .ok f => (.pure f : Sem Flow) | .error e => .raise e).onRaise fun (x : Value) => do
          if (← field x 1) == Value.none then unsupported "frame.own-activation:exception-without-traceback"
          setFlight x g1.env.frame).wrap K J gd lv) none (gd false) (lv []) c pq [] :: fs) s := by
      have gl := fun (kq : Result → Sem PySem.Fin) => gc_deep (k := kq) (c' := .forLoop (.Name v pvn) (.ref a) [.Expr (.Yield (some ye) yp) ypos] [] g1.env) (l := lv []) (kp := []) (p := pq) gc rfl rfl
      intro ys
      induction ys with
      | nil =>
        intro γ σ H Z ρ' pv gs ok s n _ hJ R hd2 _ _
        show Sx g1 γ _ _ ((forTurn (.Name v pvn) (.ref a) [.Expr (.Yield (some ye) yp) ypos] [] g1.env).onRaise fun x => do noteFrame x g1.env; theTreesLotGoes x) _ s
        unfold forTurn
        rw [Sem.onRaise_eq_wrap]
        refine sg_at ?_
        show Sx g1 γ _ _ (((pyNext (.ref a)).onRaise _ >>= _).wrap _ _ _ _) _ s
        rw [Sem.bind_eq_wrap', Sem.wrap_wrap]
        refine sg_wrap ?_
        rw [(gl _).over]
        refine wpAny_onRaise (wpAny_mono (wpz R.gz (hd_next (oo γ) rfl hgo (hr' (γ := γ) R.c.room) hd2)) (fun r s3 ⟨q, gz3⟩ => ?_) fun x' s' hx' => by rw [xeF n] at hx'; exact hx'.elim)
        obtain ⟨_, rfl, H3, Z3, I3, S3⟩ := q
        refine sg_again rfl ?_
        refine sg_leaf (.ok .next) (kk γ σ H3 Z3 ρ' [] s3 n (hd ρ' hJ) ⟨I3, S3, R.c, R.w, gz3⟩)
      | cons y ys ih =>
        intro γ σ H Z ρ' pv gs ok s n hmem hJ R hd2 hours hoursA
        obtain ⟨hJ', hye⟩ := hs y (hmem y List.mem_cons_self) ρ' hJ
        show Sx g1 γ _ _ ((forTurn (.Name v pvn) (.ref a) [.Expr (.Yield (some ye) yp) ypos] [] g1.env).onRaise fun x => do noteFrame x g1.env; theTreesLotGoes x) _ s
        unfold forTurn
        rw [Sem.onRaise_eq_wrap]
        refine sg_at ?_
        show Sx g1 γ _ _ (((pyNext (.ref a)).onRaise _ >>= _).wrap _ _ _ _) _ s
        rw [Sem.bind_eq_wrap', Sem.wrap_wrap]
        refine sg_wrap ?_
        rw [(gl _).over]
        have xn := xeF n
        have hxb : XeB (g1.X γ) := xeb_never xn
        refine wpAny_onRaise (wpAny_mono (wpz R.gz (hd_next (oo γ) rfl hgo (hr' (γ := γ) R.c.room) hd2)) (fun r s3 ⟨q, gz3⟩ => ?_) fun x' s' hx' => by rw [xn] at hx'; exact hx'.elim)
        obtain ⟨_, v1, xv, gs3, pv3, gp3, H3, Z3, rfl, rv, rx, hz3, I3, S3, B3, hnew3, hn3, hgs3, hsu3, hgp3, cont⟩ := q
        show Sx g1 γ _ _ ((letOwnedTupleGo (.Name v pvn) (.ref a) v1 >>= _).wrap _ _ _ _) _ s3
        show Sx g1 γ _ _ ((assign (.Name v pvn) g1.env v1 >>= _).wrap _ _ _ _) _ s3
        rw [Sem.bind_eq_wrap', Sem.wrap_wrap]
        refine sg_wrap ?_
        rw [(gl _).over]
        refine wpAny_mono (wpz gz3 (keepG (X := g1.X γ) hxb I3.bare ((dg_name (X := g1.X γ) (d := y) (pos := pvn) i hN hi hx (.inl rfl)) Z3 H3 σ xv S3.zh rx (fun σ' H' => H' = H3 ∧ ∃ vs, RepL g1.K Z3 vs [y] ∧ σ' = setS σ [i] vs) (fun vs rvs => ⟨rfl, vs, rvs, rfl⟩) ([] ++ [(a, go)]) (poS s3) v1 (inv_po I3) rv))) (fun _ s4 ⟨⟨s4', b4, σ4, H4, I4', e4, vs, rvs, e4'⟩, gz4⟩ => ?_) fun x' s' hx' => by rw [xn] at hx'; exact hx'.elim
        subst e4
        have I4 := inv_back I4' I3.bare b4
        have S4 : St1 g1.K (g1.E γ) Z3 H4 σ4 (ρ'.set i (.val y)) := by
          rw [e4']
          exact S3.puts (js := [i]) rvs
        have B4 : Bears (g1.X γ) (g1.E γ) H4 Z3 s4 pv3 := ⟨fun p hp => let ⟨_, q2, q3⟩ := B3.at_ p hp; ⟨(I4.hok _ _ q2).1, q2, q3⟩, B3.young⟩
        have hgs4 := hsu3.kept b4 hgs3
        have hgp4 : ∀ q ∈ gp3, s4.gens[(q : Nat × GenState).1]? = some q.2 ∧ Susp q.2 ∧ q.1 ≠ gn ∧ g.gi ≤ q.1 := fun q hq => let ⟨q1, q2, q3, q4⟩ := hgp3 q hq; ⟨q2.kept b4 q1, q2, q3, q4⟩
        show Sx g1 γ _ _ ((execs [.Expr (.Yield (some ye) yp) ypos] g1.env >>= _).wrap _ _ _ _) _ s4
        rw [Sem.bind_eq_wrap', Sem.wrap_wrap, execs_cons_wrap]
        refine sg_yieldE rfl ?_ hco hin
        rw [(gl _).over]
        refine wpAny_mono (wpz gz4 (keepG (X := g1.X γ) hxb I4.bare (hye γ R.c.room (lkCfg (g1.E γ) pv3 H4 Z3) Z3 H4 σ4 (st_lock S4 B4) (fun v H' => ∃ Z', G g1.K Z3 H4 Z' H' ∧ Rep g1.K Z' v (Y y)) (fun v Z' H' g' r => ⟨Z', g', r⟩) ([] ++ [(a, go)]) (poS s4) (inv_po I4)))) (fun u s5 ⟨⟨s5', b5, vv, H5, I5', rv5, Z5, g5, rx5⟩, gz5⟩ => ?_) fun x' s' hx' => by rw [xn] at hx'; exact hx'.elim
        intro l kq ek
        have I5 := inv_back I5' I4.bare b5
        have S5L := (st_lock S4 B4).grow g5
        have S5 := st_unlock S4 B4 S5L
        have B5 : Bears (g1.X γ) (g1.E γ) H5 Z5 s5 pv3 := bears_still B4 I5 S5L
        have hgs5 := hsu3.kept b5 hgs4
        have hgp5 : ∀ q ∈ gp3, s5.gens[(q : Nat × GenState).1]? = some q.2 ∧ Susp q.2 ∧ q.1 ≠ gn ∧ g.gi ≤ q.1 := fun q hq => let ⟨q1, q2, q3, q4⟩ := hgp4 q hq; ⟨q2.kept b5 q1, q2, q3, q4⟩
        have R5 : Rn g1 γ σ4 H5 Z5 (ρ'.set i (.val y)) s5 := ⟨inv_unpin I5, S5, R.c, R.w, gz5⟩
        have hours5 : ∀ b, dom pv3 b → dom γ.pv b ∨ γ.sW.heap.get? b = none := fun b d => by
          rcases hnew3 b d with q | q
          · exact hours b q
          · exact ours_of R q
        obtain ⟨pe, pn', pl, pf, pc⟩ := I5.pin (a, go) (List.mem_append_right _ (List.mem_append_right _ (List.mem_singleton.mpr rfl)))
        refine sg_sleep (gp := (gn, gs3) :: gp3) (gl _).split (gl _).guard (by rw [n.2.2]; trivial) R5 rv5 rx5 (fun q hq => ?_) fun γ2 n2 hgp2 hpv2 C2 hz2 R2 => ?_
        · rcases List.mem_cons.mp hq with hq | hq
          · subst hq; exact ⟨hgs5, hsu3, hgn⟩
          · obtain ⟨q1, q2, q3, q4⟩ := hgp5 q hq
            exact ⟨q1, q2, by omega⟩
        · rw [ek]
          refine sg_again rfl ?_
          have da : (a, go) ∈ γ2.pv := by
            rw [hpv2]
            exact mem_pvOf.mpr ⟨pe, hoursA, .inl pn', S5.s.zh.free pn'⟩
          have hwa : Hw g1 γ2 H5 a = none := by unfold Hw; rw [if_pos ⟨go, da⟩]; exact pn'
          have I6 : Inv (g1.X γ2) ([] ++ [(a, go)]) σ4 (Hw g1 γ2 H5) γ2.sW := ⟨R2.I.ok, R2.I.os, R2.I.bare, R2.I.base, R2.I.loc, R2.I.cell, R2.I.free, R2.I.freeC, fun p hp => by
            rcases List.mem_append.mp hp with h | h
            · exact R2.I.pin p (List.mem_append_left _ h)
            · rw [List.mem_singleton.mp (show p ∈ [(a, go)] from h)]
              exact ⟨(C2.pv (a, go) da).1, hwa, pl, pf, pc⟩, R2.I.hok, R2.I.len⟩
          have dpv : ∀ p ∈ pv3, p ∈ γ2.pv := fun p hp => by
            rw [hpv2]
            obtain ⟨q1, q2, q3⟩ := B5.at_ p hp
            exact mem_pvOf.mpr ⟨q1, hours5 p.1 ⟨p.2, hp⟩, .inr (.inr ⟨p.2, q2⟩), q3⟩
          have B6 : Bears (g1.X γ2) (g1.E γ2) (Hw g1 γ2 H5) γ2.ZW γ2.sW pv3 := by
            refine ⟨fun p hp => ⟨(C2.pv p (dpv p hp)).1, ?_, (C2.pv p (dpv p hp)).2.2⟩, fun b ⟨ob, hb⟩ => ?_⟩
            · unfold Hw
              rw [if_pos ⟨p.2, dpv p hp⟩]
              exact (B5.at_ p hp).2.1
            · have db : dom γ2.pv b := ⟨ob, dpv (b, ob) hb⟩
              refine ⟨?_, fun o u e => ?_, Frsh.none (Bg_dom db), Frsh.none (Bg_dom db)⟩
              · cases q : (g1.X γ2).s_0.heap.get? b with
                | none => rfl
                | some o => exact absurd db (trunc_some q).2.2
              · have e' : H0g g1 γ2 b = some (.frz o u) := e
                unfold H0g at e'
                rw [if_neg fun q => q.2 db] at e'
                cases e'
          refine ih γ2 σ4 (Hw g1 γ2 H5) γ2.ZW (ρ'.set i (.val y)) pv3 gs3 True γ2.sW n2 (fun z h => hmem z (List.mem_cons_of_mem _ h)) hJ' R2 ?_ (fun b ⟨ob, hb⟩ => .inl ⟨ob, dpv (b, ob) hb⟩) (.inl ⟨go, da⟩)
          exact hd_again (gp' := gp3) (Z := Z3) (oo γ2) (hr' (γ := γ2) R2.c.room) hgi hn0 I6 R2.S B6 (g5.z.trans hz2) (hgp2 (gn, gs3) List.mem_cons_self) (fun q hq => ⟨hgp2 q (List.mem_cons_of_mem _ hq), (hgp5 q hq).2.2.1⟩) cont
    exact loop items γ σ H1 Z1 ρ pv _ True s1 n (fun _ h => h) h0 ⟨inv_unpin hd1.I, hd1.S, R0.c, R0.w, gz1⟩ hd1 hours hoursA
end
end GL
set_option maxHeartbeats 4000000
namespace DL
open PySem PySem.Spec PyProof.Rows L2
def top (i : Nat) : Stmt := PySem.Challenge.pw_chosenmoves_k66_whole_least_deciding_cha.main.body.getD i (.Pass ⟨0, 0, 0, 0⟩)
abbrev FnP (K : PySem.W.Frag) (x : Str) (st : Stmt) (f : Addr) (fd : FuncData) : Prop := FunD K x x (defArgs st) (defBody st) (defScope st) [] [] f fd
/-- what the top has written -/
structure Txt (K : PySem.W.Frag) (mg : Str → Option Value) : Prop where
  nLen : mg "len" = none
  nAll : mg "all" = none
  nSorted : mg "sorted" = none
  nRange : mg "range" = none
  nZip : mg "zip" = none
  nTuple : mg "tuple" = none
  nList : mg "list" = none
  nEnum : mg "enumerate" = none
  nIsi : mg "isinstance" = none
  nMin : mg "min" = none
  nMax : mg "max" = none
  nAbs : mg "abs" = none
  nInt : mg "int" = none
  nSet : mg "set" = none
  nBool : mg "bool" = none
  nStr : mg "str" = none
  places : ∃ t, mg "MOST_PLACES" = some (.int 12 t)
  members : ∃ t, mg "MOST_MEMBERS" = some (.int 60 t)
  charts : ∃ t, mg "MOST_CHARTS" = some (.int 1024 t)
end DL
set_option maxHeartbeats 4000000
namespace DL
open PySem PySem.Spec PyProof.Rows L2
section
variable {P : Program} {w : World} {K : PySem.W.Frag} {mg : Str → Option Value} {base : Heap} {f : Addr} {fd : FuncData}
/-! ### weight -/
def R_weight (ds : List D) (r : Res) : Prop := ∃ ns : List Int, ds = [tI ns] ∧ ns.length < 10000 ∧ r = .ok (.int ((ns.filter fun n => !decide (n = 0)).length : Nat))
abbrev s_weight : Stmt := top 16
theorem sc_weight : FnScope ["signs", "sign"] ["signs"] (defScope s_weight) := ⟨rfl, rfl, rfl, by decide +kernel, rfl, by decide +kernel, by decide +kernel⟩
theorem ok_weight (T : Txt K mg) (F : FnP K "weight" s_weight f fd) (hm : mg "weight" = some (.ref f)) : DefOk P w K mg base "weight" 1 R_weight := by
  refine def_ok F hm sc_weight (fun ds r ⟨ns, e, _⟩ => by rw [e]; rfl) (fun _ _ _ _ _ _ us hl => match us, hl with | [_], _ => rfl) fun cdv A outer s H E hr ds r hR => ?_
  obtain ⟨ns, rfl, hz, rfl⟩ := hR
  refine dss_one (ds_ret (de_lenL (de_of_do (do_lc ns D.int [1] (fun n => [.int n]) (fun n => !decide (n = 0)) D.int [("sign", 1)] sc_weight.nd (blkOk_by (N := ["signs", "sign"]) (sc := defScope s_weight) (by decide +kernel)) (di_tup (de_var 0)) ?_ ?_ ?_ ?_)) T.nLen) ?_)
  · have := sizeLine_eq; omega
  · exact fun _ _ _ _ _ n _ => dg_name 1 sc_weight.nd
  · exact fun _ _ _ _ _ n _ => dts_one (dt_cmp op_ne rd_neI (de_var 1) de_int (nomark _))
  · exact fun _ _ _ _ _ n _ _ => de_var 1
  · show _ = _
    simp
end
end DL
set_option maxHeartbeats 4000000
/-! sorted(rows, key=lambda row: (weight(row), row)). -/
namespace DL
open PySem PySem.Spec PyProof.Rows L2

section
variable {X : Cx} {pins : List (Addr × Obj)} {σ : L2.St} {H Z : Hp} {s : Shared}
theorem inv_track {a : Addr} {xs : List V} (I : Inv X pins σ H s) (h1 : X.s_0.heap.objs.size ≤ a) (hn : H a = none) (hL : a ≠ X.env.locals) (hc : ∀ x c, X.env.cells.lookup x = some c → c ≠ a) (hp : ∀ p ∈ X.pn ++ pins, p.1 ≠ a)
    (ok : xs.length ≤ sizeLine ∧ ∃ (its : List Value) (n : Nat), Vals xs its ∧ s.heap.get? a = some { cls := .type "list", data := .seq its.toArray n }) : Inv X pins σ (upd H a (.lst xs)) s := by
  have ne : ∀ b o, X.s_0.heap.get? b = some o → b ≠ a := fun b o e z => by
    have := Heap.lt_size e
    rw [z] at this
    exact absurd (Nat.lt_of_lt_of_le this h1) (Nat.lt_irrefl _)
  have nt : ∀ b u, H b = some u → b ≠ a := fun b u e z => by rw [z, hn] at e; cases e
  have up : ∀ b u, H b = some u → upd H a (.lst xs) b = some u := fun b u e => by rw [upd_ne (nt b u e)]; exact e
  refine ⟨I.ok, I.os, I.bare, ⟨I.base.keep, I.base.slot, fun b o e n hx => by rw [upd_ne (ne b o e)]; exact I.base.free b o e n hx, I.base.there, fun b ys e => up b _ (I.base.tups b ys e), fun b o u e => up b _ (I.base.frzs b o u e), fun b ps e => ?_⟩, I.loc, I.cell, ?_, fun x c e => ?_, fun p h => ?_, fun b u e => ?_, I.len⟩
  · obtain ⟨m, q⟩ := I.base.tbls b ps e
    exact ⟨m, up b _ q⟩
  · rw [upd_ne (Ne.symm hL)]; exact I.free
  · rw [upd_ne (hc x c e)]; exact I.freeC x c e
  · obtain ⟨q1, q2, q3⟩ := I.pin p h
    exact ⟨q1, by rw [upd_ne (hp p h)]; exact q2, q3⟩
  · by_cases hb : b = a
    · subst hb; rw [upd_same] at e; cases e; exact ok
    · rw [upd_ne hb] at e
      exact (I.hok b u e).stay (fun _ _ _ q => q) (fun c q => up c _ q) fun c ys q => up c _ q
/-- young: behind all that the state knew -/
theorem young_of (I : Inv X pins σ H s) {a : Addr} (h : s.heap.objs.size ≤ a) : X.s_0.heap.objs.size ≤ a ∧ a ≠ X.env.locals ∧ (∀ x c, X.env.cells.lookup x = some c → c ≠ a) ∧ (∀ p ∈ X.pn ++ pins, p.1 ≠ a) ∧ a ∉ frs X.stack := by
  have lt : ∀ b o, s.heap.get? b = some o → b ≠ a := fun b o e z => by
    have := Heap.lt_size e
    rw [z] at this
    exact absurd (Nat.lt_of_lt_of_le this h) (Nat.lt_irrefl _)
  obtain ⟨m, ⟨o, es, ep, ho, _⟩, _⟩ := I.loc
  refine ⟨Nat.le_trans I.sz h, (lt _ _ ho).symm, fun x c e => ?_, fun p hp => lt _ _ (I.pin p hp).1, fun hm => ?_⟩
  · obtain ⟨v, oc, hoc, _⟩ := I.cell x c e
    exact lt _ _ hoc
  · rcases List.mem_cons.mp (I.stkSub a hm) with z | z
    · exact (lt _ _ ho).symm z
    · exact I.nofs h z
/-! ### what a heap reads -/
def pyI (ns : List Int) : PyData := .tuple (ns.map .int)
theorem reads_ints {h : Heap} : ∀ {ns : List Int} {us : List Value}, Vals (ns.map V.int) us → ReadsAll h us (ns.map .int) []
  | [], _, r => by cases r; exact .nil
  | n :: ns, _, r => by
    cases r with
    | cons h1 h2 =>
      obtain ⟨t, rfl⟩ := h1
      exact .cons (as := []) (bs := []) (.int n t) (reads_ints h2)
theorem reads_tI {P : Program} {w : World} {h : Heap} {v : V} {u : Value} {ns : List Int} {K : PySem.W.Frag} (ok : HOk P w H h) (zh : Ex Z H) (r : Rep K Z v (tI ns)) (rv : RelV v u) : Reads h u (pyI ns) [] := by
  cases r with
  | tup hz rl =>
    obtain ⟨_, its, rs, o, e, e2⟩ := (rd_ex zh hz).ok ok
    obtain rfl : u = Value.ref _ := rv
    rw [rl.ints] at rs
    obtain ⟨c1, n, c2⟩ := e2
    exact .tuple e c1 c2 (reads_ints rs)
def keyP (w : Int) (ns : List Int) : PyData := .tuple [.int w, pyI ns]
def keyD (w : Int) (ns : List Int) : D := .tup [.int w, tI ns]
theorem reads_key {P : Program} {w : World} {h : Heap} {v : V} {u : Value} {k : Int} {ns : List Int} {K : PySem.W.Frag} (ok : HOk P w H h) (zh : Ex Z H) (r : Rep K Z v (keyD k ns)) (rv : RelV v u) : Reads h u (keyP k ns) [] := by
  cases r with
  | tup hz rl =>
    obtain ⟨_, its, rs, o, e, e2⟩ := (rd_ex zh hz).ok ok
    obtain rfl : u = Value.ref _ := rv
    obtain ⟨c1, n, c2⟩ := e2
    cases rl with
    | cons r1 rl =>
      cases rl with
      | cons r2 rl =>
        cases rl
        cases r1
        cases rs with
        | cons q1 rs =>
          cases rs with
          | cons q2 rs =>
            cases rs
            obtain ⟨t, rfl⟩ := q1
            exact .tuple e c1 c2 (.cons (as := []) (bs := []) (.int k t) (.cons (as := []) (bs := []) (reads_tI ok zh r2 q2) .nil))
end
end DL
set_option maxHeartbeats 4000000
namespace DL
open PySem PySem.W PySem.Calls PySem.Spec PyProof.Rows L2
/-- what a call of the key's function does, below the sort's two frames -/
def KeyCall (X : Cx) (pins : List (Addr × Obj)) (f : Addr) (wt : List Int → Int) (rows : List (List Int)) (Z0 H0 : Hp) : Prop := ∀ (σ : L2.St) (s : Shared) (H Z : Hp) (r : List Int) (v : V) (u : Value), Inv X pins σ H s → G X.K Z0 H0 Z H → r ∈ rows → Rep X.K Z v (tI r) → RelV v u →
  wpAny (model X.prog X.w) X.A.in1.in1 (call (.ref f) [u]) (fun k s' => ∃ kv Z' H', Inv X pins σ H' s' ∧ G X.K Z H Z' H' ∧ RelV kv k ∧ Rep X.K Z' kv (keyD (wt r) r) ∧ (∀ b o, s.heap.get? b = some o → H b = none → b ∉ frs X.stack → s'.heap.get? b = some o ∧ H' b = none)) (fun _ _ => False) s
section
variable {X : Cx} {pins : List (Addr × Obj)} {σ : L2.St} {H Z : Hp} {s : Shared} {wt : List Int → Int} {rows : List (List Int)} {f : Addr}
theorem alike_int {x y : Int} : PySem.W.alike (.int x) (.int y) = true := by simp [PySem.W.alike]
theorem alike_ints : ∀ (xs ys : List Int), PySem.W.alikeAll (xs.map PyData.int) (ys.map PyData.int) = true
  | [], _ => by simp [PySem.W.alikeAll]
  | _ :: _, [] => by simp [PySem.W.alikeAll]
  | x :: xs, y :: ys => by simp [PySem.W.alikeAll, alike_int, alike_ints xs ys]
theorem alike_key {k l : Int} {xs ys : List Int} : PySem.W.alike (keyP k xs) (keyP l ys) = true := by
  simp [keyP, pyI, PySem.W.alike, PySem.W.alikeAll, alike_ints]
theorem pdepth_ints : ∀ (xs : List Int), PyData.depthAll (xs.map PyData.int) = 0
  | [] => by simp [PyData.depthAll]
  | x :: xs => by simp [PyData.depthAll, PyData.depth, pdepth_ints xs]
theorem pdepth_key {k : Int} {xs : List Int} : (keyP k xs).depth ≤ 2 := by
  simp [keyP, pyI, PyData.depth, PyData.depthAll, pdepth_ints]
theorem each_zip {α β : Type} {R : α → β → Prop} : ∀ {as : List α} {bs : List β}, as.length = bs.length → (∀ (i : Nat) a b, as[i]? = some a → bs[i]? = some b → R a b) → EachIs R as bs
  | [], [], _, _ => .nil
  | a :: as, b :: bs, h, f => .cons (f 0 a b rfl rfl) (each_zip (by simpa using h) fun i x y h1 h2 => f (i + 1) x y (by simpa using h1) (by simpa using h2))
theorem each_get {α β : Type} {R : α → β → Prop} : ∀ {as : List α} {bs : List β}, EachIs R as bs → ∀ (i : Nat) (b : β), bs[i]? = some b → ∃ a, as[i]? = some a ∧ R a b
  | _, _, .nil, i, b, h => by simp at h
  | _, _, .cons h t, 0, b, e => by simp at e; subst e; exact ⟨_, rfl, h⟩
  | _, _, .cons h t, i + 1, b, e => by simpa using each_get t i b (by simpa using e)
theorem each_choose {K : PySem.W.Frag} {Z : Hp} : ∀ {us : List Value} {rs : List (List Int)}, EachIs (fun u (r : List Int) => ∃ v, RelV v u ∧ Rep K Z v (tI r)) us rs → ∃ ys : List V, Vals ys us ∧ RepL K Z ys (rs.map tI)
  | _, _, .nil => ⟨[], .nil, .nil⟩
  | _, _, .cons ⟨v, rv, rep⟩ t => let ⟨ys, h1, h2⟩ := each_choose t; ⟨v :: ys, .cons rv h1, .cons rep h2⟩
theorem sort_key {l : Addr} {xs : List V} {Q : V → Hp → Prop} {pins : List (Addr × Obj)} (hr : Room 1 X.A) (I : Inv X pins σ H s) (g0 : G X.K Z H Z H) (hl : H l = some (.lst xs)) (rl : RepL X.K Z xs (rows.map tI)) (hk : KeyCall X pins f wt rows Z H)
    (q : ∀ (a : Addr) (ys : List V) (Z' H' : Hp), G X.K Z H Z' H' → Frsh H a → Z' a = none → H' a = some (.lst ys) → RepL X.K Z' ys ((rows.mergeSort (dataLe false fun r => keyP (wt r) r)).map tI) → Q (.ref a) H') :
    wpAny (model X.prog X.w) X.A (call (.builtin "sorted") [.ref l] [(Str.ofString "key", .ref f)]) (EP X pins σ Q) X.xe s := by
  obtain ⟨hxl, vs, n, rv, ho⟩ := I.hok l _ hl
  have hvl : vs.length = xs.length := rv.length.symm
  have hrl : xs.length = rows.length := by rw [rl.length, List.length_map]
  have hV : vs.length ≤ sizeLine := by rw [hvl]; exact hxl
  refine sorted_of_sort (vs := vs) ⟨_, ho, rfl, n, rfl⟩ hV (ksk_s1 _ _) (fun _ => ksk_l1 _ _) fun E' => ?_
  rw [ksk_t1]
  have ho1 := copyHeap_at s.heap vs
  obtain ⟨e1, ho2⟩ : ∃ e1, ((copyHeap s.heap vs).update (s.heap.objs.size + 1) (Obj.mapSeq fun _ => (#[] : Array Value))).get? (s.heap.objs.size + 1) = some (seqObj "list" #[] e1) := ⟨_, get?_update_seq ho1 fun _ => #[]⟩
  have hkS : (((copyHeap s.heap vs).update (s.heap.objs.size + 1) (Obj.mapSeq fun _ => (#[] : Array Value))).push (seqObj "tuple" vs.toArray 0)).objs.size = (copyHeap s.heap vs).objs.size + 1 := by rw [size_push', Heap.size_update]
  have ha : s.heap.objs.size + 1 < (copyHeap s.heap vs).objs.size := Heap.lt_size ho1
  unfold ksk_tree
  refine wpAny_bind (listItems_at ho1 rfl ?_)
  refine wpAny_bind (listUpdate_at ho1 rfl ?_ (by rw [List.size_toArray]; exact hV) (Nat.zero_le _))
  refine wpAny_bind (seqEpoch_at ho2 rfl ?_)
  refine wpAny_bind (wpAny_newTuple ?_ (by show vs.length ≤ _; exact hV))
  refine wpAny_bind (wpAny_newList ?_ (Nat.zero_le _))
  refine wpAny_holding ?_
  unfold ksk_rest
  refine wpAny_bind (wpAny_rule ?_)
  first
    | rw [List.forIn_toArray]
    | (rw [← Array.forIn_toList]; simp only [List.toList_toArray])
    | rw [← Array.forIn_toList]
  rw [hkS]
  have hA : s.heap.objs.size ≤ s.heap.objs.size + 1 := Nat.le_succ _
  have hK : s.heap.objs.size ≤ (copyHeap s.heap vs).objs.size + 1 := by omega
  obtain ⟨a1, a2, a3, a4, a5⟩ := young_of I hA
  obtain ⟨k1, k2, k3, k4, k5⟩ := young_of I hK
  have hak : (copyHeap s.heap vs).objs.size + 1 ≠ s.heap.objs.size + 1 := by omega
  have I2 : L2.Inv X pins σ H { s with heap := (((copyHeap s.heap vs).update (s.heap.objs.size + 1) (Obj.mapSeq fun _ => (#[] : Array Value))).push (seqObj "tuple" vs.toArray 0)).push (seqObj "list" #[] 0) } := by
    have q := I.kept (t' := s.toks) (h' := (((copyHeap s.heap vs).update (s.heap.objs.size + 1) (Obj.mapSeq fun _ => (#[] : Array Value))).push (seqObj "tuple" vs.toArray 0)).push (seqObj "list" #[] 0)) fun b u e =>
      sortingHeap_old (a := s.heap.objs.size + 1) (vs := vs) (Nat.ne_of_lt (Nat.lt_succ_of_lt (Heap.lt_size e))) (copyHeap_old e)
    exact q
  refine wpAny_bind (ksk_fold (fun i s' => ∃ (H' Z' : Hp) (kA : Array Value) (e : Nat) (kvs : List V), L2.Inv X pins σ H' s' ∧ G X.K Z H Z' H' ∧ s'.heap.get? ((copyHeap s.heap vs).objs.size + 1) = some (seqObj "list" kA e) ∧ s'.heap.get? (s.heap.objs.size + 1) = some (seqObj "list" #[] e1) ∧ H' ((copyHeap s.heap vs).objs.size + 1) = none ∧ H' (s.heap.objs.size + 1) = none ∧ Vals kvs kA.toList ∧ RepL X.K Z' kvs ((rows.take i).map fun r => keyD (wt r) r)) vs 0 _
    ⟨H, Z, #[], 0, [], I2, g0, by rw [← hkS]; exact Heap.get?_push_size _ rfl, Heap.get?_push_of_some _ (Heap.get?_push_of_some _ ho2), I.hok.fresh hK, I.hok.fresh hA, .nil, by rw [List.take_zero]; exact .nil⟩ ?step ?done)
  case step =>
    rintro j x s' hx ⟨H', Z', kA, e, kvs, I', g', nk, na, hkn, han, rk, rkl⟩
    simp only [Nat.zero_add] at rkl ⊢
    have hj : j < vs.length := (List.getElem?_eq_some_iff.mp hx).1
    have hjr : j < rows.length := by omega
    have hrj : rows[j]? = some rows[j] := List.getElem?_eq_getElem hjr
    obtain ⟨v, hv, rvd⟩ := rl.get (i := j) (d := tI rows[j]) (by rw [List.getElem?_map, hrj]; rfl)
    obtain ⟨u, hu, ru⟩ := rv.get hv
    rw [hx] at hu; cases hu
    have hkl : kA.size ≤ vs.length := by
      have h1 := rkl.length
      have h2 := rk.length
      rw [List.length_map, List.length_take] at h1
      have h3 : kA.toList.length = kA.size := Array.length_toList
      omega
    refine wpAny_bind (wpAny_attempt (wpAny_mono (hk σ s' H' Z' rows[j] v x I' g' (List.getElem_mem hjr) (rvd.mono g'.z) ru) (fun kk s'' he => ?_) fun _ _ hF => hF.elim))
    obtain ⟨kv, Z2, H2, J2, g2, rkv, rep2, kp2⟩ := he
    try dsimp only
    obtain ⟨nk2, hkn2⟩ := kp2 _ _ nk hkn k5
    obtain ⟨na2, han2⟩ := kp2 _ _ na han a5
    obtain ⟨c2, hc2⟩ : ∃ c2, (s''.heap.update ((copyHeap s.heap vs).objs.size + 1) (Obj.mapSeq (·.push kk))).get? ((copyHeap s.heap vs).objs.size + 1) = some (seqObj "list" (kA.push kk) c2) := ⟨_, get?_update_seq nk2 (·.push kk)⟩
    have s1 := Heap.SameBut.update s''.heap ((copyHeap s.heap vs).objs.size + 1) (Obj.mapSeq (·.push kk))
    refine wpAny_bind (listUpdate_at nk2 rfl ?_ (Nat.le_trans hkl hV) (Nat.le_trans (Nat.le_of_eq (Array.size_push ..)) (Nat.succ_le_succ (Nat.le_trans hkl hV))))
    have J3 := J2.turned (t' := s''.toks) (it := (copyHeap s.heap vs).objs.size + 1) (h' := s''.heap.update ((copyHeap s.heap vs).objs.size + 1) (Obj.mapSeq (·.push kk))) (fun b o hb e => (s1.2 b hb).trans e) hkn2 k2 (.inr k1) k3 k4
    refine wpAny_pure ⟨rfl, H2, Z2, kA.push kk, c2, kvs ++ [kv], J3, g'.trans g2, hc2, (s1.2 _ hak.symm).trans na2, hkn2, han2, ?_, ?_⟩
    · rw [Array.toList_push]
      exact rk.append (.cons rkv .nil)
    · rw [List.take_add_one, hrj, List.map_append]
      exact (rkl.mono g2.z).app (.cons rep2 .nil)
  case done =>
    rintro s' ⟨H', Z', kA, e, kvs, I', g', nk, na, hkn, han, rk, rkl⟩
    rw [show (0 + vs.length) = rows.length by omega, List.take_length] at rkl
    have hks : kvs.length = rows.length := by rw [rkl.length, List.length_map]
    have hkl : kA.toList.length = rows.length := by rw [← rk.length]; exact hks
    have hEach : EachIs (fun v k => ∃ as, Reads s'.heap v k as) kA.toList (rows.map fun r => keyP (wt r) r) := each_zip (by rw [hkl, List.length_map]) fun i u d h1 h2 => by
      rw [List.getElem?_map] at h2
      obtain ⟨r, hr1, e⟩ := Option.map_eq_some_iff.mp h2
      subst e
      obtain ⟨kv, hkv, rep⟩ := rkl.get (i := i) (d := keyD (wt r) r) (by rw [List.getElem?_map, hr1]; rfl)
      obtain ⟨u', hu', ru'⟩ := rk.get hkv
      rw [h1] at hu'; cases hu'
      exact ⟨[], reads_key I'.hok g'.zh rep ru'⟩
    have hAll : AllAlike (rows.map fun r => keyP (wt r) r) := fun d hd d' hd' => by
      obtain ⟨r, _, rfl⟩ := List.mem_map.mp hd
      obtain ⟨r', _, rfl⟩ := List.mem_map.mp hd'
      exact alike_key
    have hSrt : Sortable (rows.map fun r => keyP (wt r) r) := .inl fun d hd => by
      obtain ⟨r, _, rfl⟩ := List.mem_map.mp hd
      exact ⟨_, _, rfl⟩
    refine wpAny_bind (listItems_at nk rfl ?_)
    have hdu : ∀ d, d ∈ (rows.map fun r => keyP (wt r) r) → X.A.in1.in1.units + d.depth < cLine := fun d hd => by
      obtain ⟨r, _, rfl⟩ := List.mem_map.mp hd
      have h1 := pdepth_key (k := wt r) (xs := r)
      have h2 := hr.un
      have h3 : X.A.in1.in1.units = X.A.units + 1 + 1 := rfl
      omega
    refine keyH_end (κ := dataKind s'.heap (rows.map fun r => keyP (wt r) r)) (h₁ := hideAll s'.heap [(copyHeap s.heap vs).objs.size + 1]) (fun b o _ e => of_hideAll _ e) (hideAll_none _ List.mem_cons_self) nk na hak (SortsAt.data hEach hAll hSrt hdu) (by rw [← Array.length_toList, hkl]; omega) hV fun h3 tk3 c3 kp3 n3 => ?_
    have eo := keyedOut_each (rev := false) (R := fun u (r : List Int) => ∃ v, RelV v u ∧ Rep X.K Z v (tI r)) (bs := rows) (vs := vs) (fun r => keyP (wt r) r) ⟨s'.heap, kA.toList, hAll, rfl, hEach⟩ (each_zip (by omega) fun i u r h1 h2 => by
      obtain ⟨v, hv, rep⟩ := rl.get (i := i) (d := tI r) (by rw [List.getElem?_map, h2]; rfl)
      obtain ⟨u', hu', ru'⟩ := rv.get hv
      rw [h1] at hu'; cases hu'
      exact ⟨v, ru', rep⟩)
    refine ⟨rfl, ?_⟩
    have keep3 : ∀ b o, b ≠ (copyHeap s.heap vs).objs.size + 1 → b ≠ s.heap.objs.size + 1 → s'.heap.get? b = some o → h3.get? b = some o := fun b o h1 h2 e => kp3 b o h2 (hideAll_get _ e (by simpa using h1))
    have nt : ∀ b u, H' b = some u → b ≠ (copyHeap s.heap vs).objs.size + 1 ∧ b ≠ s.heap.objs.size + 1 := fun b u e => ⟨fun z => by (rw [z, hkn] at e; cases e), fun z => by (rw [z, han] at e; cases e)⟩
    have nc : ∀ b, b ∉ [(copyHeap s.heap vs).objs.size + 1, s.heap.objs.size + 1] → b ≠ (copyHeap s.heap vs).objs.size + 1 ∧ b ≠ s.heap.objs.size + 1 := fun b h => ⟨fun z => h (by rw [z]; simp), fun z => h (by rw [z]; simp)⟩
    have hok3 : HOk X.prog X.w H' h3 := fun b u e => (I'.hok b u e).stay (fun c v hc e2 => by
      have : c ≠ (copyHeap s.heap vs).objs.size + 1 ∧ c ≠ s.heap.objs.size + 1 := by
        rcases hc with hc | hc
        · rw [hc]; exact nt b u e
        · exact nt c _ hc
      exact keep3 c v this.1 this.2 e2) (fun _ h => h) fun _ _ h => h
    have J4 : L2.Inv X pins σ H' { s' with heap := h3, toks := tk3 } := I'.call' (ch := [(copyHeap s.heap vs).objs.size + 1, s.heap.objs.size + 1]) (s' := { s' with heap := h3, toks := tk3 }) rfl
      ⟨fun b o e _ _ hc => keep3 b o (nc b hc).1 (nc b hc).2 e, fun b o e _ _ hc => ⟨o.slots, keep3 b o (nc b hc).1 (nc b hc).2 e⟩, fun _ _ _ n _ => n, fun b o e hc => ⟨o, keep3 b o (nc b hc).1 (nc b hc).2 e⟩, fun _ _ h => h, fun _ _ _ h => h, fun b ps h => ⟨#[], by rw [h]; simp⟩⟩ hok3 I'.bare fun b hb => by
        rcases List.mem_cons.mp hb with h | h
        · rw [h]; exact ⟨.inr k1, k2, k3, k4⟩
        · rw [List.mem_singleton.mp h]; exact ⟨.inr a1, a2, a3, a4⟩
    obtain ⟨ys, ry, ly⟩ := each_choose eo
    have hlen : ys.length ≤ sizeLine := by
      rw [ly.length, List.length_map, List.length_mergeSort]; omega
    have J5 := inv_track J4 a1 han a2 a3 a4 ⟨hlen, _, c3, ry, n3⟩
    exact ⟨.ref (s.heap.objs.size + 1), _, J5, rfl, q _ ys Z' _ (g'.newH han) (Frsh.none (I.hok.fresh hA)) (g'.zh.free han) upd_same (ly.mono g'.z)⟩
end
end DL
set_option maxHeartbeats 4000000
namespace DL
open PySem PySem.Spec PyProof.Rows L2

/-- a lambda of one name, called -/
theorem run_lam {P : Program} {w : World} {K : PySem.W.Frag} {mg : Str → Option Value} {base : Heap} {f c' : Addr} {qual y : Str} {params : Arguments} {body : Expr} {scope : Scope} {pm ctv : Value} {A : Around} {outer : List Env} {s : Shared} {H Z : Hp} {N : List Str} {k : Nat} {u : Value} {v : V} {d d' : D}
    (hr : Room (k + 1) A) (e0 : Env0 P w K mg base A outer s H) (hf : s.heap.get? f = some (PySem.W.kla_obj "<lambda>" qual params body scope [] pm c' ctv)) (hc : H c' = some (LamX.CodeO c' qual)) (S : FnScope N [y] scope)
    (hb : bindArgs (PySem.W.kla_fn "<lambda>" qual params body scope [] pm (.ref c') ctv) ⟨[u], []⟩ = pure [(y, u)]) (rv : RelV v u) (zh : Ex Z H) (nz : NoT Z) (tb : LamX.Tabs (tabs K) H) (rd : Rep K Z v d)
    (hbody : Room k (A.deeper (envOfC qual scope s.heap.objs.size f (.ref c'))) → DE (cxOf (L2.CX P w) P w K mg base N qual scope f (.ref c') A outer s H E0) body (sl0 N [d]) d') :
    codeAny (model P w) A (.call (.ref f) ⟨[u], []⟩) (CR (L2.CX P w) outer P w H s (fun v' H' => ∃ Z', G K Z H Z' H' ∧ Rep K Z' v' d') E0) s := by
  obtain ⟨⟨oc, vs, t, hoc, hdc, hvc⟩, _, _⟩ := e0.hok c' _ hc
  have lim : s.heap.NoLimit := e0.mod.nolimit.keeps fun b o e => (e0.bs b o e).1
  have hkind : ∀ x ∈ [y].zip [u], scope.names.lookup x.1 = some .local ∨ (scope.names.lookup x.1 = some .cell ∧ ((cellsFrom (s.heap.objs.size + 1) scope.names []).lookup x.1).isSome = true) := fun ⟨n, v⟩ hy => by
    rcases S.par n (List.of_mem_zip hy).1 with q | q
    · exact .inl q
    · exact .inr ⟨q, PySem.W.cellsFrom_some _ _ _ (.inl q)⟩
  refine PySem.W.kla_callFunE hr.depth hf rfl S.co S.gen rfl ⟨c', oc, vs, t, rfl, hoc, hdc, hvc⟩ ?_
  rw [hb]
  refine wpAny_pure (wpAny_newFunctionEnv_cells S.kind hkind fun env he s1 x => ?_)
  subst he
  refine ⟨lim.keeps x.toInCall.keep, ?_⟩
  have I : Inv (cxOf (L2.CX P w) P w K mg base N qual scope f (.ref c') A outer s H E0) [] (L2.start N [v]) H s1 := inv_start S hr.hd e0 rfl (.cons rv .nil) x
  refine PySem.W.kla_codeExpr (wpAny_mono (hbody (hr.deeper _) ⟨tabs K, Z, H, H⟩ Z H (L2.start N [v]) (st1_start N zh nz tb (.cons rd .nil)) (fun v' H' => ∃ Z', G K Z H Z' H' ∧ Rep K Z' v' d') (fun v' Z' H' g r => ⟨Z', g, r⟩) [] s1 I) (fun u' s' q => ?_) fun e s' q => q)
  obtain ⟨v', H', J, rv', q⟩ := q
  exact ⟨v', H', J.os, J.bare, J.base, J.hok, rv', q⟩
section
variable {X : Cx} {e : Expr} {ρ : List Sl} {p pos lpos kpos : Pos} {wt : List Int → Int} {rows : List (List Int)}
/-- sorted(e, key=lambda y: body) -/
theorem do_sortKey {c P : Addr} {y : Str} {params : Arguments} {body : Expr} {scope : Scope} {N : List Str} {k : Nat} (TB : LamX.TabB X.base X.mg c P) (hcode : X.env.code = .ref c) (hmt : (P, X.env.qual ++ "<lambda>") ∈ tabs X.K) (hut : ∀ p ∈ tabs X.K, p.1 = P → p.2 = X.env.qual ++ "<lambda>")
    (hr : Room (k + 3) X.A) (S : FnScope N [y] scope) (hm : X.mg "sorted" = none) (he : DE X e ρ (.lst (rows.map tI)))
    (hbody : ∀ (f c' : Addr) (A : Around) (outer : List Env) (s : Shared) (H : Hp), Room k (A.deeper (envOfC (X.env.qual ++ "<lambda>") scope s.heap.objs.size f (.ref c'))) → ∀ r ∈ rows, DE (cxOf (L2.CX X.prog X.w) X.prog X.w X.K X.mg X.base N (X.env.qual ++ "<lambda>") scope f (.ref c') A outer s H E0) body (sl0 N [tI r]) (keyD (wt r) r))
    (hb : ∀ pm c' ctv u, bindArgs (PySem.W.kla_fn "<lambda>" (X.env.qual ++ "<lambda>") params body scope [] pm (.ref c') ctv) ⟨[u], []⟩ = pure [(y, u)])
    (hcl : cloFrom X.env.cells scope.names [] = [] := by rfl) (hdef : defaultsOf params X.env = ([], []) := by rfl) (hfree : ∀ z ∈ scope.names, z.2 = .free → ∃ c, X.env.cells.lookup z.1 = some c)
    (hg : Gl X "sorted" := by rfl) (hs0 : starEach [e] X.env = (false, eval e X.env) :: starEach [] X.env := by rfl)
    (hs : backTo pos (starEach [e] X.env) = (false, eval e X.env) :: backTo pos (starEach [] X.env) := by rfl) (hpl : (backTo pos (starEach [e] X.env)).any (·.1) = false := by rfl)
    (hall : (backToKw pos (keywordEach [⟨some "key", .Lambda params body scope lpos, kpos⟩] X.env)).all (·.1.isSome) = true := by rfl) (hnone : (backToKw pos (keywordEach [⟨some "key", .Lambda params body scope lpos, kpos⟩] X.env)).any (·.1.isNone) = false := by rfl)
    (hks : (backToKw pos (keywordEach [⟨some "key", .Lambda params body scope lpos, kpos⟩] X.env)).filterMap (·.1) = [Str.ofString "key"] := by rfl)
    (hkw : (backToKw pos (keywordEach [⟨some "key", .Lambda params body scope lpos, kpos⟩] X.env)).map (·.2) = [(do let v ← eval (.Lambda params body scope lpos) X.env; standAt pos; pure v)] := by rfl) :
    DO X (.Call (.Name "sorted" p) [e] [⟨some "key", .Lambda params body scope lpos, kpos⟩] pos) ρ ((rows.mergeSort (PySem.W.dataLe false fun r => keyP (wt r) r)).map tI) := fun E Z H σ S0 Q q => by
  intro pins s I
  refine wpAny_Call_Name_kw (ld_blt I hg hm boot_sorted ?_ (by decide) (by decide))
  refine PyProof.Rows.callWith_kw (thn (da_cons he da_nil hs0 E Z H σ S0 (fun vs H' => ∃ Z', G X.K Z H Z' H' ∧ RepL X.K Z' vs [.lst (rows.map tI)]) (fun vs Z' H' g r => ⟨Z', g, r⟩) pos pins s I) fun us s1 ⟨vs, H1, I1, r1, Z1, g1, rl1⟩ => ?_) hs hpl hall hnone
  obtain ⟨v0, rfl, r0⟩ := rc_one rl1
  cases r0 with
  | lst hz rl =>
  rename_i l xs
  obtain ⟨u0, rfl, ru0⟩ : ∃ u0, us = [u0] ∧ RelV (.ref l) u0 := by
    cases r1 with
    | cons h t => cases t; exact ⟨_, rfl, h⟩
  obtain rfl : u0 = Value.ref l := ru0
  rw [hkw, hks]
  have nzZ : NoT Z1 := g1.nz S0.s.nz
  refine wpAny_evalAll_cons (wpAny_bind (LamX.lam_make2 I1 TB hcode hmt hut g1.tb hdef hfree fun f c' pm ctv H2 s2 I2 eN T2 hf hfn hfr hco => wpAny_bind (wpAny_standAt (wpAny_pure (wpAny_evalAll_nil ?_)))))
  show wpAny (model X.prog X.w) X.A (call (.builtin "sorted") [.ref l] [(Str.ofString "key", .ref f)]) _ _ s2
  rw [hcl] at hf
  have zh2 : Ex Z1 H2 := fun b u e => eN b u (g1.zh b u e) fun ps z => nzZ b ps (by rw [e, z])
  have g2 : G X.K Z H Z1 H2 := g1.trans ⟨Ex.refl _, eN, zh2, T2, fun _ h => .inl h, id⟩
  have nL : f ≠ X.env.locals := fun z => by
    obtain ⟨m, ⟨o, es, ep, ho, hd, _⟩, _⟩ := I2.loc
    rw [← z, hf] at ho
    cases ho
    cases hd
  have nF : f ∉ X.fs := fun h => hfr (by
    rcases I2.ok.stk with e | ⟨e, hfm⟩
    · rw [e]; exact h
    · rw [e]
      unfold frs
      rw [List.filterMap_cons, hfm]
      exact List.mem_cons_of_mem _ h)
  have I3 : Inv X (pins ++ [(f, PySem.W.kla_obj "<lambda>" (X.env.qual ++ "<lambda>") params body scope [] pm c' ctv)]) σ H2 s2 := ⟨I2.ok, I2.os, I2.bare, I2.base, I2.loc, I2.cell, I2.free, I2.freeC, fun p hp => by
    rcases List.mem_append.mp hp with h | h
    · exact I2.pin p (List.mem_append_left _ h)
    · rcases List.mem_append.mp h with h | h
      · exact I2.pin p (List.mem_append_right _ h)
      · rw [List.mem_singleton.mp h]
        exact ⟨hf, hfn, nL, nF, fun v z => nomatch z⟩, I2.hok, I2.len⟩
  refine thn (sort_key (hr.mono (by omega)) I3 (Gr.refl zh2 T2) (zh2 _ _ hz) rl (wt := wt) (f := f) (fun σ' s' H' Z' r v u I' g' hrr rep rv => ?_) (Q := Q) fun a ys Z' H' g' fr za ha rly => q a ys Z' H' (g2.trans g') (fr.back g2.h) za ha rly) fun u' s' ⟨v', H', I', rv', q'⟩ => ⟨v', H', ⟨I'.ok, I'.os, I'.bare, I'.base, I'.loc, I'.cell, I'.free, I'.freeC, fun p hp => I'.pin p (by
    rcases List.mem_append.mp hp with h | h
    · exact List.mem_append_left _ h
    · exact List.mem_append_right _ (List.mem_append_left _ h)), I'.hok, I'.len⟩, rv', q'⟩
  have hf' := (I'.pin (f, _) (List.mem_append_right _ (List.mem_append_right _ (List.mem_singleton.mpr rfl)))).1
  have e0 := I'.env0
  refine wpAny_call (codeAny_mono (run_lam (N := N) (k := k) (hr.in1.in1) ⟨e0.frames, e0.mod, e0.bs, e0.bsz, e0.funs, e0.frf, e0.hok, e0.bare⟩ hf' (g'.h _ _ hco (fun _ z => nomatch z)) S (hb _ _ _ _) rv g'.zh (g'.nz nzZ) g'.tb rep (fun hr2 => hbody f c' _ _ s' H' hr2 r hrr)) fun rr s'' hq => ?_)
  cases rr with
  | error e => exact (show CX X.prog X.w X.stack H' s' E0 e s'' from hq).elim fun _ h => by obtain ⟨_, _, _, _, _, _, _, _, _, _, _, z⟩ := h; exact z.elim
  | ok fl =>
    cases fl with
    | ret k' =>
      obtain ⟨kv, H3, os, bare, un, hok, rv3, Z3, g3, rep3⟩ := hq
      exact ⟨kv, Z3, H3, I'.call' (ch := []) os un hok bare (fun b z => absurd z (by simp)), g3, rv3, rep3, fun b o e n hb => ⟨un.keep b o e n hb (by simp), un.free b o e n (by simp)⟩⟩
    | next => exact False.elim hq
    | brk => exact False.elim hq
    | cont => exact False.elim hq
end
end DL
set_option maxHeartbeats 4000000
namespace DL
open PySem PySem.Spec PyProof.Rows L2

/-! ### whole numbers that are not negative -/
abbrev nI (x : Nat) : D := .int x
abbrev lN (xs : List Nat) : D := .lst (xs.map nI)
abbrev tN (xs : List Nat) : D := .tup (xs.map nI)
abbrev tF {α : Type} (f : α → D) (xs : List α) : D := .tup (xs.map f)
abbrev lF {α : Type} (f : α → D) (xs : List α) : D := .lst (xs.map f)
theorem lN_lI (xs : List Nat) : lN xs = lI (xs.map Int.ofNat) := by simp [lN, lI, nI]
section
variable {X : Cx} {e a b c o : Expr} {es : List Expr} {ρ : List Sl} {d da db dc : D} {ds : List D} {pos p apos : Pos} {x m : Str} {α : Type} {f : α → D} {xs : List α} {i j n : Nat} {y : α}
theorem de_ixLf (ha : DE X a ρ (.lst (xs.map f))) (hb : DE X b ρ (.int (i : Nat))) (h : xs[i]? = some y) (hs : PlainIx b := by intro _ _; rfl) : DE X (.Subscript a b pos) ρ (f y) :=
  de_ixL ha hb (atI_nat (by rw [List.getElem?_map, h]; rfl)) hs
theorem de_ixTf (ha : DE X a ρ (.tup (xs.map f))) (hb : DE X b ρ (.int (i : Nat))) (h : xs[i]? = some y) (hs : PlainIx b := by intro _ _; rfl) : DE X (.Subscript a b pos) ρ (f y) :=
  de_ixT ha hb (atI_nat (by rw [List.getElem?_map, h]; rfl)) hs
theorem range_get {k : Nat} (h : i < k) : (List.range k)[i]? = some i := by simp [h]
/-- a table by a function -/
abbrev lTab (n : Nat) (m : Nat → Nat → Nat) : D := .lst ((List.range n).map fun a => lN ((List.range n).map (m a)))
abbrev tTab (n : Nat) (m : Nat → Nat → Nat) : D := .tup ((List.range n).map fun a => tN ((List.range n).map (m a)))
theorem de_tab {m : Nat → Nat → Nat} (ha : DE X a ρ (lTab n m)) (hb : DE X b ρ (.int (i : Nat))) (hc : DE X c ρ (.int (j : Nat))) (hi : i < n) (hj : j < n) {p2 : Pos} (h1 : PlainIx b := by intro _ _; rfl) (h2 : PlainIx c := by intro _ _; rfl) : DE X (.Subscript (.Subscript a b p2) c pos) ρ (.int (m i j : Nat)) :=
  de_ixLf (f := nI) (xs := (List.range n).map (m i)) (de_ixLf (f := fun a => lN ((List.range n).map (m a))) ha hb (range_get hi) h1) hc (by simp [hj]) h2
theorem de_tabT {m : Nat → Nat → Nat} (ha : DE X a ρ (tTab n m)) (hb : DE X b ρ (.int (i : Nat))) (hc : DE X c ρ (.int (j : Nat))) (hi : i < n) (hj : j < n) {p2 : Pos} (h1 : PlainIx b := by intro _ _; rfl) (h2 : PlainIx c := by intro _ _; rfl) : DE X (.Subscript (.Subscript a b p2) c pos) ρ (.int (m i j : Nat)) :=
  de_ixTf (f := nI) (xs := (List.range n).map (m i)) (de_ixTf (f := fun a => tN ((List.range n).map (m a))) ha hb (range_get hi) h1) hc (by simp [hj]) h2
theorem de_last {y : D} (ha : DE X a ρ (.lst (ds ++ [y]))) {k1 : Nat} {p1 p2 : Pos} (hs : PlainIx (.UnaryOp .USub (.Constant (.int 1) k1 p1) p2) := by intro _ _; rfl) : DE X (.Subscript a (.UnaryOp .USub (.Constant (.int 1) k1 p1) p2) pos) ρ y :=
  de_ixL ha (de_neg de_int) (atI_last ds y) hs
theorem de_lastT {y : D} (ha : DE X a ρ (.tup (ds ++ [y]))) {k1 : Nat} {p1 p2 : Pos} (hs : PlainIx (.UnaryOp .USub (.Constant (.int 1) k1 p1) p2) := by intro _ _; rfl) : DE X (.Subscript a (.UnaryOp .USub (.Constant (.int 1) k1 p1) p2) pos) ρ y :=
  de_ixT ha (de_neg de_int) (atI_last ds y) hs
theorem de_tupl {x1} (h : DA X es ρ ds) (hz : ds.length ≤ 16777216 := by exact Nat.le_of_ble_eq_true rfl) : DE X (.Tuple es x1 pos) ρ (.tup ds) := de_tup h (by rw [sizeLine_eq]; exact hz)
theorem do_lstl (h : DA X es ρ ds) (hz : ds.length ≤ 16777216 := by exact Nat.le_of_ble_eq_true rfl) : DO X (.List es pos) ρ ds := do_lst h (by rw [sizeLine_eq]; exact hz)
theorem nofree_by {scope : Scope} {cs : List (Str × Addr)} (h : (scope.names.all fun z => !decide (z.2 = .free)) = true) : ∀ z ∈ scope.names, z.2 = .free → ∃ c, cs.lookup z.1 = some c := fun z hz e => by
  have := List.all_eq_true.mp h z hz
  simp [e] at this
/-! ### in, not in -/
theorem inV_ints {k : Int} : ∀ (ns : List Int), inV (.int k) (ns.map V.int) = decide (k ∈ ns) := fun ns => by
  induction ns with
  | nil => simp [inV]
  | cons n ns ih =>
    simp only [inV, List.map_cons, List.any_cons] at ih ⊢
    rw [ih]
    simp only [eqV, List.mem_cons]
    by_cases h : n = k
    · subst h; simp
    · have h2 : ¬ k = n := fun q => h q.symm
      simp [h, h2]
theorem flat_ints (ns : List Int) : (ns.map V.int).all flatV = true := by simp [flatV]
section
variable {K : PySem.W.Frag}
theorem rd_inL {k : Int} {ns : List Int} : RD K (rIn K false) (.int k) (lI ns) (.bl (decide (k ∈ ns))) := fun x y Z H zh tb rx ry Q q => by
  cases rx
  cases ry with
  | lst hz rl =>
    rw [rl.ints] at hz
    refine ⟨_, _, rfl, .inl (SqL.of (zh _ _ hz)), rfl, flat_ints _, ?_⟩
    rw [inV_ints]
    exact q _ Z H (Gr.refl zh tb) .bl
theorem rd_ninL {k : Int} {ns : List Int} : RD K (rIn K true) (.int k) (lI ns) (.bl (!decide (k ∈ ns))) := fun x y Z H zh tb rx ry Q q => by
  cases rx
  cases ry with
  | lst hz rl =>
    rw [rl.ints] at hz
    refine ⟨_, _, rfl, .inl (SqL.of (zh _ _ hz)), rfl, flat_ints _, ?_⟩
    rw [inV_ints]
    exact q _ Z H (Gr.refl zh tb) .bl
theorem rd_inT {k : Int} {ns : List Int} : RD K (rIn K false) (.int k) (tI ns) (.bl (decide (k ∈ ns))) := fun x y Z H zh tb rx ry Q q => by
  cases rx
  cases ry with
  | tup hz rl =>
    rw [rl.ints] at hz
    refine ⟨_, _, rfl, .inr (sq_t zh hz), rfl, flat_ints _, ?_⟩
    rw [inV_ints]
    exact q _ Z H (Gr.refl zh tb) .bl
theorem rd_ninT {k : Int} {ns : List Int} : RD K (rIn K true) (.int k) (tI ns) (.bl (!decide (k ∈ ns))) := fun x y Z H zh tb rx ry Q q => by
  cases rx
  cases ry with
  | tup hz rl =>
    rw [rl.ints] at hz
    refine ⟨_, _, rfl, .inr (sq_t zh hz), rfl, flat_ints _, ?_⟩
    rw [inV_ints]
    exact q _ Z H (Gr.refl zh tb) .bl
end
theorem dt_ninN {k : Nat} {ns : List Nat} (ha : DE X a ρ (nI k)) (hb : DE X b ρ (lN ns)) (hm : behindInMarks .NotIn b = false) : DT X (.Compare a [.NotIn] [b] pos) ρ (!decide (k ∈ ns)) := by
  have := dt_cmp (pos := pos) op_notIn_seq (rd_ninL (K := X.K) (k := k) (ns := ns.map Int.ofNat)) ha (by rw [← lN_lI]; exact hb) hm
  have e : decide ((k : Int) ∈ ns.map Int.ofNat) = decide (k ∈ ns) := by
    apply decide_eq_decide.mpr
    constructor
    · intro h
      obtain ⟨a, h1, h2⟩ := List.mem_map.mp h
      have : a = k := by have : (a : Int) = k := h2; omega
      exact this ▸ h1
    · exact fun h => List.mem_map.mpr ⟨k, h, rfl⟩
  rw [← e]; exact this
/-! ### a[::-1] of a tuple, len(set(..)) -/
theorem de_lenSet {p2 q : Pos} {ns : List Int} (ha : DE X a ρ (lI ns)) (hn : ns.Nodup) (hz : ns.length ≤ 4000) (hm : X.mg "len" = none) (hm2 : X.mg "set" = none) (hc : X.calm = true := by rfl) (hg : Gl X "len" := by rfl) (hg2 : Gl X "set" := by rfl)
    (na : starEach [a] X.env = (false, eval a X.env) :: starEach [] X.env := by rfl) : DE X (.Call (.Name "len" p) [.Call (.Name "set" p2) [a] [] q] [] pos) ρ (.int ns.length) := fun E Z H σ S Q qq =>
  we_pe (RZ.pe_lenSetI hg hm hg2 hm2 pe_we hc na) (ha E Z H σ S _ fun v Z1 H1 g1 r1 => by
    cases r1 with
    | lst hz1 rl =>
      rw [rl.ints] at hz1
      exact ⟨_, ns, rfl, SqL.of (g1.zh _ _ hz1), hn, hz, qq _ Z1 H1 g1 .int⟩)
end
end DL
set_option maxHeartbeats 4000000
namespace DL
open PySem PySem.Spec PyProof.Rows L2
/-- the classes of errors, and what is asked of each -/
structure Errs where
  shape : Addr
  table : Addr
  large : Addr
  chart : Addr
  group : Addr
  memb : Addr
  noprog : Addr
section
variable {P : Program} {w : World} {K : PySem.W.Frag} {mg : Str → Option Value} {base : Heap} {f : Addr} {fd : FuncData} {k : Nat} {C : Addr}
/-! ### check_shape -/
def shOk (sh : List Nat) : Bool := decide (sh.length ≤ 12) && sh.all fun k => decide (2 ≤ k) && decide (k ≤ 4)
theorem dec_big (n k : Nat) : decide ((k : Int) < (n : Nat)) = !decide (n ≤ k) := by
  by_cases h : n ≤ k
  · have : ¬ (k : Int) < n := by omega
    simp [h, this]
  · have : (k : Int) < n := by omega
    simp [h, this]
theorem dec_le (a b : Nat) : decide ((a : Int) ≤ (b : Nat)) = decide (a ≤ b) := by
  apply decide_eq_decide.mpr; omega
theorem dec_lt (a b : Nat) : decide ((a : Int) < (b : Nat)) = decide (a < b) := by
  apply decide_eq_decide.mpr; omega
theorem dec_eq (a b : Nat) : decide ((a : Int) = (b : Nat)) = decide (a = b) := by
  apply decide_eq_decide.mpr; omega
theorem sh_key (sh : List Nat) : (decide ((12 : Int) < ((sh.map nI).length : Nat)) || !((sh.map fun (k : Nat) => decide (2 ≤ (k : Int)) && decide ((k : Int) ≤ 4)).all id)) = !shOk sh := by
  unfold shOk
  rw [List.length_map, show (12 : Int) = ((12 : Nat) : Int) from rfl, dec_big, List.all_map, Bool.not_and]
  congr 2
  apply List.all_congr rfl
  intro k
  show (decide (((2 : Nat) : Int) ≤ (k : Nat)) && decide ((k : Int) ≤ ((4 : Nat) : Int))) = _
  rw [dec_le, dec_le]
def R_check_shape (C : Addr) (ds : List D) (r : Res) : Prop := ∃ sh : List Nat, ds = [tN sh] ∧ sh.length < 10000 ∧ r = if shOk sh then .ok .non else .err C
abbrev s_check_shape : Stmt := top 14
theorem sc_check_shape : FnScope ["shape", "signs"] ["shape"] (defScope s_check_shape) := ⟨rfl, rfl, rfl, by decide +kernel, rfl, by decide +kernel, by decide +kernel⟩
theorem ok_check_shape (T : Txt K mg) (c : ExcOk K mg "BadShape" C) (F : FnP K "check_shape" s_check_shape f fd) (hm : mg "check_shape" = some (.ref f)) : DefOk P w K mg base "check_shape" (k + 1) (R_check_shape C) := by
  refine def_ok F hm sc_check_shape (fun ds r ⟨ns, e, _⟩ => by rw [e]; rfl) (fun _ _ _ _ _ _ us hl => match us, hl with | [_], _ => rfl) fun cdv A outer s H E hr ds r hR => ?_
  obtain ⟨sh, rfl, hz, rfl⟩ := hR
  have nd := sc_check_shape.nd
  refine dss_one (ds_if (dt_pw (dw_or (dt_cmp op_gt rd_gt (de_lenT (de_var 0) T.nLen) (de_globI T.places) (nomark _)) fun _ => dw_or1 (dt_not (dt_of (de_all (bs := sh.map fun (k : Nat) => decide (2 ≤ (k : Int)) && decide ((k : Int) ≤ 4)) rfl (da_cons (DE.is (de_of_do (do_lc0 sh nI [1] (fun n => [nI n]) (fun k => .bl (decide (2 ≤ (k : Int)) && decide ((k : Int) ≤ 4))) [("signs", 1)] nd (blkOk_by (N := ["shape", "signs"]) (sc := defScope s_check_shape) (by decide +kernel)) (di_tup (de_var 0)) ?_ ?_ ?_)) ?_) da_nil) T.nAll))))) ?_ ?_)
  · have := sizeLine_eq; omega
  · exact fun _ _ _ _ _ n _ => dg_name 1 nd
  · exact fun _ _ _ _ _ n _ => de_chain op_le op_le rd_le rd_le de_int (de_var 1) de_int
  · rw [List.map_map]; rfl
  · intro h
    rw [sh_key] at h
    exact dss_one (ds_raise c (by show _ = _; rw [if_neg]; intro q; rw [q] at h; cases h))
  · intro h
    rw [sh_key] at h
    exact dss_nil (by show _ = _; rw [if_pos]; simpa using h)
end
end DL
set_option maxHeartbeats 4000000
namespace DL
open PySem PySem.Spec PyProof.Rows L2
def prodN (sh : List Nat) : Nat := sh.foldl (· * ·) 1
def wtI (r : List Int) : Int := ((r.filter fun n => !decide (n = 0)).length : Nat)
def underB (low high : List Int) : Bool := (low.zip high).all fun p => decide (p.1 = 0) || decide (p.1 = p.2)
theorem zip_ints {β : Type} (F : D × D → β) : ∀ (lo hi : List Int), ((lo.map D.int).zip (hi.map D.int)).map F = (lo.zip hi).map fun p => F (D.int p.1, D.int p.2)
  | [], _ => by simp
  | _ :: _, [] => by simp
  | a :: lo, b :: hi => by simp [zip_ints F lo hi]
theorem dec_ne (a b : Nat) : (!decide ((a : Int) = (b : Nat))) = !decide (a = b) := by rw [dec_eq]
theorem foldl_snoc (sh : List Nat) (i k : Nat) (h : sh[i]? = some k) : (sh.take (i + 1)).foldl (· * ·) 1 = (sh.take i).foldl (· * ·) 1 * k := by
  rw [List.take_add_one, h, List.foldl_append]; rfl
section
variable {P : Program} {w : World} {K : PySem.W.Frag} {mg : Str → Option Value} {base : Heap} {f : Addr} {fd : FuncData} {k : Nat} {C Ct : Addr}
/-! ### lies_under -/
def R_lies_under (ds : List D) (r : Res) : Prop := ∃ lo hi : List Int, ds = [tI lo, tI hi] ∧ lo.length < 10000 ∧ r = .ok (.bl (underB lo hi))
abbrev s_lies_under : Stmt := top 17
theorem sc_lies_under : FnScope ["low", "high", "a", "b"] ["low", "high"] (defScope s_lies_under) := ⟨rfl, rfl, rfl, by decide +kernel, rfl, by decide +kernel, by decide +kernel⟩
theorem ok_lies_under (T : Txt K mg) (F : FnP K "lies_under" s_lies_under f fd) (hm : mg "lies_under" = some (.ref f)) : DefOk P w K mg base "lies_under" (k + 1) R_lies_under := by
  refine def_ok F hm sc_lies_under (fun ds r ⟨_, _, e, _⟩ => by rw [e]; rfl) (fun _ _ _ _ _ _ us hl => match us, hl with | [_, _], _ => rfl) fun cdv A outer s H E hr ds r hR => ?_
  obtain ⟨lo, hi, rfl, hz, rfl⟩ := hR
  have nd := sc_lies_under.nd
  refine dss_one (ds_ret (de_all (bs := (lo.zip hi).map fun p => decide (p.1 = 0) || decide (p.1 = p.2)) rfl (da_cons (DE.is (de_of_do (do_lc0 (lo.zip hi) (fun p => .tup [.int p.1, .int p.2]) [2, 3] (fun p => [.int p.1, .int p.2]) (fun p => .bl (decide (p.1 = 0) || decide (p.1 = p.2))) [("a", 2), ("b", 3)] nd (blkOk_by (N := ["low", "high", "a", "b"]) (sc := defScope s_lies_under) (by decide +kernel))
    (DI.is (di_zipT (de_var 0) (de_var 1) T.nZip) ?_) ?_ ?_ ?_)) ?_) da_nil) T.nAll) ?_)
  · rw [zip_ints]
  · have := sizeLine_eq; rw [List.length_zip]; omega
  · exact fun _ _ _ _ _ n _ => dg_two 2 3 rfl nd
  · exact fun _ _ _ _ _ n _ => de_or (de_cmp op_eq rd_eqI (de_var 2) de_int (nomark _)) fun _ => de_one (de_cmp op_eq rd_eqI (de_var 2) (de_var 3) (nomark _))
  · rw [List.map_map]; rfl
  · show _ = _
    rw [List.all_map]; rfl
/-! ### count_inputs -/
def R_count_inputs (ds : List D) (r : Res) : Prop := ∃ sh : List Nat, ds = [tN sh] ∧ (∀ k ∈ sh, k < 2 ^ 60) ∧ r = .ok (nI (prodN sh))
abbrev s_count_inputs : Stmt := top 18
theorem sc_count_inputs : FnScope ["shape", "count", "many"] ["shape"] (defScope s_count_inputs) := ⟨rfl, rfl, rfl, by decide +kernel, rfl, by decide +kernel, by decide +kernel⟩
theorem ok_count_inputs (T : Txt K mg) (F : FnP K "count_inputs" s_count_inputs f fd) (hm : mg "count_inputs" = some (.ref f)) : DefOk P w K mg base "count_inputs" (k + 1) R_count_inputs := by
  refine def_ok F hm sc_count_inputs (fun ds r ⟨_, e, _⟩ => by rw [e]; rfl) (fun _ _ _ _ _ _ us hl => match us, hl with | [_], _ => rfl) fun cdv A outer s H E hr ds r hR => ?_
  obtain ⟨sh, rfl, hz, rfl⟩ := hR
  have nd := sc_count_inputs.nd
  refine dss_cons (ds_set 1 nd de_int ?_)
  refine dss_cons (ds_for sh nI [2] (fun k => [nI k]) (passes_of rfl) (di_tup (de_var 0)) (fun _ _ => dg_name 2 nd) (fun i ρ' => ∃ s, ρ' = [.val (tN sh), .val (nI ((sh.take i).foldl (· * ·) 1)), s]) ⟨_, rfl⟩ ?_ ?_)
  · rintro i k ρ' hk ⟨s, rfl⟩
    refine dss_one (ds_aug 1 nd iop_mul (rd_I (C := CMul) (.inr ?_) fun _ => .int) (de_var 2) ⟨.val (nI k), ?_⟩)
    · have := hz k (List.mem_of_getElem? hk)
      omega
    · rw [foldl_snoc sh i k hk]; simp [setD, nI, Int.natCast_mul]
  · rintro ρ' ⟨s, rfl⟩
    exact dss_one (ds_ret (de_var 1) (by rw [List.take_length]; rfl))
/-! ### check_table -/
def tbOk (sh : List Nat) (tb : List Int) : Bool := decide (tb.length = prodN sh) && tb.all fun l => decide (l ∈ ([0, 1] : List Int))
theorem tb_key (sh : List Nat) (tb : List Int) : (!decide (((tb.map D.int).length : Int) = (prodN sh : Nat)) || !((tb.map fun l => decide (l ∈ ([0, 1] : List Int))).all id)) = !tbOk sh tb := by
  unfold tbOk
  rw [List.length_map, dec_eq, List.all_map, Bool.not_and]
  rfl
def R_check_table (C Ct : Addr) (ds : List D) (r : Res) : Prop := ∃ (sh : List Nat) (tb : List Int), ds = [tN sh, tI tb] ∧ sh.length < 10000 ∧ tb.length < 10000 ∧ r = if shOk sh then (if tbOk sh tb then .ok .non else .err Ct) else .err C
abbrev s_check_table : Stmt := top 38
theorem sc_check_table : FnScope ["shape", "table", "label"] ["shape", "table"] (defScope s_check_table) := ⟨rfl, rfl, rfl, by decide +kernel, rfl, by decide +kernel, by decide +kernel⟩
theorem sh_small {sh : List Nat} (h : shOk sh = true) : ∀ k ∈ sh, k < 2 ^ 60 := fun k hk => by
  unfold shOk at h
  simp only [Bool.and_eq_true, List.all_eq_true, decide_eq_true_eq] at h
  have := (h.2 k hk).2
  omega
theorem ok_check_table (T : Txt K mg) (c : ExcOk K mg "BadTable" Ct) (O1 : DefOk P w K mg base "check_shape" (k + 1) (R_check_shape C)) (O2 : DefOk P w K mg base "count_inputs" (k + 1) R_count_inputs) (F : FnP K "check_table" s_check_table f fd) (hm : mg "check_table" = some (.ref f)) : DefOk P w K mg base "check_table" (k + 2) (R_check_table C Ct) := by
  refine def_ok F hm sc_check_table (fun ds r ⟨_, _, e, _⟩ => by rw [e]; rfl) (fun _ _ _ _ _ _ us hl => match us, hl with | [_, _], _ => rfl) fun cdv A outer s H E hr ds r hR => ?_
  obtain ⟨sh, tb, rfl, hz1, hz2, rfl⟩ := hR
  have nd := sc_check_table.nd
  refine dss_cons (ds_callX O1 hr (da_cons (de_var 0) da_nil) ⟨sh, rfl, hz1, rfl⟩ (fun d hd => ?_) fun C' hC => ?_)
  · have ok : shOk sh = true := by
      by_cases h : shOk sh = true
      · exact h
      · rw [if_neg h] at hd; cases hd
    rw [if_pos ok]
    refine dss_one (ds_if (dt_pw (dw_or (dt_cmp op_ne rd_neI (de_lenT (de_var 1) T.nLen) (de_call O2 hr (da_cons (de_var 0) da_nil) ⟨sh, rfl, sh_small ok, rfl⟩) (nomark _)) fun _ => dw_or1 (dt_not (dt_of (de_all (bs := tb.map fun l => decide (l ∈ ([0, 1] : List Int))) rfl (da_cons (DE.is (de_of_do (do_lc0 tb D.int [2] (fun n => [.int n]) (fun l => .bl (decide (l ∈ ([0, 1] : List Int)))) [("label", 2)] nd (blkOk_by (N := ["shape", "table", "label"]) (sc := defScope s_check_table) (by decide +kernel)) (di_tup (de_var 1)) ?_ ?_ ?_)) ?_) da_nil) T.nAll))))) ?_ ?_)
    · have := sizeLine_eq; omega
    · exact fun _ _ _ _ _ n _ => dg_name 2 nd
    · exact fun _ _ _ _ _ n _ => de_cmp op_in_seq (rd_inT (ns := [0, 1])) (de_var 2) (de_tup (da_cons de_int (da_cons de_int da_nil))) rfl
    · rw [List.map_map]; rfl
    · intro h
      refine dss_one (ds_raise c ?_)
      show _ = _
      rw [if_neg]
      intro q
      rw [tb_key, q] at h
      cases h
    · intro h
      refine dss_nil ?_
      show _ = _
      rw [if_pos]
      rw [tb_key] at h
      simpa using h
  · show _ = _
    by_cases h : shOk sh = true
    · rw [if_pos h] at hC; cases hC
    · rw [if_neg h] at hC ⊢
      exact hC
end
end DL
set_option maxHeartbeats 4000000
namespace DL
open PySem PySem.Spec PyProof.Rows L2
section
variable {P : Program} {w : World} {K : PySem.W.Frag} {mg : Str → Option Value} {base : Heap} {x m qual : Str} {st : Stmt} {f : Addr} {fd : FuncData} {N ps : List Str} {k : Nat}
/-- .. where its code object is known -/
theorem def_okC {R : List D → Res → Prop} {key : He.Defn} (F : FunD K x x (defArgs st) (defBody st) (defScope st) [] [] f fd) (hf : f = He.fAd K key) (hm : mg x = some (.ref f)) (S : FnScope N ps (defScope st)) (len : ∀ ds r, R ds r → ds.length = ps.length)
    (hb : ∀ (kV doc pm : Value) (an : Option Addr) (cdv ct : Value) (us : List Value), us.length = ps.length → bindArgs (PySem.W.fnOf x x (defArgs st) (defBody st) (defScope st) .none kV doc pm an cdv ct) ⟨us, []⟩ = pure (ps.zip us))
    (hbody : ∀ (A : Around) (outer : List Env) (s : Shared) (H : Hp) (E : XK), Room k (A.deeper (envOfC x (defScope st) s.heap.objs.size f (.ref (He.cT K key).1))) → ∀ ds r, R ds r →
      DSs (cX P w K mg base N x st f (.ref (He.cT K key).1) A outer s H E) (defBody st) (sl0 N ds) { nx := fun _ => r = .ok .non, rt := fun d => r = .ok d, xn := fun C => r = .err C }) : DefOk P w K mg base x (k + 1) R := by
  refine ⟨f, fd, ps, ?_, hm, F.kp, F.bindsN hb⟩
  obtain ⟨oc, od, dV, kV, doc, pm, an, cdv, ct, osl, rfl, lk, hcd, _, _⟩ := F.ex
  obtain ⟨c, rfl⟩ := He.codeIn_ref hcd
  have ec : (He.cT K key).1 = c := He.codeOf_eq (by rw [← hf]; exact lk) rfl
  refine fn_of lk hcd S (fun vs H Q E ⟨Z, ds, r, hR, _, _, _, rl, _⟩ => by rw [rl.length]; exact len ds r hR) fun A outer s H vs Q E hr hsp => ⟨_, pss_wss, ?_⟩
  obtain ⟨Z, ds, r, hR, zh, nz, tb, rl, hok, herr⟩ := hsp
  have h := hbody A outer s H E (by rw [ec]; exact hr) ds r hR ⟨tabs K, Z, H, H⟩ Z H _ (st1_start N zh nz tb rl) ⟨fun cls d _ H' => E cls d H', takes_of rfl rfl rfl rfl, fun C σ H' e h1 _ h3 => herr C e H' h1 h3⟩
  rw [ec] at h
  refine wss_mono h ?_ ?_ (fun _ _ z => by obtain ⟨_, _, _, z⟩ := z; exact z.elim) (fun _ _ z => by obtain ⟨_, _, _, z⟩ := z; exact z.elim)
  · rintro σ' H' ⟨Z', ρ', S', e⟩
    exact hok _ e .non Z' H' ⟨S'.s.z0, S'.s.b0, S'.s.zh, by have := S'.s.tb; rw [S'.t] at this; exact this, S'.s.fr, fun _ => S'.s.nz⟩ .non
  · rintro v H' ⟨Z', d, R', e⟩
    exact hok _ e v Z' H' ⟨R'.z0, R'.b0, R'.zh, R'.tb, R'.fr, fun _ => R'.nz⟩ R'.r
end
/-! ### light_inputs -/
abbrev lightKey : He.Defn := ("light_inputs", none)
abbrev lawKey : He.Defn := ("_law_inputs", none)
/-- the tables of the two defs that make a lambda -/
structure Tbs (K : PySem.W.Frag) (mg : Str → Option Value) (base : Heap) : Prop where
  l : LamX.TabB base mg (He.cT K lightKey).1 (He.cT K lightKey).2
  w : LamX.TabB base mg (He.cT K lawKey).1 (He.cT K lawKey).2
  ne : (He.cT K lightKey).2 ≠ (He.cT K lawKey).2
def stepP (most : Nat) (found : List (List Int)) (many : Nat) : List (List Int) := found.flatMap fun row => ((List.range many).filter fun (sign : Nat) => decide (sign = 0) || decide (wtI row < (most : Nat))).map fun (sign : Nat) => row ++ [(sign : Int)]
def genP (most : Nat) (sh : List Nat) : List (List Int) := sh.foldl (stepP most) [[]]
theorem flat_const {α : Type} (k : Nat) : ∀ xs : List α, (xs.flatMap fun _ => List.range k).length = xs.length * k
  | [] => by simp
  | x :: xs => by rw [List.flatMap_cons, List.length_append, flat_const k xs, List.length_range, List.length_cons, Nat.succ_mul]; omega
theorem sh_four {sh : List Nat} (h : shOk sh = true) : ∀ k ∈ sh, k ≤ 4 := fun k hk => by
  unfold shOk at h
  simp only [Bool.and_eq_true, List.all_eq_true, decide_eq_true_eq] at h
  exact (h.2 k hk).2
theorem genP_snoc (most : Nat) (sh : List Nat) (i k : Nat) (h : sh[i]? = some k) : genP most (sh.take (i + 1)) = stepP most (genP most (sh.take i)) k := by
  unfold genP
  rw [List.take_add_one, h, List.foldl_append]; rfl
def sortI (rows : List (List Int)) : List (List Int) := rows.mergeSort (PySem.W.dataLe false fun r => keyP (wtI r) r)
section
variable {P : Program} {w : World} {K : PySem.W.Frag} {mg : Str → Option Value} {base : Heap} {f : Addr} {fd : FuncData} {k : Nat} {C Ct : Addr}
def R_light_inputs (ds : List D) (r : Res) : Prop := ∃ (sh : List Nat) (most : Nat), ds = [tN sh, nI most] ∧ shOk sh = true ∧ (∀ i, (genP most (sh.take i)).length < 10000 ∧ ∀ r ∈ genP most (sh.take i), r.length ≤ 100) ∧ r = .ok (lF tI (sortI (genP most sh)))
abbrev s_light_inputs : Stmt := top 19
theorem sc_light_inputs : FnScope ["shape", "most", "found", "many", "row", "sign"] ["shape", "most"] (defScope s_light_inputs) := ⟨rfl, rfl, rfl, by decide +kernel, rfl, by decide +kernel, by decide +kernel⟩
theorem ok_light_inputs (T : Txt K mg) (TB : Tbs K mg base) (O1 : DefOk P w K mg base "check_shape" (k + 3) (R_check_shape C)) (O2 : DefOk P w K mg base "weight" (k + 1) R_weight) (F : FnP K "light_inputs" s_light_inputs f fd) (hf : f = He.fAd K lightKey) (hm : mg "light_inputs" = some (.ref f)) : DefOk P w K mg base "light_inputs" (k + 5) R_light_inputs := by
  refine def_okC F hf hm sc_light_inputs (fun ds r ⟨_, _, e, _⟩ => by rw [e]; rfl) (fun _ _ _ _ _ _ us hl => match us, hl with | [_, _], _ => rfl) fun A outer s H E hr ds r hR => ?_
  obtain ⟨sh, most, rfl, hok, hsz, rfl⟩ := hR
  have nd := sc_light_inputs.nd
  have hsh : sh.length ≤ 12 := by
    unfold shOk at hok
    simp only [Bool.and_eq_true, decide_eq_true_eq] at hok
    exact hok.1
  refine dss_cons (ds_callX O1 (hr.mono (by omega)) (da_cons (de_var 0) da_nil) ⟨sh, rfl, by omega, rfl⟩ (fun d hd => ?_) fun C' hC => by rw [if_pos hok] at hC; cases hC)
  refine dss_cons (ds_setO 2 nd (do_lst (da_cons (de_tup da_nil) da_nil)) ?_)
  refine dss_cons (ds_for sh nI [3] (fun k => [nI k]) (passes_of rfl) (di_tup (de_var 0)) (fun _ _ => dg_name 3 nd) (fun i ρ' => ∃ s, ρ' = [.val (tN sh), .val (nI most), .own ((genP most (sh.take i)).map tI), s, .no, .no]) ⟨_, rfl⟩ ?_ ?_)
  · rintro i k' ρ' hk ⟨s, rfl⟩
    have hk4 := sh_four hok k' (List.mem_of_getElem? hk)
    refine dss_freeze 2 ?_
    refine dss_one (ds_setLc2 2 (genP most (sh.take i)) tI [4] (fun r => [tI r]) (fun _ => List.range k') nI [5] (fun s => [nI s]) (fun r s => decide (s = 0) || decide (wtI r < (most : Nat))) (fun r s => tI (r ++ [(s : Int)])) [("row", 4), ("sign", 5)] [5] nd (blkOk_by (N := ["shape", "most", "found", "many", "row", "sign"]) (sc := defScope s_light_inputs) (by decide +kernel)) (di_list (de_var 2)) ?_ ?_ ?_ ?_ ?_ ?_ ⟨.val (nI k'), ?_⟩)
    · have h1 := (hsz i).1
      have h2 := sizeLine_eq
      rw [flat_const]
      have : (genP most (sh.take i)).length * k' ≤ 10000 * 4 := Nat.mul_le_mul (by omega) hk4
      omega
    · exact fun _ _ _ _ _ n _ => dg_name 4 nd
    · exact fun _ _ _ _ _ n _ => DI.is (di_range1 (de_var 3) T.nRange (by omega)) (by simp)
    · exact fun _ _ _ _ _ n _ s _ => dg_name 5 nd
    · intro _ _ _ _ _ n hn s _
      refine dts_one (dt_pw (dw_or (DT.is (dt_cmp op_eq rd_eqI (de_var 5) de_int (nomark _)) ?_) fun _ => dw_or1 (dt_cmp op_lt rd_lt (de_call O2 (hr.mono (by omega)) (da_cons (de_var 4) da_nil) ⟨n, rfl, ?_, rfl⟩) (de_var 1) (nomark _))))
      · exact dec_eq s 0
      · have := (hsz i).2 n hn; omega
    · intro _ _ _ _ _ n hn s _ _
      refine DE.is (de_catT (de_var 4) (de_tupl (da_cons (de_var 5) da_nil)) ?_) ?_
      · have h1 := (hsz i).2 n hn
        have h2 := sizeLine_eq
        rw [List.length_map]; show _ + 1 ≤ _; omega
      · simp [tI]
    · rw [genP_snoc most sh i k' hk]
      simp [setD, stepP, List.map_flatMap, Function.comp_def]
  · rintro ρ' ⟨s, rfl⟩
    refine dss_freeze 2 ?_
    refine dss_one (ds_ret (de_of_do (do_sortKey (N := ["row"]) (k := k + 1) TB.l rfl (List.mem_cons_self) ?_ (hr.mono (by omega)) ⟨rfl, rfl, rfl, by decide +kernel, rfl, by decide +kernel, by decide +kernel⟩ T.nSorted (rows := genP most sh) (wt := wtI) (DE.is (de_var 2) (by rw [List.take_length])) ?_ (fun _ _ _ _ => rfl) (hfree := nofree_by (by decide +kernel)))) rfl)
    · intro p hp e
      rcases List.mem_cons.mp hp with h | h
      · rw [h]; rfl
      · rw [List.mem_singleton.mp h] at e
        exact absurd e.symm TB.ne
    · exact fun f c' A outer s H hr r hr' => de_tupl (da_cons (de_call O2 (hr.mono (by omega)) (da_cons (de_var 0) da_nil) ⟨r, rfl, by have := (hsz sh.length).2 r (by rw [List.take_length]; exact hr'); omega, rfl⟩) (da_cons (de_var 0) da_nil))
end
end DL
set_option maxHeartbeats 4000000
namespace DL
open PySem PySem.Spec PyProof.Rows L2
/-! ### what a set of members makes -/
inductive Reach (m : Nat → Nat → Nat) (S : List Nat) : Nat → Prop
  | zero : Reach m S 0
  | step {x s : Nat} : Reach m S x → s ∈ S → Reach m S (m x s)
open Classical in
noncomputable def clo (n : Nat) (m : Nat → Nat → Nat) (S : List Nat) : List Nat := (List.range n).filter fun x => decide (Reach m S x)
abbrev insD (n : Nat) (fnd : List Nat) : List D := (List.range n).map fun x => D.bl (decide (x ∈ fnd))
theorem insD_set {n y : Nat} {fnd : List Nat} (h : y < n) : (insD n fnd).set y (.bl true) = insD n (fnd ++ [y]) := by
  apply List.ext_getElem?
  intro i
  by_cases hi : y = i
  · subst hi
    rw [List.getElem?_set_self (by simpa using h)]
    simp [h]
  · rw [List.getElem?_set_ne hi]
    simp only [insD, List.getElem?_map]
    by_cases h2 : i < n
    · simp [h2, Ne.symm hi]
    · simp [h2]
theorem insD_nil (n : Nat) : List.replicate n (D.bl false) = insD n [] := by
  apply List.ext_getElem?
  intro i
  simp only [insD, List.getElem?_map, List.getElem?_replicate]
  by_cases h2 : i < n
  · simp [h2]
  · simp [h2]
theorem insD_at {n y : Nat} {fnd : List Nat} (h : y < n) : atI (insD n fnd) (y : Nat) = some (.bl (decide (y ∈ fnd))) := atI_nat (by simp [h])
theorem insD_ix {n y : Nat} {fnd : List Nat} (h : y < n) : ixN (insD n fnd).length (y : Nat) = some y := by
  unfold ixN
  rw [if_pos (by omega), if_pos (by simp [insD]; omega)]
  simp
/-- amid the search: what is found, the row that is looked at, its members done -/
structure Bf (n : Nat) (m : Nat → Nat → Nat) (S : List Nat) (fnd : List Nat) (at_ i : Nat) : Prop where
  nd : fnd.Nodup
  lt : ∀ x ∈ fnd, x < n
  zero : 0 ∈ fnd
  re : ∀ x ∈ fnd, Reach m S x
  cl : ∀ j x, j < at_ → fnd[j]? = some x → ∀ s ∈ S, m x s ∈ fnd
  cur : ∀ x, fnd[at_]? = some x → ∀ s ∈ S.take i, m x s ∈ fnd
  le : at_ ≤ fnd.length
theorem nodup_len : ∀ {n : Nat} {fnd : List Nat}, fnd.Nodup → (∀ x ∈ fnd, x < n) → fnd.length ≤ n
  | 0, [], _, _ => Nat.le_refl _
  | 0, x :: _, _, lt => absurd (lt x List.mem_cons_self) (Nat.not_lt_zero _)
  | n + 1, fnd, nd, lt => by
    have h1 := nodup_len (n := n) (fnd := fnd.erase n) (nd.erase n) fun x hx => by
      have := (List.Nodup.mem_erase_iff nd).mp hx
      have := lt x this.2
      omega
    by_cases hm : n ∈ fnd
    · rw [List.length_erase_of_mem hm] at h1; omega
    · rw [List.erase_of_not_mem hm] at h1; omega
theorem Bf.start {n : Nat} {m : Nat → Nat → Nat} {S : List Nat} (h : 0 < n) : Bf n m S [0] 0 0 := ⟨by simp, fun x hx => by simp at hx; omega, by simp, fun x hx => by simp at hx; rw [hx]; exact .zero, fun j x hj => absurd hj (Nat.not_lt_zero _), fun x _ s hs => by simp at hs, Nat.zero_le _⟩
theorem Bf.old {n : Nat} {m : Nat → Nat → Nat} {S fnd : List Nat} {at_ i x s : Nat} (b : Bf n m S fnd at_ i) (hx : fnd[at_]? = some x) (hs : S[i]? = some s) (h : m x s ∈ fnd) : Bf n m S fnd at_ (i + 1) :=
  ⟨b.nd, b.lt, b.zero, b.re, b.cl, fun y hy t ht => by
    rw [hx] at hy; cases hy
    rw [List.take_add_one, hs] at ht
    rcases List.mem_append.mp ht with q | q
    · exact b.cur x hx t q
    · simp at q; rw [q]; exact h, b.le⟩
theorem Bf.new {n : Nat} {m : Nat → Nat → Nat} {S fnd : List Nat} {at_ i x s : Nat} (b : Bf n m S fnd at_ i) (hx : fnd[at_]? = some x) (hs : S[i]? = some s) (h : m x s ∉ fnd) (hl : m x s < n) : Bf n m S (fnd ++ [m x s]) at_ (i + 1) := by
  have hat : at_ < fnd.length := (List.getElem?_eq_some_iff.mp hx).1
  have hx' : (fnd ++ [m x s])[at_]? = some x := by rw [List.getElem?_append_left hat]; exact hx
  refine ⟨?_, fun y hy => ?_, List.mem_append_left _ b.zero, fun y hy => ?_, fun j y hj hy t ht => ?_, fun y hy t ht => ?_, by rw [List.length_append]; exact Nat.le_trans b.le (Nat.le_add_right _ _)⟩
  · rw [List.nodup_append]
    exact ⟨b.nd, by simp, fun a ha c hc => by simp at hc; rw [hc]; exact fun e => h (e ▸ ha)⟩
  · rcases List.mem_append.mp hy with q | q
    · exact b.lt y q
    · simp at q; rw [q]; exact hl
  · rcases List.mem_append.mp hy with q | q
    · exact b.re y q
    · simp at q; rw [q]; exact .step (b.re x (List.mem_of_getElem? hx)) (List.mem_of_getElem? hs)
  · have hj' : j < fnd.length := by omega
    rw [List.getElem?_append_left hj'] at hy
    exact List.mem_append_left _ (b.cl j y hj hy t ht)
  · rw [hx'] at hy; cases hy
    rw [List.take_add_one, hs] at ht
    rcases List.mem_append.mp ht with q | q
    · exact List.mem_append_left _ (b.cur x hx t q)
    · simp at q; rw [q]; exact List.mem_append_right _ (by simp)
theorem Bf.next {n : Nat} {m : Nat → Nat → Nat} {S fnd : List Nat} {at_ : Nat} (b : Bf n m S fnd at_ S.length) (h : at_ < fnd.length) : Bf n m S fnd (at_ + 1) 0 :=
  ⟨b.nd, b.lt, b.zero, b.re, fun j x hj hx s hs => by
    by_cases e : j = at_
    · subst e; exact b.cur x hx s (by rw [List.take_length]; exact hs)
    · exact b.cl j x (by omega) hx s hs, fun x _ s hs => by simp at hs, h⟩
theorem Bf.done {n : Nat} {m : Nat → Nat → Nat} {S fnd : List Nat} {i : Nat} (b : Bf n m S fnd fnd.length i) : (clo n m S).Perm fnd := by
  have cl : ∀ x, Reach m S x → x ∈ fnd := fun x h => by
    induction h with
    | zero => exact b.zero
    | @step x s _ hs ih =>
      obtain ⟨j, hj, e⟩ := List.mem_iff_getElem.mp ih
      exact b.cl j x hj (by rw [List.getElem?_eq_getElem hj, e]) s hs
  refine (List.perm_ext_iff_of_nodup (List.nodup_range.sublist List.filter_sublist) b.nd).mpr fun x => ?_
  simp only [clo, List.mem_filter, List.mem_range, decide_eq_true_eq]
  exact ⟨fun h => cl x h.2, fun h => ⟨b.lt x h, b.re x h⟩⟩
theorem clo_sorted (n : Nat) (m : Nat → Nat → Nat) (S : List Nat) : ((clo n m S).map Int.ofNat).Pairwise (· ≤ ·) := by
  rw [List.pairwise_map]
  have : (clo n m S).Pairwise (· < ·) := (List.pairwise_lt_range (n := n)).sublist List.filter_sublist
  exact this.imp fun h => by
    have : (_ : Nat) < _ := h
    show (Int.ofNat _) ≤ Int.ofNat _
    simp only [Int.ofNat_eq_natCast]; omega
/-! ### a table, a list or a tuple -/
def rowD (tp : Bool) (xs : List Nat) : D := if tp then tN xs else lN xs
def tabD (tp : Bool) (n : Nat) (m : Nat → Nat → Nat) : D := if tp then .tup ((List.range n).map fun a => rowD tp ((List.range n).map (m a))) else .lst ((List.range n).map fun a => rowD tp ((List.range n).map (m a)))
section
variable {X : Cx} {e a b c o : Expr} {es : List Expr} {ρ : List Sl} {pos p : Pos} {tp : Bool} {n i j : Nat} {m : Nat → Nat → Nat}
theorem de_row (ha : DE X a ρ (tabD tp n m)) (hb : DE X b ρ (nI i)) (hi : i < n) (hs : PlainIx b := by intro _ _; rfl) : DE X (.Subscript a b pos) ρ (rowD tp ((List.range n).map (m i))) := by
  cases tp with
  | true => exact de_ixTf (f := fun a => rowD true ((List.range n).map (m a))) ha hb (range_get hi) hs
  | false => exact de_ixLf (f := fun a => rowD false ((List.range n).map (m a))) ha hb (range_get hi) hs
theorem de_cell (ha : DE X a ρ (rowD tp ((List.range n).map (m i)))) (hb : DE X b ρ (nI j)) (hj : j < n) (hs : PlainIx b := by intro _ _; rfl) : DE X (.Subscript a b pos) ρ (nI (m i j)) := by
  cases tp with
  | true => exact de_ixTf (f := nI) (xs := (List.range n).map (m i)) ha hb (by simp [hj]) hs
  | false => exact de_ixLf (f := nI) (xs := (List.range n).map (m i)) ha hb (by simp [hj]) hs
theorem de_lenTab (ha : DE X a ρ (tabD tp n m)) (hm : X.mg "len" = none) (hg : Gl X "len" := by rfl) (he : starEach (a :: []) X.env = (false, eval a X.env) :: starEach [] X.env := by rfl) (hpl : (backTo pos (starEach [] X.env)).any (·.1) = false := by rfl) : DE X (.Call (.Name "len" p) [a] [] pos) ρ (nI n) := by
  cases tp with
  | true => exact DE.is (de_lenT (ds := (List.range n).map fun a => rowD true ((List.range n).map (m a))) ha hm hg he hpl) (by simp)
  | false => exact DE.is (de_lenL (ds := (List.range n).map fun a => rowD false ((List.range n).map (m a))) ha hm hg he hpl) (by simp)
theorem tabD_l : tabD false n m = lTab n m := rfl
theorem tabD_t : tabD true n m = tTab n m := rfl
end
section
variable {P : Program} {w : World} {K : PySem.W.Frag} {mg : Str → Option Value} {base : Heap} {f : Addr} {fd : FuncData} {k : Nat} {C Ct : Addr}
/-! ### inputs_of -/
def Szc (sh : List Nat) : Prop := shOk sh = true ∧ ∀ i, (genP sh.length (sh.take i)).length < 10000 ∧ ∀ r ∈ genP sh.length (sh.take i), r.length ≤ 100
def inp (sh : List Nat) : List (List Int) := sortI (genP sh.length sh)
def R_inputs_of (ds : List D) (r : Res) : Prop := ∃ sh : List Nat, ds = [tN sh] ∧ Szc sh ∧ r = .ok (lF tI (inp sh))
abbrev s_inputs_of : Stmt := top 20
theorem sc_inputs_of : FnScope ["shape"] ["shape"] (defScope s_inputs_of) := ⟨rfl, rfl, rfl, by decide +kernel, rfl, by decide +kernel, by decide +kernel⟩
theorem ok_inputs_of (T : Txt K mg) (O : DefOk P w K mg base "light_inputs" k R_light_inputs) (F : FnP K "inputs_of" s_inputs_of f fd) (hm : mg "inputs_of" = some (.ref f)) : DefOk P w K mg base "inputs_of" (k + 1) R_inputs_of := by
  refine def_ok F hm sc_inputs_of (fun ds r ⟨_, e, _⟩ => by rw [e]; rfl) (fun _ _ _ _ _ _ us hl => match us, hl with | [_], _ => rfl) fun cdv A outer s H E hr ds r hR => ?_
  obtain ⟨sh, rfl, hz, rfl⟩ := hR
  exact dss_one (ds_ret (de_call O hr (da_cons (de_var 0) (da_cons (DE.is (de_lenT (de_var 0) T.nLen) (by rw [List.length_map])) da_nil)) ⟨sh, sh.length, rfl, hz.1, hz.2, rfl⟩) rfl)
/-! ### reached -/
def R_reached (ds : List D) (r : Res) : Prop := ∃ (tp : Bool) (n : Nat) (m : Nat → Nat → Nat) (S : List Nat), ds = [tabD tp n m, lN S] ∧ 0 < n ∧ n < 10000 ∧ (∀ s ∈ S, s < n) ∧ (∀ a b, a < n → b < n → m a b < n) ∧ r = .ok (lN (clo n m S))
abbrev s_reached : Stmt := top 27
abbrev N_reached : List Str := ["rows", "members", "inside", "found", "at", "row", "member"]
theorem sc_reached : FnScope N_reached ["rows", "members"] (defScope s_reached) := ⟨rfl, rfl, rfl, by decide +kernel, rfl, by decide +kernel, by decide +kernel⟩
theorem ok_reached (T : Txt K mg) (F : FnP K "reached" s_reached f fd) (hm : mg "reached" = some (.ref f)) : DefOk P w K mg base "reached" (k + 1) R_reached := by
  refine def_ok F hm sc_reached (fun ds r ⟨_, _, _, _, e, _⟩ => by rw [e]; rfl) (fun _ _ _ _ _ _ us hl => match us, hl with | [_, _], _ => rfl) fun cdv A outer s H E hr ds r hR => ?_
  obtain ⟨tp, n, m, S, rfl, h0, hn, hS, hm', rfl⟩ := hR
  have nd := sc_reached.nd
  have zl := sizeLine_eq
  refine dss_cons (ds_setO 2 nd (do_rep1 (de_of_do (do_lstl (da_cons de_bl da_nil))) (de_lenTab (de_var 0) T.nLen) (by omega) (by omega)) ?_)
  show DSs _ _ [_, _, .own (List.replicate n (.bl false)), _, _, _, _] _
  rw [insD_nil]
  refine dss_cons (ds_setI 2 (j := 0) de_bl de_int (insD_ix (y := 0) h0) ?_)
  show DSs _ _ [_, _, .own ((insD n []).set 0 (.bl true)), _, _, _, _] _
  rw [insD_set h0]
  refine dss_cons (ds_setO 3 nd (do_lstl (da_cons de_int da_nil)) ?_)
  refine dss_cons (ds_set 4 nd de_int ?_)
  refine dss_cons (ds_while (passes_of rfl) (fun q ρ' => ∃ fnd at_ s1 s2, q = n - at_ ∧ Bf n m S fnd at_ 0 ∧ ρ' = [.val (tabD tp n m), .val (lN S), .own (insD n fnd), .own (fnd.map nI), .val (nI at_), s1, s2]) n ⟨[0], 0, _, _, rfl, Bf.start h0, rfl⟩ ?_)
  rintro q ρ' ⟨fnd, at_, s1, s2, rfl, b, rfl⟩
  have hfl := nodup_len b.nd b.lt
  refine ⟨decide (at_ < fnd.length), DT.is (dt_cmp op_lt rd_lt (de_var 4) (de_lend (ds := fnd.map nI) 3 rfl (DE.is (de_lenL (de_var 3) T.nLen) (by rw [List.length_map]))) (nomark _)) (dec_lt _ _), fun hlt => ?_, fun hge => ?_⟩
  · have hat : at_ < fnd.length := of_decide_eq_true hlt
    have hx : fnd[at_]? = some fnd[at_] := List.getElem?_eq_getElem hat
    have hxn : fnd[at_] < n := b.lt _ (List.getElem_mem hat)
    refine dss_cons (ds_set 5 nd (de_row (de_var 0) (de_ixO (ds := fnd.map nI) 3 (de_var 4) (atI_nat (by rw [List.getElem?_map, hx]; rfl))) hxn) ?_)
    refine dss_cons (ds_for S nI [6] (fun k => [nI k]) (passes_of rfl) (di_list (de_var 1)) (fun _ _ => dg_name 6 nd) (fun i ρ' => ∃ fnd' s2, Bf n m S fnd' at_ i ∧ fnd'[at_]? = some fnd[at_] ∧ ρ' = [.val (tabD tp n m), .val (lN S), .own (insD n fnd'), .own (fnd'.map nI), .val (nI at_), .val (rowD tp ((List.range n).map (m fnd[at_]))), s2]) ⟨fnd, _, b, hx, rfl⟩ ?_ ?_)
    · rintro i s' ρ' hs ⟨fnd', s2', b', hx', rfl⟩
      have hsn : s' < n := hS s' (List.mem_of_getElem? hs)
      have hy : m fnd[at_] s' < n := hm' _ _ hxn hsn
      have hfl' := nodup_len b'.nd b'.lt
      refine dss_one (ds_if (DT.is (dt_not (dt_of (de_ixO 2 (de_cell (de_var 5) (de_var 6) hsn) (insD_at hy)))) rfl) (fun hk => ?_) fun hk => ?_)
      · have hnot : m fnd[at_] s' ∉ fnd' := by simpa using hk
        refine dss_cons (ds_setI 2 de_bl (de_cell (de_var 5) (de_var 6) hsn) (insD_ix hy) ?_)
        refine dss_one (ds_append (ds := fnd'.map nI) 3 (de_cell (de_var 5) (de_var 6) hsn) (by rw [List.length_map]; omega) ⟨fnd' ++ [m fnd[at_] s'], .val (nI s'), b'.new hx' hs hnot hy, ?_, ?_⟩)
        · rw [List.getElem?_append_left (List.getElem?_eq_some_iff.mp hx').1]; exact hx'
        · show [_, _, _, _, _, _, _] = _
          rw [insD_set hy, List.map_append]; rfl
      · have hin : m fnd[at_] s' ∈ fnd' := by simpa using hk
        exact dss_nil ⟨fnd', .val (nI s'), b'.old hx' hs hin, hx', rfl⟩
    · rintro ρ' ⟨fnd', s2', b', hx', rfl⟩
      have hat' : at_ < fnd'.length := (List.getElem?_eq_some_iff.mp hx').1
      have hfl' := nodup_len b'.nd b'.lt
      exact dss_one (ds_aug 4 nd iop_add (rd_I0 fun _ => .int) de_int ⟨n - (at_ + 1), by omega, fnd', at_ + 1, _, _, rfl, b'.next hat', rfl⟩)
  · have hat : fnd.length ≤ at_ := by simpa using hge
    have e : at_ = fnd.length := Nat.le_antisymm b.le hat
    subst e
    refine dss_freeze 3 ?_
    refine dss_one (ds_ret (DE.is (de_of_do (do_sortI (ns := fnd.map Int.ofNat) (ms := (clo n m S).map Int.ofNat) (b.done.map _) (clo_sorted n m S) (da_cons (DE.is (de_var 3) (lN_lI fnd)) da_nil) T.nSorted)) ?_) rfl)
    simp [lN, nI]
end
end DL
set_option maxHeartbeats 4000000
namespace DL
open PySem PySem.Spec PyProof.Rows L2
section
variable {X : Cx} {e a b c o : Expr} {es : List Expr} {ρ : List Sl} {pos p p2 q2 : Pos} {n i j : Nat} {m : Nat → Nat → Nat} {d : D}
theorem rgV_nat (n : Nat) : rgV 0 n = ((List.range n).map Int.ofNat).map V.int := by
  unfold rgV
  rw [List.map_map, show ((n : Int) - 0).toNat = n by omega]
  apply List.map_congr_left
  intro i _
  show V.int (0 + (i : Int)) = V.int (Int.ofNat i)
  simp
theorem mapN (xs : List Nat) : xs.map nI = (xs.map Int.ofNat).map D.int := by rw [List.map_map]; rfl
theorem repN {K : PySem.W.Frag} {Z : Hp} (xs : List Nat) : RepL K Z ((xs.map Int.ofNat).map V.int) (xs.map nI) := by rw [mapN]; exact RepL.ofInts _
theorem natsInj {xs ys : List Nat} (h : (xs.map Int.ofNat).map V.int = (ys.map Int.ofNat).map V.int) : xs = ys :=
  (List.map_inj_right fun a b e => by cases e; rfl).mp ((List.map_inj_right fun a b e => by cases e; rfl).mp h)
theorem do_listR (ha : DE X a ρ (nI n)) (hn : n ≤ 16777216) (hm : X.mg "list" = none) (hm2 : X.mg "range" = none) (hc : X.calm = true := by rfl) (hg : Gl X "list" := by rfl) (hg2 : Gl X "range" := by rfl) (na : starEach [a] X.env = (false, eval a X.env) :: starEach [] X.env := by rfl)
    (na2 : starEach [.Call (.Name "range" p2) [a] [] q2] X.env = (false, eval (.Call (.Name "range" p2) [a] [] q2) X.env) :: starEach [] X.env := by rfl) : DO X (.Call (.Name "list" p) [.Call (.Name "range" p2) [a] [] q2] [] pos) ρ ((List.range n).map nI) := fun E Z H σ S Q q =>
  we_pe (pe_listRg hc hg hm (prg_1 hg2 hm2 pe_we na) na2) (ha E Z H σ S _ fun v Z1 H1 g1 r1 => by
    cases r1
    refine ⟨_, rfl, RgOk.of_le (by omega) (by omega) (by omega) (by omega), fun p hp => ?_⟩
    exact made (E := E) (σ := σ) (ρ := ρ) g1 q hp (by rw [rgV_nat]; exact repN _))
theorem de_tupR (ha : DE X a ρ (nI n)) (hn : n ≤ 16777216) (hm : X.mg "tuple" = none) (hm2 : X.mg "range" = none) (hc : X.calm = true := by rfl) (hg : Gl X "tuple" := by rfl) (hg2 : Gl X "range" := by rfl) (na : starEach [a] X.env = (false, eval a X.env) :: starEach [] X.env := by rfl)
    (na2 : starEach [.Call (.Name "range" p2) [a] [] q2] X.env = (false, eval (.Call (.Name "range" p2) [a] [] q2) X.env) :: starEach [] X.env := by rfl) : DE X (.Call (.Name "tuple" p) [.Call (.Name "range" p2) [a] [] q2] [] pos) ρ (tN (List.range n)) := fun E Z H σ S Q q =>
  we_pe (pe_tupRg hc hg hm (prg_1 hg2 hm2 pe_we na) na2) (ha E Z H σ S _ fun v Z1 H1 g1 r1 => by
    cases r1
    refine ⟨_, rfl, RgOk.of_le (by omega) (by omega) (by omega) (by omega), fun p hp => ?_⟩
    exact q _ _ _ (g1.new hp) (.tup (.inl upd_same) (by rw [rgV_nat]; exact repN _)))
/-- an own list is lent to what gives another list of ints -/
theorem de_lendN (i : Nat) {ns ys : List Nat} (hne : ys ≠ ns) (h : DE X e (ρ.set i (.val (.lst (ns.map nI)))) (lN ys)) (hi : ρ[i]? = some (.own (ns.map nI)) := by rfl) : DE X e ρ (lN ys) := fun E Z H σ S Q q => by
  obtain ⟨l, xs, e1, h1, zl, f1, f2, r⟩ := S.s.lookO hi
  refine h E _ H σ (S.freeze hi e1 h1) Q fun v Z' H' g rv => ?_
  have rN : RepL X.K Z xs ((ns.map Int.ofNat).map D.int) := by rw [← mapN]; exact r
  cases rv with
  | lst hz rl =>
    rename_i a us
    have rl' : RepL X.K Z' us ((ys.map Int.ofNat).map D.int) := by rw [← mapN]; exact rl
    have eu := rl'.ints
    have hal : a ≠ l := fun z => by
      subst z
      have e2 : Z' a = some (.lst xs) := g.z a _ upd_same
      rw [hz] at e2
      cases e2
      have e3 := rN.ints
      rw [eu] at e3
      exact hne (natsInj e3)
    have zz : Ex Z Z' := (Ex.new zl).trans g.z
    have rep : ∀ Z2, RepL X.K Z2 us (ys.map nI) := fun Z2 => by rw [eu]; exact repN _
    by_cases za : Z a = none
    · have fa : Frsh H a := by
        rcases g.fr a (by rw [hz]; exact fun z => nomatch z) with w | w
        · rw [upd_ne hal] at w; exact absurd za w
        · exact w
      refine q (.ref a) (upd Z a (.lst us)) H' ⟨Ex.new za, g.h, fun b o hb => ?_, g.tb, fun b hb => ?_, fun nz => nz.upd fun _ z => nomatch z⟩ (.lst upd_same (rep _))
      · by_cases hba : b = a
        · subst hba; rw [upd_same] at hb; cases hb; exact g.zh _ _ hz
        · rw [upd_ne hba] at hb; exact g.zh _ _ (zz _ _ hb)
      · by_cases hba : b = a
        · subst hba; exact .inr fa
        · rw [upd_ne hba] at hb; exact .inl hb
    · obtain ⟨u, hu⟩ := Option.ne_none_iff_exists'.mp za
      have : u = .lst us := by have := zz _ _ hu; rw [hz] at this; exact (Option.some.inj this).symm
      subst this
      exact q (.ref a) Z H' ⟨Ex.refl _, g.h, zz.trans g.zh, g.tb, fun b w => .inl w, id⟩ (.lst hu (rep _))
end
/-! ### groups -/
structure Grp (n : Nat) (m : Nat → Nat → Nat) : Prop where
  pos : 0 < n
  cl : ∀ a b, a < n → b < n → m a b < n
  l0 : ∀ a, a < n → m 0 a = a
  r0 : ∀ a, a < n → m a 0 = a
  as : ∀ a b c, a < n → b < n → c < n → m (m a b) c = m a (m b c)
  iv : ∀ a, a < n → ∃ b, b < n ∧ m a b = 0
/-- the members that generating_members chooses -/
noncomputable def fndOf (n : Nat) (m : Nat → Nat → Nat) (ch : List Nat) : List Nat := if ch = [] then [0] else clo n m ch
noncomputable def stepG (n : Nat) (m : Nat → Nat → Nat) (ch : List Nat) (x : Nat) : List Nat := if x ∈ fndOf n m ch then ch else ch ++ [x]
noncomputable def gensOf (n : Nat) (m : Nat → Nat → Nat) : List Nat := (List.range n).foldl (stepG n m) []
theorem stepG_lt {n : Nat} {m : Nat → Nat → Nat} {ch : List Nat} {x : Nat} (h : ∀ y ∈ ch, y < n) (hx : x < n) : ∀ y ∈ stepG n m ch x, y < n := fun y hy => by
  unfold stepG at hy
  split at hy
  · exact h y hy
  · rcases List.mem_append.mp hy with q | q
    · exact h y q
    · simp at q; rw [q]; exact hx
theorem zero_clo {n : Nat} {m : Nat → Nat → Nat} {S : List Nat} (h : 0 < n) : 0 ∈ clo n m S := by
  simp only [clo, List.mem_filter, List.mem_range, decide_eq_true_eq]
  exact ⟨h, .zero⟩
theorem zero_fnd {n : Nat} {m : Nat → Nat → Nat} {ch : List Nat} (h : 0 < n) : 0 ∈ fndOf n m ch := by
  unfold fndOf
  split
  · simp
  · exact zero_clo h
theorem foldG_lt {n : Nat} {m : Nat → Nat → Nat} : ∀ (xs ch : List Nat), (∀ x ∈ xs, x < n) → (∀ y ∈ ch, y < n) → ∀ y ∈ xs.foldl (stepG n m) ch, y < n
  | [], ch, _, h => h
  | x :: xs, ch, hx, h => foldG_lt xs _ (fun z hz => hx z (List.mem_cons_of_mem _ hz)) (stepG_lt h (hx x List.mem_cons_self))
theorem foldG_pos {n : Nat} {m : Nat → Nat → Nat} (h0 : 0 < n) : ∀ (xs ch : List Nat), 0 ∉ ch → 0 ∉ xs.foldl (stepG n m) ch
  | [], ch, h => h
  | x :: xs, ch, h => foldG_pos h0 xs _ (by
    unfold stepG
    split
    · exact h
    · rename_i q
      intro z
      rcases List.mem_append.mp z with z | z
      · exact h z
      · simp at z; rw [← z] at q; exact q (zero_fnd h0))
theorem foldG_len {n : Nat} {m : Nat → Nat → Nat} : ∀ (xs ch : List Nat), (xs.foldl (stepG n m) ch).length ≤ ch.length + xs.length
  | [], ch => by simp
  | x :: xs, ch => by
    have := foldG_len (n := n) (m := m) xs (stepG n m ch x)
    have h2 : (stepG n m ch x).length ≤ ch.length + 1 := by
      unfold stepG
      split
      · omega
      · simp
    simp only [List.foldl_cons, List.length_cons]; omega
theorem range_snoc {α : Type} (n i : Nat) (F : α → Nat → α) (z : α) (h : i < n) : ((List.range n).take (i + 1)).foldl F z = F (((List.range n).take i).foldl F z) i := by
  rw [List.take_add_one, range_get h, List.foldl_append]; rfl
section
variable {P : Program} {w : World} {K : PySem.W.Frag} {mg : Str → Option Value} {base : Heap} {f : Addr} {fd : FuncData} {k : Nat} {C Ct : Addr}
def R_generating_members (ds : List D) (r : Res) : Prop := ∃ (tp : Bool) (n : Nat) (m : Nat → Nat → Nat), ds = [tabD tp n m] ∧ n < 10000 ∧ Grp n m ∧ r = .ok (lN (gensOf n m))
abbrev s_generating_members : Stmt := top 28
theorem sc_generating_members : FnScope ["rows", "chosen", "found", "member"] ["rows"] (defScope s_generating_members) := ⟨rfl, rfl, rfl, by decide +kernel, rfl, by decide +kernel, by decide +kernel⟩
theorem ok_generating_members (T : Txt K mg) (O : DefOk P w K mg base "reached" k R_reached) (F : FnP K "generating_members" s_generating_members f fd) (hm : mg "generating_members" = some (.ref f)) : DefOk P w K mg base "generating_members" (k + 1) R_generating_members := by
  refine def_ok F hm sc_generating_members (fun ds r ⟨_, _, _, e, _⟩ => by rw [e]; rfl) (fun _ _ _ _ _ _ us hl => match us, hl with | [_], _ => rfl) fun cdv A outer s H E hr ds r hR => ?_
  obtain ⟨tp, n, m, rfl, hn, g, rfl⟩ := hR
  have nd := sc_generating_members.nd
  have zl := sizeLine_eq
  refine dss_cons (ds_setO 1 nd (do_lstl da_nil) ?_)
  refine dss_cons (ds_set 2 nd (de_of_do (do_lstl (da_cons de_int da_nil))) ?_)
  refine dss_cons (ds_for (List.range n) nI [3] (fun k => [nI k]) (passes_of rfl) (DI.is (di_range1 (de_lenTab (de_var 0) T.nLen) T.nRange (by omega)) (by simp [nI])) (fun _ _ => dg_name 3 nd) (fun i ρ' => ∃ s1, ρ' = [.val (tabD tp n m), .own ((((List.range n).take i).foldl (stepG n m) []).map nI), .val (lN (fndOf n m (((List.range n).take i).foldl (stepG n m) []))), s1]) ⟨_, rfl⟩ ?_ ?_)
  · rintro i x ρ' hx ⟨s1, rfl⟩
    have hi : i < n := by
      have := (List.getElem?_eq_some_iff.mp hx).1
      simpa using this
    have ex : x = i := by rw [range_get hi] at hx; cases hx; rfl
    subst ex
    rw [range_snoc n x _ _ hi]
    have hlt : ∀ y ∈ ((List.range n).take x).foldl (stepG n m) [], y < n := foldG_lt _ _ (fun z hz => List.mem_range.mp (List.mem_of_mem_take hz)) (fun y hy => absurd hy (by simp))
    have h0 : 0 ∉ ((List.range n).take x).foldl (stepG n m) [] := foldG_pos g.pos _ _ (by simp)
    have hlen := foldG_len (n := n) (m := m) ((List.range n).take x) []
    rw [List.length_take, List.length_range] at hlen
    generalize ((List.range n).take x).foldl (stepG n m) [] = ch at hlt h0 hlen
    refine dss_one (ds_if (dt_ninN (de_var 3) (de_var 2) rfl) (fun hk => ?_) fun hk => ?_)
    · have hnot : x ∉ fndOf n m ch := by simpa using hk
      have es : stepG n m ch x = ch ++ [x] := by unfold stepG; rw [if_neg hnot]
      have ef : fndOf n m (ch ++ [x]) = clo n m (ch ++ [x]) := by unfold fndOf; rw [if_neg (by simp)]
      have h0' : 0 ∉ ch ++ [x] := fun z => by
        rcases List.mem_append.mp z with z | z
        · exact h0 z
        · simp at z; rw [← z] at hnot; exact hnot (zero_fnd g.pos)
      rw [es, ef]
      refine dss_cons (ds_append (ds := ch.map nI) 1 (de_var 3) (by rw [List.length_map]; simp at hlen; omega) ?_)
      show DSs _ _ [_, .own (ch.map nI ++ [nI x]), _, _] _
      rw [show ch.map nI ++ [nI x] = (ch ++ [x]).map nI by simp]
      refine dss_one (ds_set 2 nd (de_lendN (ns := ch ++ [x]) 1 (fun z => h0' (z ▸ zero_clo g.pos)) (de_call O hr (da_cons (de_var 0) (da_cons (de_var 1) da_nil)) ⟨tp, n, m, ch ++ [x], rfl, g.pos, hn, fun y hy => ?_, g.cl, rfl⟩)) ⟨.val (nI x), rfl⟩)
      rcases List.mem_append.mp hy with q | q
      · exact hlt y q
      · simp at q; rw [q]; exact hi
    · have hin : x ∈ fndOf n m ch := by simpa using hk
      have es : stepG n m ch x = ch := by unfold stepG; rw [if_pos hin]
      rw [es]
      exact dss_nil ⟨.val (nI x), rfl⟩
  · rintro ρ' ⟨s1, rfl⟩
    refine dss_one (ds_retO (ds := (((List.range n).take (List.range n).length).foldl (stepG n m) []).map nI) 1 ?_)
    show Res.ok _ = Res.ok _
    rw [List.take_length]
    rfl
end
end DL
set_option maxHeartbeats 4000000
namespace DL
open PySem PySem.Spec PyProof.Rows L2
section
variable {P : Program} {w : World} {K : PySem.W.Frag} {mg : Str → Option Value} {base : Heap} {f : Addr} {fd : FuncData} {k : Nat} {C Ct : Addr}
def R_is_associative (ds : List D) (r : Res) : Prop := ∃ (n : Nat) (m : Nat → Nat → Nat), ds = [lTab n m] ∧ n < 10000 ∧ Grp n m ∧ r = .ok (.bl true)
abbrev s_is_associative : Stmt := top 29
abbrev N_is_associative : List Str := ["rows", "middle", "a", "m"]
theorem sc_is_associative : FnScope N_is_associative ["rows"] (defScope s_is_associative) := ⟨rfl, rfl, rfl, by decide +kernel, rfl, by decide +kernel, by decide +kernel⟩
theorem gens_lt {n : Nat} {m : Nat → Nat → Nat} : ∀ y ∈ gensOf n m, y < n := foldG_lt _ _ (fun z hz => List.mem_range.mp hz) (fun y hy => absurd hy (by simp))
theorem ok_is_associative (T : Txt K mg) (O : DefOk P w K mg base "generating_members" k R_generating_members) (F : FnP K "is_associative" s_is_associative f fd) (hm : mg "is_associative" = some (.ref f)) : DefOk P w K mg base "is_associative" (k + 1) R_is_associative := by
  refine def_ok F hm sc_is_associative (fun ds r ⟨_, _, e, _⟩ => by rw [e]; rfl) (fun _ _ _ _ _ _ us hl => match us, hl with | [_], _ => rfl) fun cdv A outer s H E hr ds r hR => ?_
  obtain ⟨n, m, rfl, hn, g, rfl⟩ := hR
  have nd := sc_is_associative.nd
  have zl := sizeLine_eq
  refine dss_cons (ds_for (gensOf n m) nI [1] (fun k => [nI k]) (passes_of rfl) (di_list (de_call O hr (da_cons (de_var 0) da_nil) ⟨false, n, m, rfl, hn, g, rfl⟩)) (fun _ _ => dg_name 1 nd) (fun i ρ' => ∃ s1 s2, ρ' = [.val (lTab n m), s1, s2, .no]) ⟨_, _, rfl⟩ ?_ ?_)
  · rintro i x ρ' hx ⟨s1, s2, rfl⟩
    have hxn : x < n := gens_lt x (List.mem_of_getElem? hx)
    refine dss_one (ds_for (List.range n) nI [2] (fun k => [nI k]) (passes_of rfl) (DI.is (di_range1 (de_lenTab (tp := false) (de_var 0) T.nLen) T.nRange (by omega)) (by simp [nI])) (fun _ _ => dg_name 2 nd) (fun i ρ' => ∃ s2, ρ' = [.val (lTab n m), .val (nI x), s2, .no]) ⟨_, rfl⟩ ?_ ?_)
    · rintro j y ρ' hy ⟨s2, rfl⟩
      have hyn : y < n := List.mem_range.mp (List.mem_of_getElem? hy)
      refine dss_one (ds_if (k := false) (DT.is (dt_cmp (op_neD hr.units) (rd_neL (ns := ((List.range n).map (m (m y x))).map Int.ofNat) (ms := (((List.range n).map (m x)).map (m y)).map Int.ofNat)) (DE.is (de_of_do (do_listL (da_cons (de_row (tp := false) (de_var 0) (de_tab (de_var 0) (de_var 2) (de_var 1) hyn hxn) (g.cl y x hyn hxn)) da_nil) T.nList)) (lN_lI _))
        (DE.is (de_of_do (do_lc0 ((List.range n).map (m x)) nI [3] (fun k => [nI k]) (fun z => nI (m y z)) [("m", 3)] nd (blkOk_by (N := N_is_associative) (sc := defScope s_is_associative) (by decide +kernel)) (di_list (de_row (tp := false) (de_var 0) (de_var 1) hxn)) ?_ ?_ ?_)) ?_) (nomark _)) ?_) (fun h => nomatch h) fun _ => dss_nil ⟨.val (nI y), rfl⟩)
      · rw [List.length_map, List.length_range]; omega
      · exact fun _ _ _ _ _ z _ => dg_name 3 nd
      · intro _ _ _ _ _ z hz
        obtain ⟨q, hq, rfl⟩ := List.mem_map.mp hz
        exact de_tab (de_var 0) (de_var 2) (de_var 3) hyn (g.cl x q hxn (List.mem_range.mp hq))
      · rw [← lN_lI]; simp only [lN, List.map_map]; rfl
      · simp only [Bool.not_eq_false', decide_eq_true_eq, List.map_map]
        apply List.map_congr_left
        intro q hq
        have hq := List.mem_range.mp hq
        show Int.ofNat (m (m y x) q) = Int.ofNat (m y (m x q))
        rw [g.as y x q hyn hxn hq]
    · rintro ρ' ⟨s2, rfl⟩
      exact ⟨.val (nI x), s2, rfl⟩
  · rintro ρ' ⟨s1, s2, rfl⟩
    exact dss_one (ds_ret de_bl rfl)
/-! ### table_fault -/
theorem Grp.canL {n : Nat} {m : Nat → Nat → Nat} (g : Grp n m) {a x y : Nat} (ha : a < n) (hx : x < n) (hy : y < n) (h : m a x = m a y) : x = y := by
  obtain ⟨b, hb, e⟩ := g.iv a ha
  obtain ⟨c, hc, e2⟩ := g.iv b hb
  -- b a = 0 too
  have hba : m b a = 0 := by
    have h1 : m (m b a) (m b c) = m b c := by
      rw [g.as b a _ hb ha (g.cl b c hb hc), ← g.as a b c ha hb hc, e, g.l0 c hc]
    rw [e2, g.r0 _ (g.cl b a hb ha)] at h1
    exact h1
  have h2 : m b (m a x) = m b (m a y) := by rw [h]
  rw [← g.as b a x hb ha hx, ← g.as b a y hb ha hy, hba, g.l0 x hx, g.l0 y hy] at h2
  exact h2
theorem Grp.canR {n : Nat} {m : Nat → Nat → Nat} (g : Grp n m) {a x y : Nat} (ha : a < n) (hx : x < n) (hy : y < n) (h : m x a = m y a) : x = y := by
  obtain ⟨b, hb, e⟩ := g.iv a ha
  have h2 : m (m x a) b = m (m y a) b := by rw [h]
  rw [g.as x a b hx ha hb, g.as y a b hy ha hb, e, g.r0 x hx, g.r0 y hy] at h2
  exact h2
theorem nodup_mapOn {α β : Type} {f : α → β} {l : List α} (hf : ∀ x ∈ l, ∀ y ∈ l, f x = f y → x = y) (nd : l.Nodup) : (l.map f).Nodup := by
  induction l with
  | nil => simp
  | cons a l ih =>
    rw [List.map_cons, List.nodup_cons]
    rw [List.nodup_cons] at nd
    refine ⟨fun h => ?_, ih (fun x hx y hy => hf x (List.mem_cons_of_mem _ hx) y (List.mem_cons_of_mem _ hy)) nd.2⟩
    obtain ⟨b, hb, e⟩ := List.mem_map.mp h
    exact nd.1 (hf b (List.mem_cons_of_mem _ hb) a List.mem_cons_self e ▸ hb)
theorem flat_mapc {α β : Type} (n : Nat) (F : α → Nat → β) : ∀ xs : List α, (xs.flatMap fun a => (List.range n).map (F a)).length = xs.length * n
  | [] => by simp
  | x :: xs => by rw [List.flatMap_cons, List.length_append, flat_mapc n F xs, List.length_map, List.length_range, List.length_cons, Nat.succ_mul]; omega
def R_table_fault (ds : List D) (r : Res) : Prop := ∃ (n : Nat) (m : Nat → Nat → Nat), ds = [lTab n m] ∧ n < 1000 ∧ Grp n m ∧ r = .ok (.str "")
abbrev s_table_fault : Stmt := top 30
abbrev N_table_fault : List Str := ["rows", "size", "row", "entry", "columns", "at", "line"]
theorem sc_table_fault : FnScope N_table_fault ["rows"] (defScope s_table_fault) := ⟨rfl, rfl, rfl, by decide +kernel, rfl, by decide +kernel, by decide +kernel⟩
theorem ok_table_fault (T : Txt K mg) (O : DefOk P w K mg base "is_associative" k R_is_associative) (F : FnP K "table_fault" s_table_fault f fd) (hm : mg "table_fault" = some (.ref f)) : DefOk P w K mg base "table_fault" (k + 1) R_table_fault := by
  refine def_ok F hm sc_table_fault (fun ds r ⟨_, _, e, _⟩ => by rw [e]; rfl) (fun _ _ _ _ _ _ us hl => match us, hl with | [_], _ => rfl) fun cdv A outer s H E hr ds r hR => ?_
  obtain ⟨n, m, rfl, hn, g, rfl⟩ := hR
  have nd := sc_table_fault.nd
  have zl := sizeLine_eq
  have hpos := g.pos
  refine dss_cons (ds_set 1 nd (de_lenTab (tp := false) (de_var 0) T.nLen) ?_)
  -- the shape
  refine dss_cons (ds_if (k := false) (DT.is (dt_pw (dw_or (DT.is (dt_cmp op_eq rd_eqI (de_var 1) de_int (nomark _)) (dec_eq n 0)) fun _ => dw_or1 (dt_not (dt_of (de_all (bs := (List.range n).map fun _ => true) rfl (da_cons (DE.is (de_of_do (do_lc0 (List.range n) (fun a => lN ((List.range n).map (m a))) [2] (fun a => [lN ((List.range n).map (m a))]) (fun _ => .bl true) [("row", 2)] nd (blkOk_by (N := N_table_fault) (sc := defScope s_table_fault) (by decide +kernel)) (di_list (de_var 0)) ?_ ?_ ?_)) ?_) da_nil) T.nAll))))) ?_) (fun h => nomatch h) fun _ => dss_nil ?_)
  · rw [List.length_range]; omega
  · exact fun _ _ _ _ _ z _ => dg_name 2 nd
  · exact fun _ _ _ _ _ z _ => DE.is (de_cmp op_eq rd_eqI (de_lenL (de_var 2) T.nLen) (de_var 1) (nomark _)) (by simp)
  · rw [List.map_map]; rfl
  · have : ¬ n = 0 := by omega
    simp [this]
  -- the entries
  refine dss_cons (ds_if (k := false) (DT.is (dt_not (dt_of (de_all (bs := ((List.range n).flatMap fun a => (List.range n).map (m a)).map fun _ => true) rfl (da_cons (DE.is (de_of_do (do_lc2 (List.range n) (fun a => lN ((List.range n).map (m a))) [2] (fun a => [lN ((List.range n).map (m a))]) (fun a => (List.range n).map (m a)) nI [3] (fun z => [nI z]) (fun _ _ => true) (fun _ _ => .bl true) [("row", 2), ("entry", 3)] [3] nd (blkOk_by (N := N_table_fault) (sc := defScope s_table_fault) (by decide +kernel)) (di_list (de_var 0)) ?_ ?_ ?_ ?_ ?_ ?_)) ?_) da_nil) T.nAll))) ?_) (fun h => nomatch h) fun _ => dss_nil ?_)
  · rw [flat_mapc, List.length_range]
    have : n * n ≤ 1000 * 1000 := Nat.mul_le_mul (by omega) (by omega)
    omega
  · exact fun _ _ _ _ _ z _ => dg_name 2 nd
  · exact fun _ _ _ _ _ z _ => di_list (de_var 2)
  · exact fun _ _ _ _ _ z _ y _ => dg_name 3 nd
  · exact fun _ _ _ _ _ z _ y _ => dts_nil
  · intro _ _ _ _ _ z hz y hy _
    obtain ⟨q, hq, rfl⟩ := List.mem_map.mp hy
    have h1 := g.cl z q (List.mem_range.mp hz) (List.mem_range.mp hq)
    exact DE.is (de_chain op_le op_lt rd_le rd_lt de_int (de_var 3) (de_var 1)) (by
      have h2 : (0 : Int) ≤ (m z q : Nat) := by omega
      have h3 : ((m z q : Nat) : Int) < (n : Nat) := by omega
      simp [h2, h3])
  · have ft : ∀ l : List Nat, l.filter (fun _ => true) = l := fun l => List.filter_eq_self.mpr fun _ _ => rfl
    simp [ft, List.map_flatMap, Function.comp_def]
  · simp
  -- the identity
  refine dss_cons (ds_if (k := false) (DT.is (dt_pw (dw_or (dt_cmp (op_neD hr.units) (rd_neL (ns := ((List.range n).map (m 0)).map Int.ofNat) (ms := (List.range n).map Int.ofNat)) (DE.is (de_of_do (do_listL (da_cons (de_row (tp := false) (i := 0) (de_var 0) de_int hpos) da_nil) T.nList)) (lN_lI _)) (DE.is (de_of_do (do_listR (de_var 1) (by omega) T.nList T.nRange)) (lN_lI _)) (nomark _)) fun _ =>
    dw_or1 (dt_cmp (op_neD hr.units) (rd_neL (ns := ((List.range n).map fun a => m a 0).map Int.ofNat) (ms := (List.range n).map Int.ofNat)) (DE.is (de_of_do (do_lc0 (List.range n) (fun a => lN ((List.range n).map (m a))) [2] (fun a => [lN ((List.range n).map (m a))]) (fun a => nI (m a 0)) [("row", 2)] nd (blkOk_by (N := N_table_fault) (sc := defScope s_table_fault) (by decide +kernel)) (di_list (de_var 0)) ?_ ?_ ?_)) ?_) (DE.is (de_of_do (do_listR (de_var 1) (by omega) T.nList T.nRange)) (lN_lI _)) (nomark _)))) ?_) (fun h => nomatch h) fun _ => dss_nil ?_)
  · rw [List.length_range]; omega
  · exact fun _ _ _ _ _ z _ => dg_name 2 nd
  · exact fun _ _ _ _ _ z _ => de_cell (tp := false) (i := z) (j := 0) (de_var 2) de_int hpos
  · rw [← lN_lI]; simp only [lN, List.map_map]; rfl
  · have e1 : (List.range n).map (m 0) = List.range n := by
      rw [List.map_congr_left (g := id) fun a ha => g.l0 a (List.mem_range.mp ha)]; simp
    have e2 : ((List.range n).map fun a => m a 0) = List.range n := by
      rw [List.map_congr_left (g := id) fun a ha => g.r0 a (List.mem_range.mp ha)]; simp
    rw [e1, e2]; simp
  -- the columns
  refine dss_cons (ds_setLc 4 (List.range n) nI [5] (fun a => [nI a]) (fun _ => true) (fun q => lN ((List.range n).map fun a => m a q)) [("at", 5), ("row", 2)] nd (blkOk_by (N := N_table_fault) (sc := defScope s_table_fault) (by decide +kernel)) (DI.is (di_range1 (de_var 1) T.nRange (by omega)) (by simp [nI])) ?_ ?_ (fun _ _ _ _ _ _ _ => dts_nil) ?_ ?_)
  · rw [List.length_range]; omega
  · exact fun _ _ _ _ _ z _ => dg_name 5 nd
  · intro s H C cl fp z hz _
    refine DE.is (de_of_do (do_lc0 (List.range n) (fun a => lN ((List.range n).map (m a))) [2] (fun a => [lN ((List.range n).map (m a))]) (fun a => nI (m a z)) [("row", 2)] nd ?_ (di_list (de_var 0)) ?_ ?_ ?_)) ?_
    · exact blkOk_by (by kernel_rfl)
    · rw [List.length_range]; omega
    · exact fun _ _ _ _ _ y _ => dg_name 2 nd
    · exact fun _ _ _ _ _ y _ => de_cell (tp := false) (i := y) (j := z) (de_var 2) (de_var 5) (List.mem_range.mp hz)
    · simp only [lN, List.map_map]; rfl
  rw [List.filter_eq_self.mpr fun _ _ => rfl]
  refine dss_freeze 4 ?_
  -- no entry twice
  refine dss_cons (ds_if (k := false) (DT.is (dt_not (dt_of (de_all (bs := ((List.range n).map (fun a => (List.range n).map (m a)) ++ (List.range n).map fun q => (List.range n).map fun a => m a q).map fun _ => true) rfl (da_cons (DE.is (de_of_do (do_lc0 ((List.range n).map (fun a => (List.range n).map (m a)) ++ (List.range n).map fun q => (List.range n).map fun a => m a q) lN [6] (fun l => [lN l]) (fun _ => .bl true) [("line", 6)] nd (blkOk_by (N := N_table_fault) (sc := defScope s_table_fault) (by decide +kernel)) (DI.is (di_list (de_of_do (do_cat (de_of_do (do_listL (da_cons (de_var 0) da_nil) T.nList)) (de_var 4) ?_))) ?_) ?_ ?_ ?_)) ?_) da_nil) T.nAll))) ?_) (fun h => nomatch h) fun _ => dss_nil ?_)
  · rw [List.length_map, List.length_map, List.length_range]; omega
  · rw [List.map_append, List.map_map, List.map_map]; rfl
  · rw [List.length_append, List.length_map, List.length_map, List.length_range]; omega
  · exact fun _ _ _ _ _ z _ => dg_name 6 nd
  · intro _ _ _ _ _ z hz
    have hz2 : z.Nodup ∧ z.length = n := by
      rcases List.mem_append.mp hz with h | h
      · obtain ⟨a, ha, rfl⟩ := List.mem_map.mp h
        exact ⟨nodup_mapOn (fun x hx y hy e => g.canL (List.mem_range.mp ha) (List.mem_range.mp hx) (List.mem_range.mp hy) e) List.nodup_range, by simp⟩
      · obtain ⟨a, ha, rfl⟩ := List.mem_map.mp h
        exact ⟨nodup_mapOn (fun x hx y hy e => g.canR (List.mem_range.mp ha) (List.mem_range.mp hx) (List.mem_range.mp hy) e) List.nodup_range, by simp⟩
    refine DE.is (de_cmp op_eq rd_eqI (de_lenSet (ns := z.map Int.ofNat) (DE.is (de_var 6) (lN_lI z)) ?_ ?_ T.nLen T.nSet) (de_var 1) (nomark _)) ?_
    · exact nodup_mapOn (fun x _ y _ e => by cases e; rfl) hz2.1
    · rw [List.length_map, hz2.2]; omega
    · rw [List.length_map, hz2.2]; simp
  · rw [List.map_map]; rfl
  · simp
  refine dss_cons (ds_if (k := false) (DT.is (dt_not (dt_of (de_call O hr (da_cons (de_var 0) da_nil) ⟨n, m, rfl, by omega, g, rfl⟩))) rfl) (fun h => nomatch h) fun _ => dss_nil ?_)
  exact dss_one (ds_ret de_str rfl)
end
end DL
set_option maxHeartbeats 4000000
namespace DL
open PySem PySem.Spec PyProof.Rows L2
/-! ### tuples that are known to the object -/
section
variable {X : Cx}
theorem call_tupX : CallR X (.type "tuple") (fun xs H Q => ∃ p ys, xs = [.ref p] ∧ SqL X.K H p ys ∧ ∀ l o, H l = none → o.dict = none → Q (.ref l) (upd H l (.frz o (.tup ys)))) := by
  intro pins s σ H xs us Q I r h
  obtain ⟨p, ys, rfl, hq, q⟩ := h
  obtain ⟨u, rfl, rx⟩ := vals1 r
  cases rx
  obtain ⟨its, r', pl, hz⟩ := I.list hq
  have hlen := r'.length
  refine call_tuple_list pl.isList (fun h' kp => ?_) (by simp only [List.size_toArray] <;> omega)
  have I1 : Inv X pins σ H { s with heap := h' } := I.kept (t' := s.toks) kp
  exact ⟨.ref h'.objs.size, _, I1.laid (t' := s.toks) (a := h'.objs.size) (o := .frz { cls := .type "tuple", data := .seq its.toArray } (.tup ys)) (fun b o e => Heap.get?_push_of_some _ e) (Nat.le_refl _) ⟨Heap.get?_push_size _ rfl, hz, its, r', IsTup.new _ _⟩, rfl, q _ _ (I1.hok.fresh (Nat.le_refl _)) rfl⟩
theorem pe_tupRgX {e : Expr} {te : L2.St → Hp → (Int → Int → Hp → Prop) → Prop} {p pos : Pos} (hc : X.calm = true) (hg : Gl X "tuple") (hm : X.mg "tuple" = none) (he : PRg X e te) (na : starEach [e] X.env = (false, eval e X.env) :: starEach [] X.env := by rfl) :
    PE X (.Call (.Name "tuple" p) [e] [] pos) (fun σ H Q => te σ H fun a b H1 => RgOk a b ∧ ∀ q o, H1 q = none → o.dict = none → Q (.ref q) (upd H1 q (.frz o (.tup (rgV a b))))) := by
  refine ⟨fun pins s σ H Q I h => ?_⟩
  refine Call_ (ld_blt I hg hm boot_tuple (PyProof.Rows.callWith_type1 (PyProof.Rows.args_cons (thn (he pins s σ H _ I h) fun x s1 ⟨r, a, b, t, u, v, H1, ex, hr, I1, ok, q⟩ => PyProof.Rows.args_nil ?_) na) na))
  subst ex
  obtain ⟨b1, b2, b3, b4, b5⟩ := ok
  refine call_tuple_range (n := (b - a).toNat) (I1.ok.hd hc) hr (small_one b1 b2 b3 b4) (rangeSize_nat a b) b5 fun h' tk acc hk hi => ?_
  have I2 : Inv X pins σ H1 { s1 with heap := h', toks := tk } := I1.kept hk
  exact ⟨.ref h'.objs.size, _, I2.laid (t' := tk) (a := h'.objs.size) (o := .frz { cls := .type "tuple", data := .seq acc } (.tup (rgV a b))) (fun c o e => Heap.get?_push_of_some _ e) (Nat.le_refl _) ⟨Heap.get?_push_size _ rfl, by rw [rgV_length, sizeLine_eq]; omega, acc.toList, vals_rg hi, by have := IsTup.new h' acc; rw [Array.toArray_toList]; exact this⟩, rfl, q _ _ (I2.hok.fresh (Nat.le_refl _)) rfl⟩
/-- t.index(k), t of ints -/
theorem mt_tup_indexI : MtR X "tuple.index" (fun x xs H Q => ∃ p, ∃ ys : List Int, ∃ z j, x = .ref p ∧ xs = [.int z] ∧ SqT X.K H p (ys.map V.int) ∧ ys[j]? = some z ∧ (∀ m, m < j → ys[m]? ≠ some z) ∧ Q (.int (j : Nat)) H) := by
  intro pins s σ H x xs v us Q I rx rs h
  obtain ⟨p, ys, z, j, rfl, rfl, hq, hy, hno, q⟩ := h
  cases rx
  obtain ⟨u, rfl, t, rfl⟩ := vals1 rs
  obtain ⟨its, r, pl, hz⟩ := I.tuple hq
  obtain ⟨⟨cls, dd, dt, sl⟩, ho, hc, n, hd⟩ := pl
  simp only at hc hd
  subst hc
  subst hd
  have hl : its.toArray.size = ys.length := by rw [List.size_toArray, ← r.length, List.length_map]
  have hj : j < its.toArray.size := by rw [hl]; exact (List.getElem?_eq_some_iff.mp hy).1
  have at' : ∀ (m : Nat) (hm : m < its.toArray.size), ∃ y t', ys[m]? = some y ∧ its.toArray[m] = Value.int y t' := fun m hm => by
    have hm' : m < ys.length := by rw [← hl]; exact hm
    obtain ⟨w, hw, t', hw'⟩ := r.get (i := m) (x := .int ys[m]) (by simp [hm'])
    refine ⟨ys[m], t', List.getElem?_eq_getElem hm', ?_⟩
    have e := (List.getElem?_eq_some_iff.mp hw).2
    rw [← hw', ← e]
    simp
  refine call_meets PySem.F.slot_tuple_index ⟨_, ho, rfl⟩ PySem.F.entry_tuple_index (PySem.F.args_tuple_index_2 _ _) (TI.tuple_indexAt p its.toArray n dd sl (.int z t) (eqU (.int z)) j hj ?_ ?_)
    ⟨ho, fun w hw => mem_eqAt (x := .int z) ⟨t, rfl⟩ rfl r (flat_ints ys) w (by simpa using hw), ⟨.int (j : Nat), H, I.tok _, ⟨_, rfl⟩, q⟩⟩
  · obtain ⟨y, t', h1, h2⟩ := at' j hj
    rw [hy] at h1
    cases h1
    rw [h2]
    show (z == z) = true
    exact beq_self_eq_true z
  · intro m hm hmj
    obtain ⟨y, t', h1, h2⟩ := at' m hm
    rw [h2]
    show (y == z) = false
    exact beq_eq_false_iff_ne.mpr fun e => hno m hmj (e ▸ h1)
end
/-! ### weaker data -/
mutual
inductive Wd : D → D → Prop
  | refl (d : D) : Wd d d
  | tupx {ds es : List D} : WdL ds es → Wd (.tupx ds) (.tup es)
  | tupk {ds es : List D} : WdL ds es → Wd (.tupk ds) (.tup es)
  | tup {ds es : List D} : WdL ds es → Wd (.tup ds) (.tup es)
  | lst {ds es : List D} : WdL ds es → Wd (.lst ds) (.lst es)
inductive WdL : List D → List D → Prop
  | nil : WdL [] []
  | cons {d e : D} {ds es : List D} : Wd d e → WdL ds es → WdL (d :: ds) (e :: es)
end
mutual
theorem Rep.weak {K : PySem.W.Frag} {Z : Hp} : ∀ {v : V} {d e : D}, Wd d e → Rep K Z v d → Rep K Z v e
  | _, _, _, .refl _, r => r
  | _, _, _, .tupx w, .tupx h _ r => .tup (.inr ⟨_, h⟩) (RepL.weak w r)
  | _, _, _, .tupk w, .tupk h r => .tup (.inl h) (RepL.weak w r)
  | _, _, _, .tup w, .tup h r => .tup h (RepL.weak w r)
  | _, _, _, .lst w, .lst h r => .lst h (RepL.weak w r)
theorem RepL.weak {K : PySem.W.Frag} {Z : Hp} : ∀ {vs : List V} {ds es : List D}, WdL ds es → RepL K Z vs ds → RepL K Z vs es
  | _, _, _, .nil, r => r
  | _, _, _, .cons w ws, .cons h r => .cons (Rep.weak w h) (RepL.weak ws r)
end
theorem WdL.refl : ∀ ds : List D, WdL ds ds
  | [] => .nil
  | d :: ds => .cons (.refl d) (WdL.refl ds)
theorem WdL.map {α : Type} {f g : α → D} (h : ∀ x, Wd (f x) (g x)) : ∀ xs : List α, WdL (xs.map f) (xs.map g)
  | [] => .nil
  | x :: xs => .cons (h x) (WdL.map h xs)
theorem wd_x (ds : List D) : Wd (.tupx ds) (.tup ds) := .tupx (WdL.refl ds)
section
variable {X : Cx} {e a b c o : Expr} {es : List Expr} {ρ : List Sl} {pos p p2 q2 apos cpos : Pos} {n i j : Nat} {d d' : D} {ds : List D}
theorem DE.weak (h : DE X e ρ d) (w : Wd d d') : DE X e ρ d' := fun E Z H σ S Q q => h E Z H σ S Q fun v Z' H' g r => q v Z' H' g (r.weak w)
theorem de_tupxL (ha : DA X (e :: es) ρ [.lst ds]) (hm : X.mg "tuple" = none) (hg : Gl X "tuple" := by rfl) (he : starEach (e :: es) X.env = (false, eval e X.env) :: starEach es X.env := by rfl) (hpl : (backTo pos (starEach es X.env)).any (·.1) = false := by rfl) : DE X (.Call (.Name "tuple" p) (e :: es) [] pos) ρ (.tupx ds) :=
  de_callTy call_tupX (fun vs Z H zh tb r Q q => by
    obtain ⟨v, rfl, r1⟩ := rc_one r
    cases r1 with
    | lst hz rl => exact ⟨_, _, rfl, SqL.of (zh _ _ hz), fun l o hl ho => q _ _ _ ((Gr.refl zh tb).new hl) (.tupx upd_same ho (rl.mono (Ex.new (zh.free hl))))⟩) hm ha (by decide +kernel) hg (by decide) (by decide) he hpl
theorem de_tupxR (ha : DE X a ρ (nI n)) (hn : n ≤ 16777216) (hm : X.mg "tuple" = none) (hm2 : X.mg "range" = none) (hc : X.calm = true := by rfl) (hg : Gl X "tuple" := by rfl) (hg2 : Gl X "range" := by rfl) (na : starEach [a] X.env = (false, eval a X.env) :: starEach [] X.env := by rfl)
    (na2 : starEach [.Call (.Name "range" p2) [a] [] q2] X.env = (false, eval (.Call (.Name "range" p2) [a] [] q2) X.env) :: starEach [] X.env := by rfl) : DE X (.Call (.Name "tuple" p) [.Call (.Name "range" p2) [a] [] q2] [] pos) ρ (.tupx ((List.range n).map nI)) := fun E Z H σ S Q q =>
  we_pe (pe_tupRgX hc hg hm (prg_1 hg2 hm2 pe_we na) na2) (ha E Z H σ S _ fun v Z1 H1 g1 r1 => by
    cases r1
    refine ⟨_, rfl, RgOk.of_le (by omega) (by omega) (by omega) (by omega), fun p o hp ho => ?_⟩
    exact q _ _ _ (g1.new hp) (.tupx upd_same ho (by rw [rgV_nat]; exact repN _)))
/-- t.index(k) -/
theorem de_indexX {ns : List Int} {k : Int} (ho : DE X o ρ (.tupx (ns.map .int))) (he : DE X e ρ (.int k)) (hj : ns[j]? = some k) (hno : ∀ q, q < j → ns[q]? ≠ some k)
    (hbase : attributeBase o "index" X.env (eval o X.env) = eval o X.env := by rfl)
    (hfew : ((backTo cpos (starEach (e :: []) X.env)).all (fun x => !x.1) && (backToKw cpos (keywordEach [] X.env)).all (fun x => x.1.isSome)
      && decide ((e :: []).length + ([] : List Keyword).length + (if ([] : List Keyword).isEmpty then 0 else 1) < 30)) = true := by rfl)
    (hline : (apos.endLine == cpos.line) = true := by rfl) (hs : starEach (e :: []) X.env = (false, eval e X.env) :: starEach [] X.env := by rfl) (hplain : (backTo cpos (starEach [] X.env)).any (·.1) = false := by rfl) :
    DE X (.Call (.Attribute o "index" apos) [e] [] cpos) ρ (.int j) := fun E Z H σ S Q q => by
  intro pins s I
  refine wpAny_Call_method_late hbase hfew hline rfl (thn (ho E Z H σ S (fun v H1 => ∃ Z1, G X.K Z H Z1 H1 ∧ Rep X.K Z1 v (.tupx (ns.map .int))) (fun v Z1 H1 g r => ⟨Z1, g, r⟩) pins s I) fun v s1 ⟨x, H1, I1, r1, Z1, g1, rp⟩ => ?_)
  cases rp with
  | tupx hz hd rl =>
    rename_i a ob us
    obtain rfl : v = Value.ref a := r1
    have hz1 := g1.zh _ _ hz
    obtain ⟨e1, _, its, rv, o2, e2, e3, _⟩ := I1.hok _ _ hz1
    rw [e1] at e2; cases e2
    refine ⟨"tuple", "tuple.index", PySem.F.plainAttrs_tuple, PySem.F.slot_tuple_index, PySem.F.type_tuple_index, ⟨_, e1, e3⟩, fun b eb => by cases eb; exact ⟨_, e1, hd⟩, ?_⟩
    have hA := da_cons he da_nil hs E Z1 H1 σ (S.grow g1) (fun vs H2 => ∃ Z2, G X.K Z1 H1 Z2 H2 ∧ RepL X.K Z2 vs [.int k]) (fun vs Z2 H2 g r => ⟨Z2, g, r⟩) cpos pins s1 I1
    rw [hs] at hA ⊢
    refine Calls.callWith_builtin (by show (false || (backTo cpos (starEach [] X.env)).any (·.1)) = false; rw [hplain] <;> rfl) (Calls.evalArgs_plain ?_)
    refine thn hA fun vus s2 ⟨vs, H2, I2, r2, Z2, g2, rl2⟩ => ?_
    obtain ⟨v2, rfl, rk⟩ := rc_one rl2
    cases rk
    rw [rl.ints] at hz
    exact mt_tup_indexI pins s2 σ H2 (.ref a) [.int k] (.ref a) vus Q I2 rfl r2 ⟨a, ns, k, j, rfl, rfl, .inl (.inr ⟨_, g2.zh _ _ (g2.z _ _ hz)⟩), hj, hno, q _ Z2 H2 (g1.trans g2) .int⟩
end
end DL
set_option maxHeartbeats 4000000
namespace DL
open PySem PySem.Spec PyProof.Rows L2
/-! ### __init__ -/
section
variable {K : PySem.W.Frag} {E : Cfg} {Z H : Hp} {σ : L2.St} {ρ : List Sl}
/-- the instance that is being made is written -/
theorem St1.mutI (S : St1 K E Z H σ ρ) {a C dx : Addr} {vs vs' : List (Str × V)} (h : H a = some (.ins C dx vs)) (za : Z a = none) (f1 : Frsh E.B a) (f2 : Frsh E.B0 a) : St1 K E Z (upd H a (.ins C dx vs')) σ ρ := by
  have ext : ∀ {B : Hp}, LamX.ExtN B H → Frsh B a → LamX.ExtN B (upd H a (.ins C dx vs')) := fun {B} e f b o q n => by
    rw [upd_ne (f.ne q n)]; exact e b o q n
  refine ⟨⟨S.s.zh.mut za, ext S.s.bh f1, ext S.s.b0 f2, ?_, S.s.fr, S.s.z0, S.s.nz, S.s.len, fun i s q => ?_, S.s.ap⟩, S.t⟩
  · intro p hp
    obtain ⟨ps, a1, a2, a3⟩ := S.s.tb p hp
    refine ⟨ps, by rw [upd_ne (ne_of a1 h (by intro z; cases z))]; exact a1, a2, fun pos cv hc => ?_⟩
    obtain ⟨c, b1, b2⟩ := a3 pos cv hc
    exact ⟨c, b1, by rw [upd_ne (ne_of b2 h (by unfold LamX.CodeO; intro z; cases z))]; exact b2⟩
  · have w := S.s.at_ i s q
    cases s with
    | no => trivial
    | val d => exact w
    | raw v => exact w
    | own ds =>
      obtain ⟨l, xs, e, hl, r⟩ := w
      exact ⟨l, xs, e, by rw [upd_ne (ne_of hl h (by intro z; cases z))]; exact hl, r⟩
/-- the instance's fields so far -/
structure Ins (K : PySem.W.Frag) (E : Cfg) (a C dx : Addr) (Z H : Hp) (fs : List (Str × D)) : Prop where
  h : ∃ vs, H a = some (.ins C dx vs) ∧ RepF K Z vs fs ∧ vs.length < 1000
  z : Z a = none
  f1 : Frsh E.B a
  f2 : Frsh E.B0 a
theorem Ins.grow {a C dx : Addr} {fs : List (Str × D)} {Z' H' : Hp} {T : List (Addr × Str)} (I : Ins K E a C dx Z H fs) (g : Gr T Z H Z' H') : Ins K E a C dx Z' H' fs := by
  obtain ⟨vs, h, r, l⟩ := I.h
  refine ⟨⟨vs, g.h _ _ h (fun _ z => nomatch z), r.mono g.z, l⟩, ?_, I.f1, I.f2⟩
  cases q : Z' a with
  | none => rfl
  | some o =>
    rcases g.fr a (by rw [q]; exact fun z => nomatch z) with w | w
    · exact absurd I.z w
    · obtain ⟨ps, z⟩ := w _ h
      cases z
end
/-- the end of an __init__ -/
structure InsEnd (K : PySem.W.Frag) (E : Cfg) (a C dx : Addr) (Z H : Hp) (fs : List (Str × D)) : Prop where
  i : Ins K E a C dx Z H fs
  zh : Ex Z H
  z0 : Ex E.Z0 Z
  b0 : LamX.ExtN E.B0 H
  tb : LamX.Tabs (tabs K) H
  fr : ∀ a, Z a ≠ none → E.Z0 a ≠ none ∨ Frsh E.B0 a
  nz : NoT Z
/-- statements that set the instance's fields -/
def DIs (X : Cx) (a C dx : Addr) (sts : List Stmt) (ρ : List Sl) (fs ends : List (Str × D)) : Prop := ∀ E Z H σ, St1 X.K E Z H σ ρ → Ins X.K E a C dx Z H fs → WSs X sts { nx := fun _ H' => ∃ Z', InsEnd X.K E a C dx Z' H' ends, rt := fun _ _ => False } σ H
theorem repF_len {K : PySem.W.Frag} {Z : Hp} : ∀ {vs : List (Str × V)} {fs : List (Str × D)}, RepF K Z vs fs → vs.length = fs.length
  | _, _, .nil => rfl
  | _, _, .cons _ r => congrArg (· + 1) (repF_len r)
section
variable {X : Cx} {e : Expr} {ρ : List Sl} {pos p pos' : Pos} {a C dx : Addr} {d : D} {sts : List Stmt} {fs ends : List (Str × D)} {x f : Str}
theorem putF_rep {K : PySem.W.Frag} {Z : Hp} {v : V} : ∀ {vs : List (Str × V)} {fs : List (Str × D)}, RepF K Z vs fs → Rep K Z v d → fs.lookup f = none → RepF K Z (putF f v vs) (fs ++ [(f, d)]) ∧ (putF f v vs).length = vs.length + 1
  | [], _, r, rv, _ => by cases r; exact ⟨.cons rv .nil, rfl⟩
  | (y, u) :: vs, _, r, rv, hn => by
    cases r with
    | cons hu r =>
      rename_i d' ds
      rw [List.lookup_cons] at hn
      cases e : f == y with
      | true => simp only [e] at hn; cases hn
      | false =>
        simp only [e] at hn
        have ne : ¬ y = f := fun z => by rw [z] at e; simp at e
        have := putF_rep r rv hn
        show RepF K Z (if y = f then (y, v) :: vs else (y, u) :: putF f v vs) _ ∧ (if y = f then (y, v) :: vs else (y, u) :: putF f v vs).length = _
        rw [if_neg ne]
        exact ⟨.cons hu this.1, by rw [List.length_cons, this.2]; rfl⟩
theorem dis_nil : DIs X a C dx [] ρ fs fs := fun E Z H σ S I => wss_pss pss_nil ⟨Z, I, S.s.zh, S.s.z0, S.s.b0, by rw [← S.t]; exact S.s.tb, S.s.fr, S.s.nz⟩
/-- the instance lies in the zone for a while -/
theorem St1.putI {K : PySem.W.Frag} {E : Cfg} {Z H : Hp} {σ : L2.St} (S : St1 K E Z H σ ρ) (h0 : ρ[0]? = some (.raw (.ref a))) {vs : List (Str × V)} (ha : H a = some (.ins C dx vs)) (za : Z a = none) (f2 : Frsh E.B0 a) (r : RepF K Z vs fs) : St1 K E (upd Z a (.ins C dx vs)) H σ (ρ.set 0 (.val (.obj C fs))) := by
  have ez : Ex Z (upd Z a (.ins C dx vs)) := Ex.new za
  have hi : 0 < ρ.length := (List.getElem?_eq_some_iff.mp h0).1
  have hs : σ[0]? = some (some (.ref a)) := S.s.at_ 0 _ h0
  have key : ∀ (j : Nat) (ds' : List D), (ρ.set 0 (.val (.obj C fs)))[j]? = some (.own ds') → j ≠ 0 ∧ ρ[j]? = some (.own ds') := fun j ds' q => by
    by_cases hj : 0 = j
    · subst hj; rw [List.getElem?_set_self hi] at q; cases q
    · rw [List.getElem?_set_ne hj] at q; exact ⟨Ne.symm hj, q⟩
  refine ⟨⟨fun b o e => ?_, S.s.bh, S.s.b0, S.s.tb, fun b e => ?_, S.s.z0.trans ez, S.s.nz.upd (fun _ z => nomatch z), by simpa using S.s.len, fun j s q => ?_, fun j k ds' es' l' hjk q1 q2 q3 => ?_⟩, S.t⟩
  · by_cases hb : b = a
    · subst hb; rw [upd_same] at e; cases e; exact ha
    · rw [upd_ne hb] at e; exact S.s.zh b o e
  · by_cases hb : b = a
    · subst hb; exact .inr f2
    · rw [upd_ne hb] at e; exact S.s.fr b e
  · by_cases hj : 0 = j
    · subst hj
      rw [List.getElem?_set_self hi] at q; cases q
      exact ⟨_, hs, .obj upd_same (r.mono ez)⟩
    · rw [List.getElem?_set_ne hj] at q
      have w := S.s.at_ j s q
      cases s with
      | no => trivial
      | val d => obtain ⟨v, e, rv⟩ := w; exact ⟨v, e, rv.mono ez⟩
      | raw v => exact w
      | own es' =>
        obtain ⟨l2, xs2, c1, c2, c3, c4, c5, c6⟩ := w
        have ne : l2 ≠ a := fun z => by
          subst z
          rw [c2] at ha; cases ha
        refine ⟨l2, xs2, c1, c2, ?_, c4, c5, c6.mono ez⟩
        rw [upd_ne ne]; exact c3
  · obtain ⟨_, w1⟩ := key j _ q1
    obtain ⟨_, w2⟩ := key k _ q2
    exact S.s.ap j k ds' es' l' hjk w1 w2 q3
/-- what has been made while the instance lay in the zone: a tuple of ints is taken out alone -/
theorem put_back {K : PySem.W.Frag} {Z H Z' H' : Hp} {vs : List (Str × V)} {ns : List Nat} {v : V} (za : Z a = none) (zh : Ex Z H) (g : G K (upd Z a (.ins C dx vs)) H Z' H') (rv : Rep K Z' v (tN ns)) : ∃ Z2, G K Z H Z2 H' ∧ Z2 a = none ∧ Rep K Z2 v (tN ns) := by
  cases rv with
  | tup hz rl =>
    rename_i t us
    have rl' : RepL K Z' us ((ns.map Int.ofNat).map D.int) := by rw [← mapN]; exact rl
    have eu := rl'.ints
    have zz : Ex Z Z' := (Ex.new za).trans g.z
    have e2 : Z' a = some (.ins C dx vs) := g.z a _ upd_same
    have rep : ∀ Z2, RepL K Z2 us (ns.map nI) := fun Z2 => by rw [eu]; exact repN _
    have fin : ∀ o, Z' t = some o → (∀ Z2 : Hp, Z2 t = some o → Rd Z2 t (.tup us)) → t ≠ a → (∀ ps, o ≠ .tbl ps) → ∃ Z2, G K Z H Z2 H' ∧ Z2 a = none ∧ Rep K Z2 (.ref t) (tN ns) := fun o ho rd hta hnt => by
      by_cases zt : Z t = none
      · have ft : Frsh H t := by
          rcases g.fr t (by rw [ho]; exact fun z => nomatch z) with w | w
          · rw [upd_ne hta] at w; exact absurd zt w
          · exact w
        refine ⟨upd Z t o, ⟨Ex.new zt, g.h, fun b u hb => ?_, g.tb, fun b hb => ?_, fun nz => nz.upd hnt⟩, ?_, .tup (rd _ upd_same) (rep _)⟩
        · by_cases hba : b = t
          · subst hba; rw [upd_same] at hb; cases hb; exact g.zh _ _ ho
          · rw [upd_ne hba] at hb; exact g.zh _ _ (zz _ _ hb)
        · by_cases hba : b = t
          · subst hba; exact .inr ft
          · rw [upd_ne hba] at hb; exact .inl hb
        · rw [upd_ne (Ne.symm hta)]; exact za
      · obtain ⟨u, hu⟩ := Option.ne_none_iff_exists'.mp zt
        have : u = o := by have := zz _ _ hu; rw [ho] at this; exact (Option.some.inj this).symm
        subst this
        exact ⟨Z, ⟨Ex.refl _, g.h, zz.trans g.zh, g.tb, fun b w => .inl w, id⟩, za, .tup (rd _ hu) (rep _)⟩
    rcases hz with h | ⟨o, h⟩
    · exact fin _ h (fun Z2 q => .inl q) (fun z => by subst z; rw [e2] at h; cases h) (fun ps z => nomatch z)
    · exact fin _ h (fun Z2 q => .inr ⟨o, q⟩) (fun z => by subst z; rw [e2] at h; cases h) (fun ps z => nomatch z)
/-- the store -/
theorem ins_set {K : PySem.W.Frag} {E : Cfg} {Z H : Hp} {σ : L2.St} {v : V} (S : St1 K E Z H σ ρ) (I : Ins K E a C dx Z H fs) (rv : Rep K Z v d) (hn : fs.lookup f = none) (hl : fs.length < 999) : ∃ vs, H a = some (.ins C dx vs) ∧ vs.length < 1000 ∧ St1 K E Z (upd H a (.ins C dx (putF f v vs))) σ ρ ∧ Ins K E a C dx Z (upd H a (.ins C dx (putF f v vs))) (fs ++ [(f, d)]) := by
  obtain ⟨vs, h, r, l⟩ := I.h
  have lv := repF_len r
  obtain ⟨p1, p2⟩ := putF_rep r rv hn
  exact ⟨vs, h, l, S.mutI h I.z I.f1 I.f2, ⟨_, upd_same, p1, by rw [p2, lv]; omega⟩, I.z, I.f1, I.f2⟩
theorem dis_cons {self : Str} (hd : DE X e ρ d) (hn : fs.lookup f = none) (hl : fs.length < 999) (c : Cls X.K C) (n : NoAttr X.K C f) (h0 : ρ[0]? = some (.raw (.ref a))) (k : DIs X a C dx sts ρ (fs ++ [(f, d)]) ends)
    (hs : swapsWith e (some (.Attribute (.Name self p) f pos')) pos.line X.env = pure false := by rfl) (hN : X.N[0]? = some self := by rfl) (hv : Vis X.env.scope self := by first | exact Or.inl rfl | exact Or.inr (Or.inl rfl) | exact Or.inr (Or.inr rfl))
    (hdb : (self == ("__debug__" : Str)) = false := by decide) (hcd : (self == ("__classdict__" : Str)) = false := by decide) : DIs X a C dx (.Assign [.Attribute (.Name self p) f pos'] e pos :: sts) ρ fs ends := fun E Z H σ S I => by
  refine wss_pss (pss_cons (ps_fld (pe_var hN hv hdb hcd) pe_we hs) pss_wss) (hd E Z H σ S _ fun v Z1 H1 g1 r1 => ?_)
  obtain ⟨vs, e1, e2, S2, I2⟩ := ins_set (S.grow g1) (I.grow g1) r1 hn hl
  exact ⟨_, S.s.at_ 0 _ h0, a, C, dx, vs, rfl, e1, c, n, e2, k E Z1 _ σ S2 I2⟩
/-- the value is read off the instance itself -/
theorem dis_consL {self : Str} {ns : List Nat} (hd : DE X e (ρ.set 0 (.val (.obj C fs))) (tN ns)) (hn : fs.lookup f = none) (hl : fs.length < 999) (c : Cls X.K C) (n : NoAttr X.K C f) (h0 : ρ[0]? = some (.raw (.ref a))) (k : DIs X a C dx sts ρ (fs ++ [(f, tN ns)]) ends)
    (hs : swapsWith e (some (.Attribute (.Name self p) f pos')) pos.line X.env = pure false := by rfl) (hN : X.N[0]? = some self := by rfl) (hv : Vis X.env.scope self := by first | exact Or.inl rfl | exact Or.inr (Or.inl rfl) | exact Or.inr (Or.inr rfl))
    (hdb : (self == ("__debug__" : Str)) = false := by decide) (hcd : (self == ("__classdict__" : Str)) = false := by decide) : DIs X a C dx (.Assign [.Attribute (.Name self p) f pos'] e pos :: sts) ρ fs ends := fun E Z H σ S I => by
  obtain ⟨vs0, q1, q2, q3⟩ := I.h
  refine wss_pss (pss_cons (ps_fld (pe_var hN hv hdb hcd) pe_we hs) pss_wss) (hd E _ H σ (S.putI h0 q1 I.z I.f2 q2) _ fun v Z1 H1 g1 r1 => ?_)
  obtain ⟨Z2, g2, _, r2⟩ := put_back I.z S.s.zh g1 r1
  obtain ⟨vs, e1, e2, S2, I2⟩ := ins_set (S.grow g2) (I.grow g2) r2 hn hl
  exact ⟨_, S.s.at_ 0 _ h0, a, C, dx, vs, rfl, e1, c, n, e2, k E Z2 _ σ S2 I2⟩
end
/-- the slots at the entry of an __init__ -/
def slI (N : List Str) (a : Addr) (ds : List D) : List Sl := .raw (.ref a) :: ds.map .val ++ List.replicate (N.length - (ds.length + 1)) .no
/-- H without a -/
def less (H : Hp) (a : Addr) : Hp := fun b => if b = a then none else H b
section
variable {P : Program} {w : World} {K : PySem.W.Frag} {mg : Str → Option Value} {base : Heap} {x m qual : Str} {st : Stmt} {f C : Addr} {fd : FuncData} {N ps : List Str} {k : Nat}
theorem repI_at {K : PySem.W.Frag} {Z : Hp} {vs : List V} {ds : List D} {a : Addr} (r : RepL K Z vs ds) (N : List Str) (i : Nat) (s : Sl) (h : (slI N a ds)[i]? = some s) (E : Cfg) (H : Hp) : SlOk K E Z H (L2.start N (.ref a :: vs))[i]? s := by
  cases i with
  | zero => cases h; rfl
  | succ i =>
    unfold slI at h
    unfold L2.start
    rw [List.cons_append, List.getElem?_cons_succ] at h
    rw [List.map_cons, List.cons_append, List.getElem?_cons_succ]
    by_cases hi : i < ds.length
    · rw [List.getElem?_append_left (by simpa using hi), List.getElem?_map] at h
      obtain ⟨d, hd, e⟩ := Option.map_eq_some_iff.mp h
      subst e
      obtain ⟨v, hv, rv⟩ := r.get hd
      refine ⟨v, ?_, rv⟩
      rw [List.getElem?_append_left (by rw [List.length_map, r.length]; exact hi), List.getElem?_map, hv]; rfl
    · rw [List.getElem?_append_right (by simpa using hi)] at h
      have := List.eq_of_mem_replicate (List.mem_of_getElem? h)
      subst this
      trivial
theorem st1_startI {K : PySem.W.Frag} {Z H : Hp} {vs : List V} {ds : List D} {a : Addr} (N : List Str) (zh : Ex Z H) (nz : NoT Z) (tb : LamX.Tabs (tabs K) H) (r : RepL K Z vs ds) : St1 K ⟨tabs K, Z, H, H⟩ Z H (L2.start N (.ref a :: vs)) (slI N a ds) :=
  ⟨⟨zh, LamX.ExtN.refl _, LamX.ExtN.refl _, tb, fun a h => .inl h, Ex.refl _, nz, by unfold L2.start slI; simp [r.length], fun i s h => repI_at r N i s h _ _, fun i j ds' es l _ h1 _ _ => by
    unfold slI at h1
    rcases List.mem_append.mp (List.mem_of_getElem? h1) with q | q
    · rcases List.mem_cons.mp q with q | q
      · cases q
      · obtain ⟨d, _, e⟩ := List.mem_map.mp q
        cases e
    · exact absurd (List.eq_of_mem_replicate q) (by intro z; cases z)⟩, rfl⟩
/-- the beginning of an __init__: plain statements -/
def DIp (X : Cx) (a C dx : Addr) (sts : List Stmt) (ρ : List Sl) (ends : List (Str × D)) : Prop := ∀ Z0 H0 Z H σ, H0 a = some (.ins C dx []) → Z0 a = none → XW X ⟨tabs X.K, Z0, H0, H0⟩ (fun _ => False) → St1 X.K ⟨tabs X.K, Z0, H0, H0⟩ Z H σ ρ →
  WSs X sts { nx := fun _ H' => ∃ Z', InsEnd X.K ⟨tabs X.K, Z0, less H0 a, less H0 a⟩ a C dx Z' H' ends, rt := fun _ _ => False } σ H
theorem dip_cons {X : Cx} {a dx : Addr} {sts : List Stmt} {ρ : List Sl} {ends : List (Str × D)} (h : DS X st ρ { nx := fun ρ' => DIp X a C dx sts ρ' ends, rt := fun _ => False }) : DIp X a C dx (st :: sts) ρ ends := fun Z0 H0 Z H σ ha za W S => by
  intro pins s I
  refine wpAny_execs_cons (thn (h _ Z H σ S W pins s I) fun f s1 q => ?_)
  cases f with
  | next =>
    obtain ⟨σ', H', I', Z', ρ', S', k⟩ := q
    exact k Z0 H0 Z' H' σ' ha za W S' pins s1 I'
  | ret v => obtain ⟨u, σ', H', I', r, _, _, _, k⟩ := q; exact k.elim
  | brk => obtain ⟨σ', H', I', _, _, _, k⟩ := q; exact k.elim
  | cont => obtain ⟨σ', H', I', _, _, _, k⟩ := q; exact k.elim
theorem dip_end {X : Cx} {a dx : Addr} {sts : List Stmt} {ρ : List Sl} {ends : List (Str × D)} (h : DIs X a C dx sts ρ [] ends) : DIp X a C dx sts ρ ends := fun Z0 H0 Z H σ ha za W S => by
  have lx : ∀ {B : Hp}, LamX.ExtN H0 B → LamX.ExtN (less H0 a) B := fun {B} e b o q n => by
    unfold less at q
    by_cases hb : b = a
    · rw [if_pos hb] at q; cases q
    · rw [if_neg hb] at q; exact e b o q n
  have lf : ∀ b, Frsh H0 b → Frsh (less H0 a) b := fun b f o q => by
    unfold less at q
    by_cases hb : b = a
    · rw [if_pos hb] at q; cases q
    · rw [if_neg hb] at q; exact f o q
  have la : less H0 a a = none := if_pos rfl
  refine h ⟨tabs X.K, Z0, less H0 a, less H0 a⟩ Z H σ ⟨⟨S.s.zh, lx S.s.bh, lx S.s.b0, S.s.tb, fun b hb => (S.s.fr b hb).imp id (lf b), S.s.z0, S.s.nz, S.s.len, fun i s q => ?_, S.s.ap⟩, rfl⟩ ⟨⟨[], S.s.b0 _ _ ha (fun _ z => nomatch z), .nil, by simp⟩, ?_, Frsh.none la, Frsh.none la⟩
  · have w := S.s.at_ i s q
    cases s with
    | no => trivial
    | val d => exact w
    | raw v => exact w
    | own es =>
      obtain ⟨l, xs, c1, c2, c3, c4, c5, c6⟩ := w
      exact ⟨l, xs, c1, c2, c3, lf _ c4, lf _ c5, c6⟩
  · cases q : Z a with
    | none => rfl
    | some o =>
      rcases S.s.fr a (by rw [q]; exact fun z => nomatch z) with w | w
      · exact absurd za w
      · obtain ⟨ps, z⟩ := w _ ha
        cases z
theorem init_ok {R : List D → List (Str × D) → Prop} (F : FunD K "__init__" qual (defArgs st) (defBody st) (defScope st) [] [] f fd) (S : FnScope N ps (defScope st)) (hm : mg x = some (.ref C)) (hM : Mk K C f) (len : ∀ ds r, R ds r → ds.length + 1 = ps.length)
    (hb : ∀ (kV doc pm : Value) (an : Option Addr) (cdv ct : Value) (us : List Value), us.length = ps.length → bindArgs (PySem.W.fnOf "__init__" qual (defArgs st) (defBody st) (defScope st) .none kV doc pm an cdv ct) ⟨us, []⟩ = pure (ps.zip us))
    (hbody : ∀ (cdv : Value) (A : Around) (outer : List Env) (s : Shared) (H : Hp) (E : XK), Room k (A.deeper (envOfC qual (defScope st) s.heap.objs.size f cdv)) → ∀ ds fs, R ds fs → ∀ a dx,
      DIp (cX P w K mg base N qual st f cdv A outer s H E) a C dx (defBody st) (slI N a ds) fs) : MakeOk P w K mg base x C (k + 1) R := by
  refine ⟨f, fd, ps, ?_, hm, hM, F.bindsN hb⟩
  refine F.ok S (fun vs H Q E ⟨Z, ds, fs, a, dx, vs', e, hR, _, _, _, rl, _⟩ => by rw [e, List.length_cons, rl.length]; exact len ds fs hR) fun cdv A outer s H vs Q E hr hsp => ⟨_, pss_wss, ?_⟩
  obtain ⟨Z, ds, fs, a, dx, vs', rfl, hR, zh, nz, tb, rl, ha, za, q⟩ := hsp
  have h := hbody cdv A outer s H E hr ds fs hR a dx Z H Z H _ ha za ⟨fun cls d _ H' => E cls d H', takes_of rfl rfl rfl rfl, fun C σ H' e => e.elim⟩ (st1_startI N zh nz tb rl)
  refine wss_mono h ?_ (fun _ _ z => z.elim) (fun _ _ z => z.elim) (fun _ _ z => z.elim)
  rintro σ' H' ⟨Z', I⟩
  obtain ⟨vf, e1, e2, e3⟩ := I.i.h
  have dec : ∀ b, Frsh (less H a) b → b = a ∨ Frsh H b := fun b fb => by
    by_cases hb : b = a
    · exact .inl hb
    · exact .inr fun o q => fb o (by unfold less; rw [if_neg hb]; exact q)
  refine q Z' H' vf I.z0 I.nz (fun b o hb hq hn => I.b0 b o (by show less H a b = _; unfold less; rw [if_neg hb]; exact hq) hn) I.zh I.tb (fun b hb => ?_) I.i.z e1 e2
  rcases I.fr b hb with z | z
  · exact .inl z
  · rcases dec b z with z | z
    · subst z; exact absurd I.i.z hb
    · exact .inr z
end
end DL
set_option maxHeartbeats 4000000
namespace DL
open PySem PySem.Spec PyProof.Rows L2
/-! ### Group -/
/-- the rows as they are kept: exact tuples -/
abbrev xTab (n : Nat) (m : Nat → Nat → Nat) : D := .tup ((List.range n).map fun a => .tupx (((List.range n).map (m a)).map nI))
theorem wd_tab (n : Nat) (m : Nat → Nat → Nat) : Wd (xTab n m) (tTab n m) := .tup (WdL.map (fun a => wd_x _) _)
def invN (n : Nat) (m : Nat → Nat → Nat) (a : Nat) : Nat := ((List.range n).map (m a)).findIdx (fun z => z == 0)
theorem Grp.invN_lt {n : Nat} {m : Nat → Nat → Nat} (g : Grp n m) {a : Nat} (h : a < n) : invN n m a < n := by
  obtain ⟨b, hb, e⟩ := g.iv a h
  have : invN n m a < ((List.range n).map (m a)).length := List.findIdx_lt_length_of_exists ⟨m a b, List.mem_map.mpr ⟨b, List.mem_range.mpr hb, rfl⟩, by rw [e]; rfl⟩
  simpa using this
theorem Grp.invN_eq {n : Nat} {m : Nat → Nat → Nat} (g : Grp n m) {a : Nat} (h : a < n) : m a (invN n m a) = 0 := by
  have hl := g.invN_lt h
  have hl' : ((List.range n).map (m a)).findIdx (fun z => z == 0) < ((List.range n).map (m a)).length := by
    rw [List.length_map, List.length_range]; exact hl
  have := List.findIdx_getElem (xs := (List.range n).map (m a)) (p := fun z => z == 0) (w := hl')
  simpa [invN] using this
theorem Grp.invN_no {n : Nat} {m : Nat → Nat → Nat} (g : Grp n m) {a q : Nat} (h : a < n) (hq : q < invN n m a) : m a q ≠ 0 := by
  have hl := g.invN_lt h
  have := List.not_of_lt_findIdx (xs := (List.range n).map (m a)) (p := fun z => z == 0) hq
  simpa using this
def gFs (n : Nat) (m : Nat → Nat → Nat) : List (Str × D) := [("rows", xTab n m), ("size", nI n), ("inverses", tN ((List.range n).map (invN n m)))]
abbrev gD (C : Addr) (n : Nat) (m : Nat → Nat → Nat) : D := .obj C (gFs n m)
structure GCls (K : PySem.W.Frag) (C : Addr) : Prop where
  cl : Cls K C
  nR : NoAttr K C "rows"
  nS : NoAttr K C "size"
  nV : NoAttr K C "inverses"
section
variable {P : Program} {w : World} {K : PySem.W.Frag} {mg : Str → Option Value} {base : Heap} {f CG Ct : Addr} {fd : FuncData} {k : Nat}
def R_Group (ds : List D) (fs : List (Str × D)) : Prop := ∃ (n : Nat) (m : Nat → Nat → Nat), ds = [lTab n m] ∧ n ≤ 60 ∧ Grp n m ∧ fs = gFs n m
abbrev s_Group_init : Stmt := inClass (top 31) 0
abbrev N_Group_init : List Str := ["self", "rows", "fault", "row"]
theorem sc_Group_init : FnScope N_Group_init ["self", "rows"] (defScope s_Group_init) := ⟨rfl, rfl, rfl, by decide +kernel, rfl, by decide +kernel, by decide +kernel⟩
theorem ok_Group_init (T : Txt K mg) (c : GCls K CG) (O : DefOk P w K mg base "table_fault" k R_table_fault) (F : FunD K "__init__" "Group.__init__" (defArgs s_Group_init) (defBody s_Group_init) (defScope s_Group_init) [] [] f fd) (hm : mg "Group" = some (.ref CG)) (hM : Mk K CG f) : MakeOk P w K mg base "Group" CG (k + 1) R_Group := by
  refine init_ok F sc_Group_init hm hM (fun ds r ⟨_, _, e, _⟩ => by rw [e]; rfl) (fun _ _ _ _ _ _ us hl => match us, hl with | [_, _], _ => rfl) fun cdv A outer s H E hr ds fs hR a dx => ?_
  obtain ⟨n, m, rfl, hn, g, rfl⟩ := hR
  have nd := sc_Group_init.nd
  refine dip_cons (ds_if (k := false) (DT.is (dt_cmp op_gt rd_gt (de_lenTab (tp := false) (de_var 1) T.nLen) (de_globI T.members) (nomark _)) ?_) (fun h => nomatch h) fun _ => dss_nil ?_)
  · simp; omega
  refine dip_cons (ds_set 2 nd (de_call O hr (da_cons (de_var 1) da_nil) ⟨n, m, rfl, by omega, g, rfl⟩) ?_)
  refine dip_cons (ds_if (k := false) (DT.is (dt_cmp op_ne rd_neS (de_var 2) de_str (nomark _)) ?_) (fun h => nomatch h) fun _ => dss_nil ?_)
  · rfl
  refine dip_end (dis_cons (d := xTab n m) (de_tupL (da_cons (DE.is (de_of_do (do_lc0 (List.range n) (fun a => lN ((List.range n).map (m a))) [3] (fun a => [lN ((List.range n).map (m a))]) (fun a => .tupx (((List.range n).map (m a)).map nI)) [("row", 3)] nd (blkOk_by (N := N_Group_init) (sc := defScope s_Group_init) (by decide +kernel)) (di_list (de_var 1)) ?_ ?_ ?_)) rfl) da_nil) T.nTuple) rfl (by decide) c.cl c.nR rfl ?_)
  · have := sizeLine_eq; rw [List.length_range]; omega
  · exact fun _ _ _ _ _ z _ => dg_name 3 nd
  · exact fun _ _ _ _ _ z _ => de_tupxL (da_cons (de_var 3) da_nil) T.nTuple
  refine dis_cons (d := nI n) (de_lenTab (tp := false) (de_var 1) T.nLen) rfl (by simp) c.cl c.nS rfl ?_
  refine dis_consL (C := CG) (ns := (List.range n).map (invN n m)) (de_tupL (da_cons (DE.is (de_of_do (do_lc0 (List.range n) (fun a => .tupx (((List.range n).map (m a)).map nI)) [3] (fun a => [.tupx (((List.range n).map (m a)).map nI)]) (fun a => nI (invN n m a)) [("row", 3)] nd (blkOk_by (N := N_Group_init) (sc := defScope s_Group_init) (by decide +kernel)) (di_tup (de_fld c.cl c.nR (de_var 0) rfl)) ?_ ?_ ?_)) (by rw [List.map_map]; rfl)) da_nil) T.nTuple) rfl (by simp) c.cl c.nV rfl dis_nil
  · have := sizeLine_eq; rw [List.length_range]; omega
  · exact fun _ _ _ _ _ z _ => dg_name 3 nd
  · intro _ _ _ _ _ z hz
    have hz' : z < n := List.mem_range.mp hz
    have h1 := g.invN_lt hz'
    refine de_indexX (ns := ((List.range n).map (m z)).map Int.ofNat) (k := 0) (j := invN n m z) (DE.is (de_var 3) (by rw [mapN])) de_int ?_ fun q hq => ?_
    · simp [h1, g.invN_eq hz']
    · have h2 := g.invN_no hz' hq
      simp [Nat.lt_trans hq h1]
      omega
end
end DL
set_option maxHeartbeats 0
namespace DL
open PySem PySem.Spec PyProof.Rows L2
/-! ### the head: facts by names -/
def dF (x : Str) (st : Stmt) : He.DefD := ⟨(x, none), x, x, defArgs st, defBody st, defScope st, [], []⟩
def dM (C m q : Str) (st : Stmt) : He.DefD := ⟨(C, some m), m, q, defArgs st, defBody st, defScope st, [], []⟩
def fns0 : List He.DefD := [dF "weight" (top 16), dF "check_shape" (top 14), dF "lies_under" (top 17), dF "count_inputs" (top 18), dF "check_table" (top 38), dF "light_inputs" (top 19), dF "inputs_of" (top 20), dF "reached" (top 27), dF "generating_members" (top 28), dF "is_associative" (top 29), dF "table_fault" (top 30), dF "generated" (top 32), dF "commutator_subgroup" (top 33), dF "lower_row" (top 35), dF "subgroup_at" (top 36), dF "coefficient_choices" (top 41), dF "check_count" (top 42), dF "product_below" (top 48), dF "coefficients" (top 49), dF "obstacle" (top 51), dF "choices_of" (top 53), dF "chart_number" (top 54), dF "searched_entries" (top 43), dF "chart_by_row" (top 45), dF "deciding_chart" (top 46), dF "deciding_charts" (top 44), dF "_law_weight" (top 66), dF "_law_under" (top 68), dF "_law_count" (top 72), dF "_law_choices" (top 71), dF "_law_below" (top 73), dF "_law_cyclic" (top 77), dF "_law_members_at" (top 74), dF "_law_entries_at" (top 75), dF "_law_no_clash" (top 76)]
def fns1 : List He.DefD := [dF "_law_cell" (top 56), dF "_law_least" (top 80), dF "_law_labels" (top 70), dF "_law_numbers" (top 57), dF "_law_generators" (top 59), dF "_law_close" (top 60), dF "_law_table" (top 61), dF "_law_renumbered" (top 62), dF "_law_group" (top 63), dF "_law_closed" (top 64), dF "_law_lower" (top 65), dF "_law_inputs" (top 67), dF "_law_wide_shape" (top 69), dF "_law_world" (top 78), dF "_law_told_labels" (top 79), dF "_law_same" (top 58), dF "_law_is_chart" (top 81), dF "_law_least_is" (top 82), dF "_law_yielded_are" (top 83), dF "_law_other_group_is" (top 84), dF "_law_raises" (top 85), dF "_law_refusals_are" (top 86), dF "_law_large_is" (top 87), dF "law" (top 88), dM "Group" "__init__" "Group.__init__" (inClass (top 31) 0), dM "Chart" "__init__" "Chart.__init__" (inClass (top 24) 0), dM "Group" "check" "Group.check" (inClass (top 31) 6), dM "Group" "commutator" "Group.commutator" (inClass (top 31) 10)]
def fns : List He.DefD := fns0 ++ (fns1)
def fas0 : List He.Fa := [.glo "weight", .glo "check_shape", .glo "lies_under", .glo "count_inputs", .glo "check_table", .glo "light_inputs", .glo "inputs_of", .glo "reached", .glo "generating_members", .glo "is_associative", .glo "table_fault", .glo "generated", .glo "commutator_subgroup", .glo "lower_row", .glo "subgroup_at", .glo "coefficient_choices", .glo "check_count", .glo "product_below", .glo "coefficients", .glo "obstacle", .glo "choices_of", .glo "chart_number", .glo "searched_entries", .glo "chart_by_row", .glo "deciding_chart", .glo "deciding_charts", .glo "_law_weight", .glo "_law_under", .glo "_law_count", .glo "_law_choices", .glo "_law_below", .glo "_law_cyclic", .glo "_law_members_at", .glo "_law_entries_at", .glo "_law_no_clash"]
def fas1 : List He.Fa := [.glo "_law_cell", .glo "_law_least", .glo "_law_labels", .glo "_law_numbers", .glo "_law_generators", .glo "_law_close", .glo "_law_table", .glo "_law_renumbered", .glo "_law_group", .glo "_law_closed", .glo "_law_lower", .glo "_law_inputs", .glo "_law_wide_shape", .glo "_law_world", .glo "_law_told_labels", .glo "_law_same", .glo "_law_is_chart", .glo "_law_least_is", .glo "_law_yielded_are", .glo "_law_other_group_is", .glo "_law_raises", .glo "_law_refusals_are", .glo "_law_large_is", .glo "law", .glo "Group", .glo "Chart", .glo "BadShape", .glo "BadTable", .glo "TooLarge", .glo "MovesError", .free "len", .free "all", .free "sorted", .free "range", .free "zip"]
def fas2 : List He.Fa := [.free "tuple", .free "list", .free "enumerate", .free "isinstance", .free "min", .free "max", .free "abs", .free "int", .free "set", .free "bool", .free "str", .free "ValueError", .int "MOST_PLACES" 12, .int "MOST_MEMBERS" 60, .int "MOST_CHARTS" 1024, .cls "Group", .mkr "Group", .cls "Chart", .mkr "Chart", .noat "Group" "rows", .noat "Group" "size", .noat "Group" "inverses", .noat "Chart" "group", .noat "Chart" "shape", .noat "Chart" "entries", .meth "Group" "check", .meth "Group" "commutator", .exc "BadShape", .exc "BadTable", .exc "TooLarge", .exm "BadShape" "BadShape" true, .exm "BadTable" "BadShape" false, .exm "BadTable" "BadTable" true, .exm "TooLarge" "BadShape" false, .exm "TooLarge" "BadTable" false]
def fas3 : List He.Fa := [.exm "TooLarge" "TooLarge" true]
def fas : List He.Fa := fas0 ++ (fas1 ++ (fas2 ++ (fas3)))
def tfs : List He.Defn := [lightKey, lawKey]
/-- an own error's class, caught by name -/
def catB (K : PySem.W.Frag) (x : Str) : Bool := He.eqO (PySem.W.findIn K (.ref (He.ga K x)) "__getattribute__") (some (some (.builtin "BaseException.__getattribute__"))) && (He.eqO (PySem.W.findIn K (.ref (He.ga K x)) "__getattr__") (some none) && (PySem.W.hasDictIn K (He.ga K x) && (He.eqO (PySem.W.findIn K (.ref (He.ga K x)) "__class__") (some (some (.builtin "object.__class__"))) &&
  (He.eqO (PySem.W.specialIn K (.builtin "object.__class__") "__get__") (some (some (.builtin "getset_descriptor.__get__"))) && (decide (PySem.W.takesIn K (.builtin "object.__class__") = some true) && (decide (PySem.W.mroIn K (He.ga K x) (.type "object") = some true) && (decide (PySem.W.kitOne K (.ref (He.ga K x)) (.ref (He.ga K "MovesError")) = some true) &&
  (decide (PySem.W.kitOne K (.ref (He.ga K x)) (.type "ValueError") = some true) && decide (PySem.W.subIn K (.ref (He.ga K x)) (.type "StopIteration") = some false)))))))))
def exB (K : PySem.W.Frag) : Bool := catB K "BadShape" && (catB K "BadTable" && (catB K "TooLarge" && !decide ((He.cT K lightKey).2 = (He.cT K lawKey).2)))
/-- the objects looked at: the globals', the classes' own tables and methods, the code of all -/
def clsNs (g : Addr → Option Obj) (a : Addr) : List Addr := match g a with
  | some ⟨_, _, .cls cd, _⟩ => [cd.ns]
  | _ => []
def fnCode (g : Addr → Option Obj) (a : Addr) : List Addr := match g a with
  | some ⟨_, _, .func fd, _⟩ => He.refV fd.code
  | _ => []
def valRefs (g : Addr → Option Obj) (a : Addr) : List Addr := match g a with
  | some ⟨_, _, .dict es _, _⟩ => es.toList.flatMap fun e => He.refV e.val
  | _ => []
def asM (g : Addr → Option Obj) : List Addr :=
  let gl := valRefs g mainGlobals
  let ns := gl.flatMap (clsNs g)
  let ms := ns.flatMap (valRefs g)
  mainGlobals :: (gl ++ (ns ++ (ms ++ ((gl ++ ms).flatMap (fnCode g)))))
structure Says (h : Heap) (K : PySem.W.Frag) : Prop where
  d : He.SaysD fas fns K
  more : exB K = true
  hd : ∀ p ∈ tfs, PySem.W.codeHdIn K (He.cT K p).1 (He.cT K p).2 = true
  out : ∀ p ∈ tfs, K.lookup (He.cT K p).2 = none
  emp : ∀ p ∈ tfs, h.get? (He.cT K p).2 = some { cls := .none, data := .fields #[] }
abbrev AlM : Type := He.AlD × Bool
def obsK (g : Addr → Option Obj) (K : PySem.W.Frag) : AlM := (He.obsD fas fns K, exB K && He.tabsB g tfs K)
def obsM (g : Addr → Option Obj) : AlM := obsK g (He.frT g (asM g))
theorem says_of {h : Heap} (e : obsM h.get? = (He.valD fns, true)) : Says h (He.frT h.get? (asM h.get?)) := by
  generalize hq : asM h.get? = as
  have e' : obsK h.get? (He.frT h.get? as) = (He.valD fns, true) := by rw [← hq]; exact e
  obtain ⟨e1, e2⟩ := Prod.mk.inj e'
  obtain ⟨m, tb⟩ := He.ba e2
  have tb := List.all_eq_true.mp tb
  have at_ : ∀ p ∈ tfs, ∃ o, h.get? (He.cT (He.frT h.get? as) p).2 = some o ∧ He.emptyTab o = true := fun p hp => by
    have z := (He.ba (tb p hp)).2
    cases q : h.get? (He.cT (He.frT h.get? as) p).2 with
    | none => rw [q] at z; cases z
    | some o => rw [q] at z; exact ⟨o, rfl, z⟩
  refine ⟨e1, m, fun p hp => (He.ba (tb p hp)).1, fun p hp => ?_, fun p hp => ?_⟩
  · obtain ⟨o, q, z⟩ := at_ p hp
    exact He.frT_none q z
  · obtain ⟨o, q, z⟩ := at_ p hp
    rw [q, He.emptyTab_eq z]
def hk : PySem.W.Hook where
  α := AlM
  obs := fun s => obsM s.heap.get?
  val := fun _ => (He.valD fns, true)
  says := fun _ h => ∃ K : PySem.W.Frag, K.In h ∧ Says h K
  of := fun _ _ e => ⟨_, He.frT_in, says_of e⟩
  keeps := fun _ _ _ ⟨K, hK, c⟩ k => ⟨K, PySem.W.Frag.In.keeps hK k, c.d, c.more, c.hd, c.out, fun p hp => k _ _ (c.emp p hp)⟩
def ob (s : PySem.W.SharedT) : AlM := obsM (HandSHeadRun.getT s)
theorem ob_eq (s : PySem.W.SharedT) : ob s = hk.obs s.abs := congrArg obsM (funext (HandSHeadRun.getT_eq s))
abbrev Ro : PySem.W.OpenRow := PySem.W.OpenLaw.row PySem.Challenge.rw_chosenmoves_k66_whole_least_deciding_cha
abbrev qv : Program := PySem.W.view Ro.prog [88]
def names0 : List Str := ["_wall", "MovesError", "BadGroup", "NotMember", "BadShape", "BadInput", "BadChart", "Mismatch", "NotProgrammable", "TooLarge", "BadTable", "MOST_PLACES", "check_shape", "check_input", "weight", "lies_under", "count_inputs", "light_inputs", "inputs_of", "position", "check_same", "Chart", "MOST_MEMBERS", "reached", "generating_members", "is_associative", "table_fault", "Group", "generated", "commutator_subgroup"]
def names1 : List Str := ["lower_row", "subgroup_at", "check_table", "MOST_CHARTS", "coefficient_choices", "check_count", "searched_entries", "deciding_charts", "chart_by_row", "deciding_chart", "product_below", "coefficients", "obstacle", "choices_of", "chart_number", "_law_cell", "_law_numbers", "_law_same", "_law_generators", "_law_close", "_law_table", "_law_renumbered", "_law_group", "_law_closed", "_law_lower", "_law_weight", "_law_inputs", "_law_under", "_law_wide_shape", "_law_labels"]
def names2 : List Str := ["_law_choices", "_law_count", "_law_below", "_law_members_at", "_law_entries_at", "_law_no_clash", "_law_cyclic", "_law_world", "_law_told_labels", "_law_least", "_law_is_chart", "_law_least_is", "_law_yielded_are", "_law_other_group_is", "_law_raises", "_law_refusals_are", "_law_large_is"]
def names : List Str := names0 ++ names1 ++ names2
theorem run (w : World) : HandSHeadRun.RunEq Ro qv hk ob 20000 names w := by
  intro os
  kernel_rfl
end DL
set_option maxHeartbeats 4000000
namespace DL
open PySem PySem.Spec PyProof.Rows L2
section
variable {P : Program} {w : World} {K : PySem.W.Frag} {mg : Str → Option Value} {base : Heap} {x m qual : Str} {st : Stmt} {f C : Addr} {fd : FuncData} {N ps : List Str} {k : Nat}
theorem meth_ok {R : List D → Res → Prop} (F : FunD K x qual (defArgs st) (defBody st) (defScope st) [] [] f fd) (hm : Meth K C m f) (S : FnScope N ps (defScope st)) (len : ∀ ds r, R ds r → ds.length = ps.length)
    (hb : ∀ (kV doc pm : Value) (an : Option Addr) (cdv ct : Value) (us : List Value), us.length = ps.length → bindArgs (PySem.W.fnOf x qual (defArgs st) (defBody st) (defScope st) .none kV doc pm an cdv ct) ⟨us, []⟩ = pure (ps.zip us))
    (hbody : ∀ (cdv : Value) (A : Around) (outer : List Env) (s : Shared) (H : Hp) (E : XK), Room k (A.deeper (envOfC qual (defScope st) s.heap.objs.size f cdv)) → ∀ ds r, R ds r →
      DSs (cX P w K mg base N qual st f cdv A outer s H E) (defBody st) (sl0 N ds) { nx := fun _ => r = .ok .non, rt := fun d => r = .ok d, xn := fun C => r = .err C }) : MethOk P w K mg base C m (k + 1) R :=
  ⟨f, fd, ps, fn_ok F S len hbody, hm, F.bindsN hb⟩
end
/-! ### the methods of Group, the subgroups -/
def commN (n : Nat) (m : Nat → Nat → Nat) (a b : Nat) : Nat := m (invN n m (m b a)) (m a b)
def commsN (n : Nat) (m : Nat → Nat → Nat) (as bs : List Nat) : List Nat := as.flatMap fun a => bs.map (commN n m a)
noncomputable def subC (n : Nat) (m : Nat → Nat → Nat) (as bs : List Nat) : List Nat := clo n m ((List.range n).filter fun x => decide (x ∈ commsN n m as bs))
theorem Grp.comm_lt {n : Nat} {m : Nat → Nat → Nat} (g : Grp n m) {a b : Nat} (ha : a < n) (hb : b < n) : commN n m a b < n := g.cl _ _ (g.invN_lt (g.cl _ _ hb ha)) (g.cl _ _ ha hb)
section
variable {X : Cx} {e a b c o : Expr} {ρ : List Sl} {pos p : Pos} {n i j : Nat} {m : Nat → Nat → Nat} {CG : Addr}
theorem di_rng {tg : Expr} (ha : DE X a ρ (nI n)) (hm : X.mg "range" = none) (hb : n < 2 ^ 62) (hg : Gl X "range" := by rfl) (hs : starEach [a] X.env = [(false, eval a X.env)] := by rfl) : DI X tg (.Call (.Name "range" p) [a] [] pos) ρ ((List.range n).map nI) := DI.is (di_range1 ha hm (by omega) hg hs) (by simp [nI])
theorem de_rows (c : GCls X.K CG) (ho : DE X o ρ (gD CG n m)) (hb : attributeBase o "rows" X.env (eval o X.env) = eval o X.env := by rfl) : DE X (.Attribute o "rows" pos) ρ (tTab n m) := (de_fld c.cl c.nR ho rfl hb).weak (wd_tab n m)
theorem de_size (c : GCls X.K CG) (ho : DE X o ρ (gD CG n m)) (hb : attributeBase o "size" X.env (eval o X.env) = eval o X.env := by rfl) : DE X (.Attribute o "size" pos) ρ (nI n) := de_fld c.cl c.nS ho rfl hb
theorem de_invs (c : GCls X.K CG) (ho : DE X o ρ (gD CG n m)) (hb : attributeBase o "inverses" X.env (eval o X.env) = eval o X.env := by rfl) : DE X (.Attribute o "inverses" pos) ρ (tN ((List.range n).map (invN n m))) := de_fld c.cl c.nV ho rfl hb
theorem de_inv (c : GCls X.K CG) (ho : DE X o ρ (gD CG n m)) (he : DE X e ρ (nI i)) (hi : i < n) {p2 : Pos} (hb : attributeBase o "inverses" X.env (eval o X.env) = eval o X.env := by rfl) (hs : PlainIx e := by intro _ _; rfl) : DE X (.Subscript (.Attribute o "inverses" p2) e pos) ρ (nI (invN n m i)) :=
  de_ixTf (f := nI) (xs := (List.range n).map (invN n m)) (de_invs c ho hb) he (by simp [hi]) hs
end
section
variable {P : Program} {w : World} {K : PySem.W.Frag} {mg : Str → Option Value} {base : Heap} {f CG Ct : Addr} {fd : FuncData} {k : Nat}
abbrev MthP (K : PySem.W.Frag) (x qual : Str) (st : Stmt) (f : Addr) (fd : FuncData) : Prop := FunD K x qual (defArgs st) (defBody st) (defScope st) [] [] f fd
def R_check (CG : Addr) (ds : List D) (r : Res) : Prop := ∃ (n : Nat) (m : Nat → Nat → Nat) (a : Nat), ds = [gD CG n m, nI a] ∧ a < n ∧ r = .ok .non
abbrev s_check : Stmt := inClass (top 31) 6
abbrev N_check : List Str := ["self", "member"]
theorem sc_check : FnScope N_check ["self", "member"] (defScope s_check) := ⟨rfl, rfl, rfl, by decide +kernel, rfl, by decide +kernel, by decide +kernel⟩
theorem ok_check (T : Txt K mg) (c : GCls K CG) (F : MthP K "check" "Group.check" s_check f fd) (hm : Meth K CG "check" f) : MethOk P w K mg base CG "check" (k + 1) (R_check CG) := by
  refine meth_ok F hm sc_check (fun ds r ⟨_, _, _, e, _⟩ => by rw [e]; rfl) (fun _ _ _ _ _ _ us hl => match us, hl with | [_, _], _ => rfl) fun cdv A outer s H E hr ds r hR => ?_
  obtain ⟨n, m, a, rfl, ha, rfl⟩ := hR
  refine dss_one (ds_if (k := false) (DT.is (dt_not (dt_chain op_le op_lt rd_le rd_lt de_int (de_var 1) (de_size c (de_var 0)))) ?_) (fun h => nomatch h) fun _ => dss_nil rfl)
  simp; omega
def R_commutator (CG : Addr) (ds : List D) (r : Res) : Prop := ∃ (n : Nat) (m : Nat → Nat → Nat) (a b : Nat), ds = [gD CG n m, nI a, nI b] ∧ Grp n m ∧ a < n ∧ b < n ∧ r = .ok (nI (commN n m a b))
abbrev s_commutator : Stmt := inClass (top 31) 10
abbrev N_commutator : List Str := ["self", "a", "b"]
theorem sc_commutator : FnScope N_commutator ["self", "a", "b"] (defScope s_commutator) := ⟨rfl, rfl, rfl, by decide +kernel, rfl, by decide +kernel, by decide +kernel⟩
theorem ok_commutator (T : Txt K mg) (c : GCls K CG) (O : MethOk P w K mg base CG "check" k (R_check CG)) (F : MthP K "commutator" "Group.commutator" s_commutator f fd) (hm : Meth K CG "commutator" f) : MethOk P w K mg base CG "commutator" (k + 1) (R_commutator CG) := by
  refine meth_ok F hm sc_commutator (fun ds r ⟨_, _, _, _, e, _⟩ => by rw [e]; rfl) (fun _ _ _ _ _ _ us hl => match us, hl with | [_, _, _], _ => rfl) fun cdv A outer s H E hr ds r hR => ?_
  obtain ⟨n, m, a, b, rfl, g, ha, hb, rfl⟩ := hR
  refine dss_cons (ds_expr (de_meth O c.cl hr (de_var 0) rfl (da_cons (de_var 1) da_nil) ⟨n, m, a, rfl, ha, rfl⟩) ?_)
  refine dss_cons (ds_expr (de_meth O c.cl hr (de_var 0) rfl (da_cons (de_var 2) da_nil) ⟨n, m, b, rfl, hb, rfl⟩) ?_)
  have h1 := g.cl _ _ hb ha
  exact dss_one (ds_ret (de_tabT (m := m) (de_rows c (de_var 0)) (de_inv c (de_var 0) (de_tabT (m := m) (de_rows c (de_var 0)) (de_var 2) (de_var 1) hb ha) h1) (de_tabT (m := m) (de_rows c (de_var 0)) (de_var 1) (de_var 2) ha hb) (g.invN_lt h1) (g.cl _ _ ha hb)) rfl)
/-! ### generated -/
def R_generated (CG : Addr) (ds : List D) (r : Res) : Prop := ∃ (n : Nat) (m : Nat → Nat → Nat) (S : List Nat), ds = [gD CG n m, lN S] ∧ n < 1000 ∧ Grp n m ∧ (∀ s ∈ S, s < n) ∧ r = .ok (.tupx ((clo n m S).map nI))
abbrev s_generated : Stmt := top 32
abbrev N_generated : List Str := ["group", "members", "member"]
theorem sc_generated : FnScope N_generated ["group", "members"] (defScope s_generated) := ⟨rfl, rfl, rfl, by decide +kernel, rfl, by decide +kernel, by decide +kernel⟩
theorem ok_generated (T : Txt K mg) (c : GCls K CG) (O : MethOk P w K mg base CG "check" k (R_check CG)) (O2 : DefOk P w K mg base "reached" k R_reached) (F : FnP K "generated" s_generated f fd) (hm : mg "generated" = some (.ref f)) : DefOk P w K mg base "generated" (k + 1) (R_generated CG) := by
  refine def_ok F hm sc_generated (fun ds r ⟨_, _, _, e, _⟩ => by rw [e]; rfl) (fun _ _ _ _ _ _ us hl => match us, hl with | [_, _], _ => rfl) fun cdv A outer s H E hr ds r hR => ?_
  obtain ⟨n, m, S, rfl, hn, g, hS, rfl⟩ := hR
  have nd := sc_generated.nd
  refine dss_cons (ds_for S nI [2] (fun k => [nI k]) (passes_of rfl) (di_list (de_var 1)) (fun _ _ => dg_name 2 nd) (fun i ρ' => ∃ s, ρ' = [.val (gD CG n m), .val (lN S), s]) ⟨_, rfl⟩ ?_ ?_)
  · rintro i s' ρ' hs ⟨s, rfl⟩
    exact dss_one (ds_expr (de_meth O c.cl hr (de_var 0) rfl (da_cons (de_var 2) da_nil) ⟨n, m, s', rfl, hS s' (List.mem_of_getElem? hs), rfl⟩) ⟨.val (nI s'), rfl⟩)
  · rintro ρ' ⟨s, rfl⟩
    exact dss_one (ds_ret (de_tupxL (da_cons (de_call O2 hr (da_cons (de_rows c (de_var 0)) (da_cons (de_var 1) da_nil)) ⟨true, n, m, S, rfl, g.pos, by omega, hS, g.cl, rfl⟩) da_nil) T.nTuple) rfl)
/-! ### commutator_subgroup -/
def R_commutator_subgroup (CG : Addr) (ds : List D) (r : Res) : Prop := ∃ (n : Nat) (m : Nat → Nat → Nat) (as bs : List Nat), ds = [gD CG n m, tN as, tN bs] ∧ n < 1000 ∧ Grp n m ∧ (∀ s ∈ as, s < n) ∧ (∀ s ∈ bs, s < n) ∧ as.length < 1000 ∧ bs.length < 1000 ∧ r = .ok (.tupx ((subC n m as bs).map nI))
abbrev s_commutator_subgroup : Stmt := top 33
abbrev N_commutator_subgroup : List Str := ["group", "first", "second", "member", "found", "a", "b"]
theorem sc_commutator_subgroup : FnScope N_commutator_subgroup ["group", "first", "second"] (defScope s_commutator_subgroup) := ⟨rfl, rfl, rfl, by decide +kernel, rfl, by decide +kernel, by decide +kernel⟩
theorem ok_commutator_subgroup (T : Txt K mg) (c : GCls K CG) (O : MethOk P w K mg base CG "check" k (R_check CG)) (O2 : MethOk P w K mg base CG "commutator" k (R_commutator CG)) (O3 : DefOk P w K mg base "generated" k (R_generated CG)) (F : FnP K "commutator_subgroup" s_commutator_subgroup f fd) (hm : mg "commutator_subgroup" = some (.ref f)) : DefOk P w K mg base "commutator_subgroup" (k + 1) (R_commutator_subgroup CG) := by
  refine def_ok F hm sc_commutator_subgroup (fun ds r ⟨_, _, _, _, e, _⟩ => by rw [e]; rfl) (fun _ _ _ _ _ _ us hl => match us, hl with | [_, _, _], _ => rfl) fun cdv A outer s H E hr ds r hR => ?_
  obtain ⟨n, m, as, bs, rfl, hn, g, ha, hb, la, lb, rfl⟩ := hR
  have nd := sc_commutator_subgroup.nd
  have zl := sizeLine_eq
  have mg0 := g.pos
  refine dss_cons (ds_for (as ++ bs) nI [3] (fun k => [nI k]) (passes_of rfl) (di_list (DE.is (de_of_do (do_cat (de_of_do (do_listT (da_cons (de_var 1) da_nil) T.nList)) (de_of_do (do_listT (da_cons (de_var 2) da_nil) T.nList)) (by simp; omega))) (by simp))) (fun _ _ => dg_name 3 nd) (fun i ρ' => ∃ s, ρ' = [.val (gD CG n m), .val (tN as), .val (tN bs), s, .no, .no, .no]) ⟨_, rfl⟩ ?_ ?_)
  · rintro i s' ρ' hs ⟨s, rfl⟩
    refine dss_one (ds_expr (de_meth O c.cl hr (de_var 0) rfl (da_cons (de_var 3) da_nil) ⟨n, m, s', rfl, ?_, rfl⟩) ⟨.val (nI s'), rfl⟩)
    rcases List.mem_append.mp (List.mem_of_getElem? hs) with q | q
    · exact ha _ q
    · exact hb _ q
  rintro ρ' ⟨s, rfl⟩
  refine dss_cons (ds_setO 4 nd (do_rep1 (de_of_do (do_lstl (da_cons de_bl da_nil))) (de_size c (de_var 0)) (by omega) (by omega)) ?_)
  show DSs _ _ [_, _, _, _, .own (List.replicate n (.bl false)), _, _] _
  rw [insD_nil]
  refine dss_cons (ds_for as nI [5] (fun k => [nI k]) (passes_of rfl) (di_tup (de_var 1)) (fun _ _ => dg_name 5 nd) (fun i ρ' => ∃ s1 s2, ρ' = [.val (gD CG n m), .val (tN as), .val (tN bs), s, .own (insD n (commsN n m (as.take i) bs)), s1, s2]) ⟨_, _, rfl⟩ ?_ ?_)
  · rintro i a ρ' hs ⟨s1, s2, rfl⟩
    have han := ha a (List.mem_of_getElem? hs)
    refine dss_one (ds_for bs nI [6] (fun k => [nI k]) (passes_of rfl) (di_tup (de_var 2)) (fun _ _ => dg_name 6 nd) (fun j ρ' => ∃ s2, ρ' = [.val (gD CG n m), .val (tN as), .val (tN bs), s, .own (insD n (commsN n m (as.take i) bs ++ (bs.take j).map (commN n m a))), .val (nI a), s2]) ⟨_, by rw [List.take_zero, List.map_nil, List.append_nil]; rfl⟩ ?_ ?_)
    · rintro j b ρ' hs2 ⟨s2, rfl⟩
      have hbn := hb b (List.mem_of_getElem? hs2)
      have hc := g.comm_lt han hbn
      refine dss_one (ds_setI 4 de_bl (de_meth O2 c.cl hr (de_var 0) rfl (da_cons (de_var 5) (da_cons (de_var 6) da_nil)) ⟨n, m, a, b, rfl, g, han, hbn, rfl⟩) (insD_ix hc) ⟨.val (nI b), ?_⟩)
      show [_, _, _, _, _, _, _] = _
      rw [insD_set hc, List.take_add_one, hs2, List.map_append, List.append_assoc]; rfl
    · rintro ρ' ⟨s2, rfl⟩
      refine ⟨.val (nI a), s2, ?_⟩
      rw [List.take_length, List.take_add_one, hs]
      unfold commsN
      rw [List.flatMap_append]
      simp
  · rintro ρ' ⟨s1, s2, rfl⟩
    rw [List.take_length]
    refine dss_freeze 4 ?_
    refine dss_one (ds_ret (de_call O3 hr (da_cons (de_var 0) (da_cons (DE.is (de_of_do (do_lc (List.range n) nI [3] (fun x => [nI x]) (fun x => decide (x ∈ commsN n m as bs)) nI [("member", 3)] nd (blkOk_by (N := N_commutator_subgroup) (sc := defScope s_commutator_subgroup) (by decide +kernel)) ?_ ?_ ?_ ?_ ?_)) rfl) da_nil)) ⟨n, m, (List.range n).filter fun x => decide (x ∈ commsN n m as bs), rfl, hn, g, ?_, rfl⟩) rfl)
    · exact di_rng (de_size c (de_var 0)) T.nRange (by omega)
    · rw [List.length_range]; omega
    · exact fun _ _ _ _ _ z _ => dg_name 3 nd
    · exact fun _ _ _ _ _ z hz => dts_one (dt_of (de_ixL (ds := insD n (commsN n m as bs)) (de_var 4) (de_var 3) (insD_at (List.mem_range.mp hz))))
    · exact fun _ _ _ _ _ z _ _ => de_var 3
    · exact fun s hs => List.mem_range.mp (List.mem_filter.mp hs).1
end
end DL
set_option maxHeartbeats 4000000
namespace DL
open PySem PySem.Spec PyProof.Rows L2
/-! ### the lower series -/
noncomputable def low (n : Nat) (m : Nat → Nat → Nat) : Nat → List Nat
  | 0 => List.range n
  | k + 1 => subC n m (List.range n) (low n m k)
abbrev xN (xs : List Nat) : D := .tupx (xs.map nI)
theorem clo_lt {n : Nat} {m : Nat → Nat → Nat} {S : List Nat} {x : Nat} (h : x ∈ clo n m S) : x < n := List.mem_range.mp (List.mem_filter.mp h).1
theorem clo_len (n : Nat) (m : Nat → Nat → Nat) (S : List Nat) : (clo n m S).length ≤ n := by
  have := List.length_filter_le (fun x => @decide (Reach m S x) (Classical.propDecidable _)) (List.range n)
  rw [List.length_range] at this
  exact this
theorem low_lt {n : Nat} {m : Nat → Nat → Nat} : ∀ {k x : Nat}, x ∈ low n m k → x < n
  | 0, _, h => List.mem_range.mp h
  | _ + 1, _, h => clo_lt h
theorem low_len (n : Nat) (m : Nat → Nat → Nat) : ∀ k, (low n m k).length ≤ n
  | 0 => by show (List.range n).length ≤ n; rw [List.length_range]; exact Nat.le_refl _
  | _ + 1 => clo_len _ _ _
/-- the series is still from c on, and moves ahead of it -/
structure Still (n : Nat) (m : Nat → Nat → Nat) (c : Nat) : Prop where
  at_ : low n m (c + 1) = low n m c
  no : ∀ i, i < c → low n m (i + 1) ≠ low n m i
  few : c < 1000
theorem tN_tI (xs : List Nat) : tN xs = tI (xs.map Int.ofNat) := by simp [tN, tI, nI]
theorem ofNat_inj {xs ys : List Nat} : xs.map Int.ofNat = ys.map Int.ofNat ↔ xs = ys := List.map_inj_right fun a b e => by cases e; rfl
theorem rd_eqTN {K : PySem.W.Frag} {ns ms : List Nat} : RD K (rEqD K) (tN ns) (tN ms) (.bl (decide (ns = ms))) := by
  rw [tN_tI, tN_tI, show decide (ns = ms) = decide (ns.map Int.ofNat = ms.map Int.ofNat) by simp only [ofNat_inj]]
  exact rd_eqT
theorem rd_neTN {K : PySem.W.Frag} {ns ms : List Nat} : RD K (rNeD K) (tN ns) (tN ms) (.bl (!decide (ns = ms))) := by
  rw [tN_tI, tN_tI, show decide (ns = ms) = decide (ns.map Int.ofNat = ms.map Int.ofNat) by simp only [ofNat_inj]]
  exact rd_neT
section
variable {P : Program} {w : World} {K : PySem.W.Frag} {mg : Str → Option Value} {base : Heap} {f CG Ct : Addr} {fd : FuncData} {k : Nat}
/-- the row of the series -/
noncomputable def rowL (n : Nat) (m : Nat → Nat → Nat) (c : Nat) : List (List Nat) := (List.range (c + 1)).map (low n m)
def R_lower_row (CG : Addr) (ds : List D) (r : Res) : Prop := ∃ (n : Nat) (m : Nat → Nat → Nat) (c : Nat), ds = [gD CG n m] ∧ n < 1000 ∧ Grp n m ∧ Still n m c ∧ r = .ok (.lst ((rowL n m c).map xN))
abbrev s_lower_row : Stmt := top 35
abbrev N_lower_row : List Str := ["group", "everything", "row", "following"]
theorem sc_lower_row : FnScope N_lower_row ["group"] (defScope s_lower_row) := ⟨rfl, rfl, rfl, by decide +kernel, rfl, by decide +kernel, by decide +kernel⟩
theorem ok_lower_row (T : Txt K mg) (c : GCls K CG) (O : DefOk P w K mg base "commutator_subgroup" k (R_commutator_subgroup CG)) (F : FnP K "lower_row" s_lower_row f fd) (hm : mg "lower_row" = some (.ref f)) : DefOk P w K mg base "lower_row" (k + 1) (R_lower_row CG) := by
  refine def_ok F hm sc_lower_row (fun ds r ⟨_, _, _, e, _⟩ => by rw [e]; rfl) (fun _ _ _ _ _ _ us hl => match us, hl with | [_], _ => rfl) fun cdv A outer s H E hr ds r hR => ?_
  obtain ⟨n, m, cc, rfl, hn, g, hst, rfl⟩ := hR
  have nd := sc_lower_row.nd
  have zl := sizeLine_eq
  refine dss_cons (ds_set 1 nd (de_tupxR (de_size c (de_var 0)) (by omega) T.nTuple T.nRange) ?_)
  refine dss_cons (ds_setO 2 nd (do_lstl (da_cons (de_var 1) da_nil)) ?_)
  have hlast : ∀ i, atI ((rowL n m i).map xN) (-1) = some (xN (low n m i)) := fun i => by
    unfold rowL
    rw [List.range_succ, List.map_append, List.map_append]
    exact atI_last _ _
  refine dss_one (ds_while (passes_of rfl) (fun q ρ' => ∃ i s, q = cc - i ∧ i ≤ cc ∧ ρ' = [.val (gD CG n m), .val (xN (List.range n)), .own ((rowL n m i).map xN), s]) cc ⟨0, _, rfl, Nat.zero_le _, rfl⟩ ?_)
  rintro q ρ' ⟨i, s, rfl, hi, rfl⟩
  refine ⟨true, dt_of de_bl, fun _ => ?_, fun h => nomatch h⟩
  refine dss_cons (ds_set 3 nd (de_call O hr (da_cons (de_var 0) (da_cons ((de_var (d := xN (List.range n)) 1).weak (wd_x _)) (da_cons ((de_ixO (ds := (rowL n m i).map xN) (d := xN (low n m i)) 2 (de_neg de_int) (hlast i)).weak (wd_x _)) da_nil))) ⟨n, m, List.range n, low n m i, rfl, hn, g, fun s h => List.mem_range.mp h, fun s h => low_lt h, by rw [List.length_range]; exact hn, by have := low_len n m i; omega, rfl⟩) ?_)
  refine dss_cons (ds_if (k := decide (low n m (i + 1) = low n m i)) (dt_cmp (op_eqD hr.units) rd_eqTN ((de_var (d := xN (low n m (i + 1))) 3).weak (wd_x _)) ((de_ixO (ds := (rowL n m i).map xN) (d := xN (low n m i)) 2 (de_neg de_int) (hlast i)).weak (wd_x _)) (nomark _)) (fun h => ?_) fun h => ?_)
  · have e : i = cc := by
      have := of_decide_eq_true h
      by_cases hlt : i < cc
      · exact absurd this (hst.no i hlt)
      · omega
    subst e
    exact dss_one (ds_retO (ds := (rowL n m i).map xN) 2 rfl)
  · have hlt : i < cc := by
      by_cases e : i = cc
      · subst e; rw [hst.at_] at h; simp at h
      · omega
    have hf := hst.few
    refine dss_nil (dss_one (ds_append (ds := (rowL n m i).map xN) 2 (de_var 3) (by simp [rowL]; omega) ⟨cc - (i + 1), by omega, i + 1, .val (xN (low n m (i + 1))), rfl, hlt, ?_⟩))
    show [_, _, Sl.own ((rowL n m i).map xN ++ [xN (low n m (i + 1))]), _] = _
    unfold rowL
    rw [List.range_succ (n := i + 1), List.map_append (f := low n m), List.map_append (f := xN)]; rfl
end
end DL
set_option maxHeartbeats 4000000
namespace DL
open PySem PySem.Spec PyProof.Rows L2
/-! ### subgroup_at, coefficient_choices, check_count, product_below -/
def wtN (r : List Int) : Nat := (r.filter fun n => !decide (n = 0)).length
def subAt (rows : List (List Nat)) (k : Nat) : List Nat := rows.getD (min (max k 1) rows.length - 1) []
def choN (rows : List (List Nat)) (ins : List (List Int)) : List (List Nat) := [0] :: (ins.drop 1).map fun s => subAt rows (wtN s)
def undN (m : Nat → Nat → Nat) (ins : List (List Int)) (ms : List Nat) (at_ p k : Nat) : Nat := if underB (ins.getD k []) (ins.getD at_ []) then m p (ms.getD k 0) else p
def belowN (m : Nat → Nat → Nat) (ins : List (List Int)) (ms : List Nat) (at_ : Nat) : Nat := (List.range at_).foldl (undN m ins ms at_) 0
theorem getD_some {α : Type} {xs : List α} {i : Nat} (d : α) (h : i < xs.length) : xs[i]? = some (xs.getD i d) := by
  rw [List.getElem?_eq_getElem h, List.getD_eq_getElem?_getD, List.getElem?_eq_getElem h]; rfl
theorem wdL_map {α : Type} {f g : α → D} (xs : List α) (h : ∀ x, Wd (f x) (g x)) : WdL (xs.map f) (xs.map g) := WdL.map h xs
theorem cut_one (ds : List D) : cutD ds (some 1) none = ds.drop 1 := by
  unfold cutD
  cases ds with
  | nil => rfl
  | cons d ds =>
    have h1 : HT.sIx (d :: ds).length 0 (some 1) = 1 := by
      simp [HT.sIx]
    have h2 : HT.sIx (d :: ds).length (d :: ds).length none = (d :: ds).length := rfl
    rw [h1, h2, List.take_of_length_le]
    simp
section
variable {P : Program} {w : World} {K : PySem.W.Frag} {mg : Str → Option Value} {base : Heap} {f CG Ct C : Addr} {fd : FuncData} {k : Nat}
def R_subgroup_at (ds : List D) (r : Res) : Prop := ∃ (rows : List (List Nat)) (k : Nat), ds = [.lst (rows.map xN), nI k] ∧ 0 < rows.length ∧ r = .ok (xN (subAt rows k))
abbrev s_subgroup_at : Stmt := top 36
theorem sc_subgroup_at : FnScope ["row", "k"] ["row", "k"] (defScope s_subgroup_at) := ⟨rfl, rfl, rfl, by decide +kernel, rfl, by decide +kernel, by decide +kernel⟩
theorem ok_subgroup_at (T : Txt K mg) (F : FnP K "subgroup_at" s_subgroup_at f fd) (hm : mg "subgroup_at" = some (.ref f)) : DefOk P w K mg base "subgroup_at" (k + 1) R_subgroup_at := by
  refine def_ok F hm sc_subgroup_at (fun ds r ⟨_, _, e, _⟩ => by rw [e]; rfl) (fun _ _ _ _ _ _ us hl => match us, hl with | [_, _], _ => rfl) fun cdv A outer s H E hr ds r hR => ?_
  obtain ⟨rows, k', rfl, h0, rfl⟩ := hR
  refine dss_one (ds_ret (de_ixL (ds := rows.map xN) (i := (min (max k' 1) rows.length - 1 : Nat)) (d := xN (subAt rows k')) (de_var 0) (DE.is (de_sub (de_min2 (ha := da_cons (de_max2 (ha := da_cons (de_var 1) (da_cons de_int da_nil)) (hm := T.nMax)) (da_cons (de_lenL (de_var 0) T.nLen) da_nil)) (hm := T.nMin)) de_int) ?_) ?_) rfl)
  · rw [List.length_map]
    show D.int _ = D.int _
    refine congrArg D.int ?_
    split <;> split <;> omega
  · exact atI_nat (by rw [List.getElem?_map, getD_some [] (by omega)]; rfl)
def R_coefficient_choices (ds : List D) (r : Res) : Prop := ∃ (rows : List (List Nat)) (ins : List (List Int)), ds = [.lst (rows.map xN), lF tI ins] ∧ 0 < rows.length ∧ ins.length < 10000 ∧ (∀ s ∈ ins, s.length < 10000) ∧ r = .ok (lF tN (choN rows ins))
abbrev s_coefficient_choices : Stmt := top 41
abbrev N_coefficient_choices : List Str := ["row", "inputs", "signs"]
theorem sc_coefficient_choices : FnScope N_coefficient_choices ["row", "inputs"] (defScope s_coefficient_choices) := ⟨rfl, rfl, rfl, by decide +kernel, rfl, by decide +kernel, by decide +kernel⟩
theorem ok_coefficient_choices (T : Txt K mg) (O : DefOk P w K mg base "subgroup_at" k R_subgroup_at) (O2 : DefOk P w K mg base "weight" k R_weight) (F : FnP K "coefficient_choices" s_coefficient_choices f fd) (hm : mg "coefficient_choices" = some (.ref f)) : DefOk P w K mg base "coefficient_choices" (k + 1) R_coefficient_choices := by
  refine def_ok F hm sc_coefficient_choices (fun ds r ⟨_, _, e, _⟩ => by rw [e]; rfl) (fun _ _ _ _ _ _ us hl => match us, hl with | [_, _], _ => rfl) fun cdv A outer s H E hr ds r hR => ?_
  obtain ⟨rows, ins, rfl, h0, hz, hs, rfl⟩ := hR
  have nd := sc_coefficient_choices.nd
  have zl := sizeLine_eq
  refine dss_one (ds_ret ((de_of_do (do_cat (de_of_do (do_lstl (da_cons (de_tupl (da_cons de_int da_nil)) da_nil))) (de_of_do (do_lc0 (ins.drop 1) tI [2] (fun s => [tI s]) (fun s => xN (subAt rows (wtN s))) [("signs", 2)] nd (blkOk_by (N := N_coefficient_choices) (sc := defScope s_coefficient_choices) (by decide +kernel)) (DI.is (di_list (de_of_do (do_slFrom (de_var 1) de_int))) ?_) ?_ ?_ ?_)) ?_)).weak ?_) rfl)
  · rw [cut_one, List.map_drop]
  · rw [List.length_drop]; omega
  · exact fun _ _ _ _ _ z _ => dg_name 2 nd
  · exact fun _ _ _ _ _ z hz => de_call O (hr.mono (by omega)) (da_cons (de_var 0) (da_cons (DE.is (de_call O2 (hr.mono (by omega)) (da_cons (de_var 2) da_nil) ⟨z, rfl, hs z (List.mem_of_mem_drop hz), rfl⟩) rfl) da_nil)) ⟨rows, wtN z, rfl, h0, rfl⟩
  · rw [List.length_map, List.length_drop]; show 1 + _ ≤ _; omega
  · refine .lst (.cons (.refl _) ?_)
    rw [List.map_map]
    exact wdL_map _ fun s => wd_x _
def R_check_count (C : Addr) (ds : List D) (r : Res) : Prop := ∃ cs : List (List Nat), ds = [lF tN cs] ∧ (∀ c ∈ cs, c.length < 10000) ∧ r = if prodN (cs.map List.length) ≤ 1024 then .ok .non else .err C
abbrev s_check_count : Stmt := top 42
abbrev N_check_count : List Str := ["choices", "count", "members"]
theorem sc_check_count : FnScope N_check_count ["choices"] (defScope s_check_count) := ⟨rfl, rfl, rfl, by decide +kernel, rfl, by decide +kernel, by decide +kernel⟩
theorem ok_check_count (T : Txt K mg) (c : ExcOk K mg "TooLarge" C) (F : FnP K "check_count" s_check_count f fd) (hm : mg "check_count" = some (.ref f)) : DefOk P w K mg base "check_count" (k + 1) (R_check_count C) := by
  refine def_ok F hm sc_check_count (fun ds r ⟨_, e, _⟩ => by rw [e]; rfl) (fun _ _ _ _ _ _ us hl => match us, hl with | [_], _ => rfl) fun cdv A outer s H E hr ds r hR => ?_
  obtain ⟨cs, rfl, hz, rfl⟩ := hR
  have nd := sc_check_count.nd
  refine dss_cons (ds_set 1 nd de_int ?_)
  refine dss_cons (ds_for cs tN [2] (fun k => [tN k]) (passes_of rfl) (di_list (de_var 0)) (fun _ _ => dg_name 2 nd) (fun i ρ' => ∃ s, ρ' = [.val (lF tN cs), .val (nI (((cs.map List.length).take i).foldl (· * ·) 1)), s]) ⟨_, rfl⟩ ?_ ?_)
  · rintro i k ρ' hk ⟨s, rfl⟩
    refine dss_one (ds_aug 1 nd iop_mul (rd_I (C := CMul) (.inr ?_) fun _ => .int) (de_lenT (de_var 2) T.nLen) ⟨.val (tN k), ?_⟩)
    · have := hz k (List.mem_of_getElem? hk)
      rw [List.length_map]; omega
    · rw [foldl_snoc (cs.map List.length) i k.length (by rw [List.getElem?_map, hk]; rfl)]; simp [setD, nI, Int.natCast_mul]
  · rintro ρ' ⟨s, rfl⟩
    rw [show (cs.map List.length).take cs.length = cs.map List.length from List.take_of_length_le (by simp)]
    refine dss_one (ds_if (k := decide ((1024 : Int) < (prodN (cs.map List.length) : Nat))) (dt_cmp op_gt rd_gt (de_var 1) (de_globI T.charts) (nomark _)) (fun h => ?_) fun h => ?_)
    · have := of_decide_eq_true h
      exact dss_one (ds_raise c (by show _ = _; rw [if_neg (by omega)]))
    · have := of_decide_eq_false h
      exact dss_nil (by show _ = _; rw [if_pos (by omega)])
def R_product_below (CG : Addr) (ds : List D) (r : Res) : Prop := ∃ (n : Nat) (m : Nat → Nat → Nat) (ins : List (List Int)) (ms : List Nat) (at_ : Nat), ds = [gD CG n m, lF tI ins, lN ms, nI at_] ∧ Grp n m ∧ at_ < ins.length ∧ at_ ≤ ms.length ∧ ins.length < 10000 ∧ (∀ s ∈ ins, s.length < 10000) ∧ (∀ x ∈ ms, x < n) ∧ r = .ok (nI (belowN m ins ms at_))
theorem undN_lt {n : Nat} {m : Nat → Nat → Nat} {ins : List (List Int)} {ms : List Nat} {at_ p k : Nat} (g : Grp n m) (hm : ∀ x ∈ ms, x < n) (hp : p < n) : undN m ins ms at_ p k < n := by
  unfold undN
  split
  · refine g.cl _ _ hp ?_
    by_cases h : k < ms.length
    · exact hm _ (List.mem_of_getElem? (getD_some 0 h))
    · rw [List.getD_eq_getElem?_getD, List.getElem?_eq_none (by omega)]; exact g.pos
  · exact hp
theorem below_lt {n : Nat} {m : Nat → Nat → Nat} {ins : List (List Int)} {ms : List Nat} {at_ : Nat} (g : Grp n m) (hm : ∀ x ∈ ms, x < n) : ∀ (ks : List Nat) (p : Nat), p < n → ks.foldl (undN m ins ms at_) p < n
  | [], p, hp => hp
  | k :: ks, p, hp => below_lt g hm ks _ (undN_lt g hm hp)
abbrev s_product_below : Stmt := top 48
abbrev N_product_below : List Str := ["group", "inputs", "members", "at", "product", "k"]
theorem sc_product_below : FnScope N_product_below ["group", "inputs", "members", "at"] (defScope s_product_below) := ⟨rfl, rfl, rfl, by decide +kernel, rfl, by decide +kernel, by decide +kernel⟩
theorem ok_product_below (T : Txt K mg) (c : GCls K CG) (O : DefOk P w K mg base "lies_under" k R_lies_under) (F : FnP K "product_below" s_product_below f fd) (hm : mg "product_below" = some (.ref f)) : DefOk P w K mg base "product_below" (k + 1) (R_product_below CG) := by
  refine def_ok F hm sc_product_below (fun ds r ⟨_, _, _, _, _, e, _⟩ => by rw [e]; rfl) (fun _ _ _ _ _ _ us hl => match us, hl with | [_, _, _, _], _ => rfl) fun cdv A outer s H E hr ds r hR => ?_
  obtain ⟨n, m, ins, ms, at_, rfl, g, ha, hms, hz, hs, hl, rfl⟩ := hR
  have nd := sc_product_below.nd
  have hin : ∀ {q}, q < ins.length → ins[q]? = some (ins.getD q []) := fun h => getD_some [] h
  refine dss_cons (ds_set 4 nd de_int ?_)
  refine dss_cons (ds_for (List.range at_) nI [5] (fun k => [nI k]) (passes_of rfl) (di_rng (de_var 3) T.nRange (by omega)) (fun _ _ => dg_name 5 nd) (fun i ρ' => ∃ s, ρ' = [.val (gD CG n m), .val (lF tI ins), .val (lN ms), .val (nI at_), .val (nI (((List.range at_).take i).foldl (undN m ins ms at_) 0)), s]) ⟨_, rfl⟩ ?_ ?_)
  · rintro i k ρ' hk ⟨s, rfl⟩
    have hk' : k < at_ := List.mem_range.mp (List.mem_of_getElem? hk)
    have e : ((List.range at_).take (i + 1)).foldl (undN m ins ms at_) 0 = undN m ins ms at_ (((List.range at_).take i).foldl (undN m ins ms at_) 0) k := by
      rw [List.take_add_one, hk, List.foldl_append]; rfl
    rw [e]
    have hp := below_lt (ins := ins) (at_ := at_) g hl ((List.range at_).take i) 0 g.pos
    refine dss_one (ds_if (k := underB (ins.getD k []) (ins.getD at_ [])) (dt_of (de_call O hr (da_cons (de_ixLf (f := tI) (xs := ins) (de_var 1) (de_var 5) (hin (by omega))) (da_cons (de_ixLf (f := tI) (xs := ins) (de_var 1) (de_var 3) (hin ha)) da_nil)) ⟨ins.getD k [], ins.getD at_ [], rfl, hs _ (List.mem_of_getElem? (hin (by omega))), rfl⟩)) (fun h => ?_) fun h => ?_)
    · have hq : ms.getD k 0 < n := hl _ (List.mem_of_getElem? (getD_some 0 (by omega)))
      refine dss_one (ds_set 4 nd (de_tabT (m := m) (de_rows c (de_var 0)) (de_var 4) (de_ixLf (f := nI) (xs := ms) (de_var 2) (de_var 5) (getD_some 0 (by omega))) hp hq) ⟨.val (nI k), ?_⟩)
      unfold undN
      rw [if_pos h]; rfl
    · refine dss_nil ⟨.val (nI k), ?_⟩
      unfold undN
      rw [h]; rfl
  · rintro ρ' ⟨s, rfl⟩
    exact dss_one (ds_ret (de_var 4) (by rw [List.take_of_length_le (by simp)]; rfl))
end
end DL
set_option maxHeartbeats 4000000
namespace DL
open PySem PySem.Spec PyProof.Rows L2
/-! ### enumerate of a tuple -/
/-- the tuple at a at each turn, the items in new pairs with their numbers -/
def IteT (K : PySem.W.Frag) (a : Addr) : It where
  go := fun i H => ∃ (xs : List V) (x : V), SqT K H a xs ∧ xs[i]? = some x
  yld := fun i H v H' => ∃ T x, v = .ref T ∧ H T = none ∧ H' = upd H T (.tup [.int (i : Nat), x]) ∧ ∀ xs, SqT K H a xs → xs[i]? = some x
  stop := fun i H => ∃ xs : List V, SqT K H a xs ∧ xs.length = i
theorem isTup_cls {h : Heap} {a : Addr} {xs : Array Value} (p : h.IsTuple a xs) : ∃ o, h.get? a = some o ∧ o.cls = .type "tuple" := by
  obtain ⟨o, ho, hc, _⟩ := p
  exact ⟨o, ho, hc⟩
theorem cls_apart {h : Heap} {a b : Addr} {o o' : Obj} {x y : String} (h1 : h.get? a = some o) (h2 : h.get? b = some o') (c1 : o.cls = .type x) (c2 : o'.cls = .type y) (n : x ≠ y) : a ≠ b := fun e => by
  subst e
  rw [h1] at h2
  cases h2
  rw [c1] at c2
  cases c2
  exact n rfl
theorem turn_enumT {P : Program} {w : World} {K : PySem.W.Frag} {elts : List Expr} {kk : Nat} {tpos : Pos} (a e it : Addr) :
    Turn P w K (.Tuple elts kk tpos) (IteT K a) [e, it] e (fun i h => (∃ old, IsEnum h e it ((i : Nat) : Int) old) ∧ h.IsTupleIter it a i ∧ e ≠ it) where
  mem := List.mem_cons_self
  obj := fun i h st b hb => by
    obtain ⟨⟨old, he⟩, ⟨o, ho, hc, hd⟩, _⟩ := st
    rcases List.mem_cons.mp hb with z | z
    · exact z ▸ ⟨_, he, fun v q => nomatch q⟩
    · have z' : b = it := by simpa using z
      exact z' ▸ ⟨o, ho, fun v q => by rw [hd] at q; cases q⟩
  keep := fun i h h' ⟨⟨old, he⟩, hi, hne⟩ k => ⟨⟨old, k e List.mem_cons_self _ he⟩, hi.at fun o q => k it (List.mem_cons_of_mem _ List.mem_cons_self) o q, hne⟩
  item := by
    intro X hP hw hK hc i pins s σ H E I hf st hg
    subst hP hw hK
    obtain ⟨⟨old, he⟩, hit, hne⟩ := st
    obtain ⟨xs, x, hq, hx⟩ := hg
    obtain ⟨its, rv, p, hz⟩ := I.tuple hq
    obtain ⟨u, hu, ru⟩ := rv.get hx
    obtain ⟨ot, hot, hct⟩ := isTup_cls (show s.heap.IsTuple a its.toArray from p)
    obtain ⟨oi, hoi, hci, _⟩ := id hit
    have hai : a ≠ it := cls_apart hot hoi hct hci (by decide)
    have hea : e ≠ a := cls_apart he hot rfl hct (by decide)
    have hel : e < s.heap.objs.size := Heap.lt_size he
    have hil : it < s.heap.objs.size := Heap.lt_size hoi
    refine wpAny_pyNext_enum_itemD (n := its.toArray.size) (Draws.tuple (prog := X.prog) (w := X.w) (A := X.A.in1) (show X.A.in1.handled = none from I.ok.hd hc) it a hai its.toArray) he ⟨hit, p⟩ ?_ hne (by simp [hne, hea]) fun x' h' tk hP ho hst hT hsz hk => ?_
    · rw [List.size_toArray]; exact (List.getElem?_eq_some_iff.mp hu).1
    have ex : x' = u := by
      have : its.toArray[i]? = some u := by simpa using hu
      rw [this] at hP; exact (Option.some.inj hP).symm
    subst ex
    refine ⟨_, rfl, wpAny_letOwnedTupleGo_enum (s := { s with heap := h', toks := tk + 1 }) ho fun h'' he' sb => ?_⟩
    have hT2 : h''.get? s.heap.objs.size = some { cls := .type "tuple", data := .seq #[.int i tk, x'] } := (sb.2 _ (Nat.ne_of_gt hel)).trans hT
    have new : ObjOk X.prog X.w (upd H s.heap.objs.size (.tup [.int (i : Nat), x])) h'' s.heap.objs.size (.tup [.int (i : Nat), x]) :=
      ⟨by show 2 ≤ sizeLine; decide, [.int i tk, x'], .cons ⟨_, rfl⟩ (.cons ru .nil), ⟨_, hT2, rfl, _, rfl⟩⟩
    have far : ∀ b, b ∉ [e, it] → b ≠ e ∧ b ≠ it := fun b hb => ⟨fun z => hb (by simp [z]), fun z => hb (by simp [z])⟩
    have I1 : Inv X pins σ (upd H s.heap.objs.size (.tup [.int (i : Nat), x])) { s with heap := h'', toks := tk + 1 } :=
      I.turnedNew (ch := [e, it]) (fun b ob hb q => (sb.2 b (far b hb).1).trans (hk b ob (far b hb).1 (far b hb).2 q)) hf (Nat.le_refl _) new
    refine ⟨.ref s.heap.objs.size, _, I1, rfl, ⟨_, x, rfl, I.hok.fresh (Nat.le_refl _), rfl, fun ys hy => by rw [I.tuple_inj hy hq]; exact hx⟩, ⟨⟨x', by rw [Int.natCast_add]; exact he'⟩, hst.1.at fun o q => (sb.2 it (Ne.symm hne)).trans q, hne⟩, fun b hb => ?_⟩
    have hb' : b < s.heap.objs.size := by
      rcases List.mem_cons.mp hb with z | z
      · exact z ▸ hel
      · have z' : b = it := by simpa using z
        exact z' ▸ hil
    rw [upd_ne (Nat.ne_of_lt hb')]
    exact (hf b hb).1
  done := by
    intro X hP hw hK hc i pins s σ H E I hf st hg
    subst hP hw hK
    obtain ⟨⟨old, he⟩, hit, hne⟩ := st
    obtain ⟨xs, hq, hx⟩ := hg
    obtain ⟨its, rv, p, hz⟩ := I.tuple hq
    obtain ⟨f0, f1, f2, f3, f4, f5⟩ := hf it (by simp)
    have hl := rv.length
    have sz : its.toArray.size = i := by rw [List.size_toArray]; omega
    obtain ⟨ot, hot, hct⟩ := isTup_cls (show s.heap.IsTuple a its.toArray from p)
    obtain ⟨oi, hoi, hci, _⟩ := id hit
    have hai : a ≠ it := cls_apart hot hoi hct hci (by decide)
    exact wpAny_pyNext_enum_endD (Draws.tuple (prog := X.prog) (w := X.w) (A := X.A.in1) (show X.A.in1.handled = none from I.ok.hd hc) it a hai its.toArray) he ⟨sz.symm ▸ hit, p⟩ fun h' eb => ⟨rfl, I.turned (t' := s.toks) (fun b o hb q => eb b o hb q) f0 f1 f3 f4 f5⟩
  self := fun A i s Q E ⟨⟨_, he⟩, _⟩ h => wpAny_pyIter_enum he h
/-! making it -/
theorem enum_new1 {v : Value} {o : Obj} {S : Heap → Prop} (B : Begins v o S) : Meets (Builtin.«enumerate.__new__» ⟨[.type "enumerate", v], []⟩) (fun _ R s => S s.heap ∧
      R (.ok (.ret (.ref (s.heap.push o).objs.size))) { s with heap := (s.heap.push o).push { cls := .type "enumerate", data := .fields #[.none, .bool false, .ref s.heap.objs.size, rawInt 0, .none, .none] } }) :=
  .of_wp fun prog w A R s ⟨h1, h⟩ => by
    obtain ⟨hp, g, d, tk, os⟩ := s
    have sub := sub_enumerate
    have begun : ∀ {A' : Around} {E Q : Value → Shared → Prop}, Q (.ref hp.objs.size) ⟨hp.push o, g, d, tk, os⟩ → wpAny (model prog w) A' (pyIter v) Q E ⟨hp, g, d, tk, os⟩ := fun q => B.iter prog w _ _ ⟨hp, g, d, tk, os⟩ _ h1 q
    wp_walk using begun
    refine wpAny_stack_any fun st => wpAny_pure ?_
    split
    · rename_i c _ _ _ _ _
      cases (c == Value.type "enumerate") <;> (wp_walk using begun; exact ⟨_, rfl, h⟩)
    · wp_walk using begun
      exact ⟨_, rfl, h⟩
theorem enum_make1 {prog : Program} {w : World} {A : Around} {E : Value → Shared → Prop} {s : Shared} {v : Value} {o : Obj} {S : Heap → Prop} {Q : Value → Shared → Prop} (B : Begins v o S) (h1 : S s.heap)
    (h : ∀ h', IsEnum h' (s.heap.objs.size + 1) s.heap.objs.size 0 .none → h'.get? s.heap.objs.size = some o → (∀ b u, s.heap.get? b = some u → h'.get? b = some u) → Q (.ref (s.heap.objs.size + 1)) { s with heap := h' }) :
    wpAny (model prog w) A (call (.type "enumerate") [v]) Q E s := by
  refine callType_new F.called_enumerate (by decide) (F.typeCall_enumerate_1 _) (F.newCall_enumerate_1 _) (fun obj => F.args_object_init_2 obj _) F.entry_enumerate_new (enum_new1 B) ⟨h1, ?_⟩
  have z : (s.heap.push o).objs.size = s.heap.objs.size + 1 := Heap.size_push ..
  have he := Heap.get?_push_size (s.heap.push o) (o := { cls := .type "enumerate", data := .fields #[.none, .bool false, .ref s.heap.objs.size, rawInt 0, .none, .none] }) rfl
  rw [z] at he
  show _ ∧ _
  rw [z]
  exact ⟨⟨_, he, rfl⟩, h _ he (Heap.get?_push_of_some _ (Heap.get?_push_size _ B.free)) fun b u x => Heap.get?_push_of_some _ (Heap.get?_push_of_some _ x)⟩
def iEnumT (K : PySem.W.Frag) (ta : TA) : TI := fun σ H R => ta σ H fun vs H1 => ∃ a xs, vs = [.ref a] ∧ SqT K H1 a xs ∧ R (IteT K a) H1
theorem pi_enumT {X : Cx} {e : Expr} {ta : TA} {p pos tpos : Pos} {elts : List Expr} {kk : Nat} (hg : Gl X "enumerate") (hm : X.mg "enumerate" = none) (ha : PA X [e] ta) (hs : starEach [e] X.env = [(false, eval e X.env)] := by rfl) :
    PI X (.Tuple elts kk tpos) (.Call (.Name "enumerate" p) [e] [] pos) (iEnumT X.K ta) := ⟨fun pins s σ H R I h => by
  refine Call_ (ld_blt I hg hm boot_enumerate (PyProof.Rows.callWith_type1 (thn (ha.run pos pins s σ H _ I h) fun us s1 ⟨vs, H1, I1, r1, a, xs, ex, hq, q⟩ => ?_) hs rfl))
  subst ex
  cases r1 with
  | cons r rr =>
    cases rr
    cases r
    obtain ⟨its, rv, p', hz⟩ := I1.tuple hq
    refine enum_make1 (begins_tuple a its.toArray) p' fun h' he hit hk => wpAny_pyIter_enum he ?_
    have I2 : Inv X pins σ H1 { s1 with heap := h' } := I1.kept (t' := s1.toks) hk
    refine ⟨s1.heap.objs.size + 1, [s1.heap.objs.size + 1, s1.heap.objs.size], _, _, H1, rfl, I2, turn_enumT a (s1.heap.objs.size + 1) s1.heap.objs.size, ⟨⟨.none, he⟩, ⟨_, hit, rfl, rfl⟩, Nat.succ_ne_self _⟩, fun b hb => ?_, q⟩
    have hle : s1.heap.objs.size ≤ b := by
      rcases List.mem_cons.mp hb with z | z
      · rw [z]; exact Nat.le_succ _
      · have z' : b = s1.heap.objs.size := by simpa using z
        exact Nat.le_of_eq z'.symm
    exact I1.fpOk hle (I1.hok.fresh hle)⟩
theorem walk_enumT {K : PySem.W.Frag} {a : Addr} {xs : List V} {n : Nat} (hn : n = xs.length) : Walk (IteT K a) n (fun H => SqT K H a xs) (YPair (fun i => if i < n then some (.int (i : Nat)) else none) (fun i => xs[i]?)) := by
  subst hn
  refine ⟨fun i _ hi q => ⟨xs, xs[i], q, List.getElem?_eq_getElem hi⟩, fun _ q => ⟨xs, q, rfl⟩, fun i H v H' hi q y => ?_⟩
  obtain ⟨T, x, h1, h2, h3, h4⟩ := y
  exact ⟨T, _, x, h1, h2, h3, if_pos hi, h4 xs q⟩
section
variable {X : Cx} {e a b : Expr} {ρ : List Sl} {ds es : List D} {pos p : Pos}
theorem di_enumT {elts : List Expr} {kk : Nat} {tpos : Pos} (ha : DE X e ρ (.tup ds)) (hm : X.mg "enumerate" = none) (hg : Gl X "enumerate" := by rfl) (hs : starEach [e] X.env = [(false, eval e X.env)] := by rfl) :
    DI X (.Tuple elts kk tpos) (.Call (.Name "enumerate" p) [e] [] pos) ρ ((((List.range ds.length).map fun i => D.int (i : Nat)).zip ds).map fun q => .tup [q.1, q.2]) := fun E Z H σ S R q =>
  wi_pi (pi_enumT hg hm (pa_cons pe_we pa_nil hs) hs) (ha E Z H σ S _ fun v Z1 H1 g1 r1 => by
    cases r1 with
    | tup hz rl =>
      rename_i a xs
      refine ⟨a, xs, rfl, sq_t g1.zh hz, q _ _ _ Z1 H1 g1 (dw_pairs (Gd := fun H => SqT X.K H a xs) (f := fun i => if i < xs.length then some (.int (i : Nat)) else none) (g := fun i => xs[i]?) ?_ (fun Z' H' z zh => sq_t zh (rd_ex z hz)) (fun i v hv => ?_) (fun i v hv => rl.get' hv))⟩
      · rw [show ((((List.range ds.length).map fun i => D.int (i : Nat))).zip ds).length = xs.length by rw [List.length_zip, List.length_map, List.length_range, rl.length]; omega]
        exact walk_enumT rfl
      · split at hv
        · rename_i hi
          cases hv
          exact ⟨.int i, by rw [rl.length] at hi; simp [hi], .int⟩
        · cases hv)
end
end DL
set_option maxHeartbeats 4000000
namespace DL
open PySem PySem.Spec PyProof.Rows L2
/-! ### zip of a list and a tuple -/
/-- the list at a and the tuple at b at each turn -/
def ItzM (K : PySem.W.Frag) (a b : Addr) : It where
  go := fun i H => ∃ (xs ys : List V) (x y : V), SqL K H a xs ∧ SqT K H b ys ∧ xs[i]? = some x ∧ ys[i]? = some y
  yld := fun i H v H' => ∃ T x y, v = .ref T ∧ H T = none ∧ H' = upd H T (.tup [x, y]) ∧ (∀ xs, SqL K H a xs → xs[i]? = some x) ∧ ∀ ys, SqT K H b ys → ys[i]? = some y
  stop := fun i H => ∃ xs ys : List V, SqL K H a xs ∧ SqT K H b ys ∧ i ≤ xs.length ∧ i ≤ ys.length ∧ (i = xs.length ∨ i = ys.length)
theorem apart_sep {z TI TO i1 i2 a b : Addr} (D : ZipApart z TI TO i1 i2 a b) : ZipSep2 z TI TO i1 i2 [i1, a] [i2, b] where
  TIz := D.TIz
  TOz := D.TOz
  TITO := D.TITO
  TIi1 := D.TIi1
  mem1 := List.mem_cons_self
  zf1 := by simp [D.i1z.symm, D.l1z.symm]
  Tf1 := by simp [D.TOi1, D.l1TO.symm]
  TIi2 := D.TIi2
  mem2 := List.mem_cons_self
  zf2 := by simp [D.i2z.symm, D.l2z.symm]
  Tf2 := by simp [D.TOi2, D.l2TO.symm]
  sep1_2 := by simp [D.i12, D.l2i1.symm]
  sep2_1 := by simp [D.i12.symm, D.l1i2.symm]
theorem five {z TI TO i1 i2 c : Addr} (h : c ∉ [z, TI, TO, i1, i2]) : c ≠ z ∧ c ≠ TI ∧ c ≠ TO ∧ c ≠ i1 ∧ c ≠ i2 := by simpa using h
theorem turn_zipM {P : Program} {w : World} {K : PySem.W.Frag} {elts : List Expr} {kk : Nat} {tpos : Pos} {a b z TI TO i1 i2 : Addr} (D : ZipApart z TI TO i1 i2 a b) :
    Turn P w K (.Tuple elts kk tpos) (ItzM K a b) [z, TI, TO, i1, i2] z (fun i h => IsZip h z TI TO .none ∧ IsPair h TI (.ref i1) (.ref i2) ∧ (∃ x y, IsPair h TO x y) ∧ h.IsListIter i1 a i ∧ h.IsTupleIter i2 b i) where
  mem := List.mem_cons_self
  obj := fun i h ⟨hz, hTI, ⟨x, y, hTO⟩, ⟨o1, e1, _, d1⟩, ⟨o2, e2, _, d2⟩⟩ c hc => by
    have e' : c = z ∨ c = TI ∨ c = TO ∨ c = i1 ∨ c = i2 := by simpa using hc
    rcases e' with rfl | rfl | rfl | rfl | rfl
    · exact ⟨_, hz, fun v q => nomatch q⟩
    · exact ⟨_, hTI, fun v q => nomatch q⟩
    · exact ⟨_, hTO, fun v q => nomatch q⟩
    · exact ⟨o1, e1, fun v q => by rw [d1] at q; cases q⟩
    · exact ⟨o2, e2, fun v q => by rw [d2] at q; cases q⟩
  keep := fun i h h' ⟨hz, hTI, ⟨x, y, hTO⟩, h1, h2⟩ k => ⟨k z (by simp) _ hz, k TI (by simp) _ hTI, ⟨x, y, k TO (by simp) _ hTO⟩, h1.at fun o q => k i1 (by simp) o q, h2.at fun o q => k i2 (by simp) o q⟩
  item := by
    intro X hP hw hK hc i pins s σ H E I hf st hg
    subst hP hw hK
    obtain ⟨hz, hTI, ⟨x0, y0, hTO⟩, h1, h2⟩ := st
    obtain ⟨xs, ys, x, y, hqx, hqy, hx, hy⟩ := hg
    obtain ⟨its, rv, p, _⟩ := I.list hqx
    obtain ⟨its2, rv2, p2, _⟩ := I.tuple hqy
    obtain ⟨u, hu, ru⟩ := rv.get hx
    obtain ⟨u2, hu2, ru2⟩ := rv2.get hy
    have hzl : z < s.heap.objs.size := Heap.lt_size hz
    have nh : X.A.in1.handled = none := I.ok.hd hc
    refine wpAny_pyNext_zipD2_item (apart_sep D) (Draws.list (prog := X.prog) (w := X.w) nh i1 a D.l1i1 its.toArray) (Draws.tuple (prog := X.prog) (w := X.w) nh i2 b D.l2i2 its2.toArray) hz hTI hTO ⟨h1, p.isList⟩ ⟨h2, p2⟩ ?_ ?_ fun x1 x2 h' tk q1 q2 z' TO' s1 s2 hT hsz hk => ?_
    · rw [List.size_toArray]; exact (List.getElem?_eq_some_iff.mp hu).1
    · rw [List.size_toArray]; exact (List.getElem?_eq_some_iff.mp hu2).1
    have e1 : x1 = u := by
      have w1 : its.toArray[i]? = some u := by simpa using hu
      rw [w1] at q1; exact (Option.some.inj q1).symm
    have e2 : x2 = u2 := by
      have w2 : its2.toArray[i]? = some u2 := by simpa using hu2
      rw [w2] at q2; exact (Option.some.inj q2).symm
    subst e1 e2
    refine ⟨_, rfl, wpAny_letOwnedTupleGo_zip (s := { s with heap := h', toks := tk }) z' fun h'' z'' sb => ?_⟩
    have hT2 : h''.get? s.heap.objs.size = some { cls := .type "tuple", data := .seq #[x1, x2] } := (sb.2 _ (Nat.ne_of_gt hzl)).trans hT
    have new : ObjOk X.prog X.w (upd H s.heap.objs.size (.tup [x, y])) h'' s.heap.objs.size (.tup [x, y]) :=
      ⟨by show 2 ≤ sizeLine; decide, [x1, x2], .cons ru (.cons ru2 .nil), ⟨_, hT2, rfl, _, rfl⟩⟩
    have I1 : Inv X pins σ (upd H s.heap.objs.size (.tup [x, y])) { s with heap := h'', toks := tk } :=
      I.turnedNew (ch := [z, TI, TO, i1, i2]) (fun c o hb q => by
        obtain ⟨n1, n2, n3, n4, n5⟩ := five hb
        exact (sb.2 c n1).trans (hk c o n1 n3 n4 n5 q)) hf (Nat.le_refl _) new
    refine ⟨.ref s.heap.objs.size, _, I1, rfl, ⟨_, x, y, rfl, I.hok.fresh (Nat.le_refl _), rfl, fun l hl => by rw [I.list_inj hl hqx]; exact hx, fun l hl => by rw [I.tuple_inj hl hqy]; exact hy⟩, ⟨z'', (sb.2 _ D.TIz).trans (hk _ _ D.TIz D.TITO D.TIi1 D.TIi2 hTI), ⟨_, _, (sb.2 _ D.TOz).trans TO'⟩, s1.1.at fun o q => (sb.2 _ D.i1z).trans q, s2.1.at fun o q => (sb.2 _ D.i2z).trans q⟩, fun c hcm => ?_⟩
    have hlt : c < s.heap.objs.size := by
      have e' : c = z ∨ c = TI ∨ c = TO ∨ c = i1 ∨ c = i2 := by simpa using hcm
      rcases e' with q | q | q | q | q
      · exact q ▸ hzl
      · exact q ▸ Heap.lt_size hTI
      · exact q ▸ Heap.lt_size hTO
      · obtain ⟨_, e1, _⟩ := h1; exact q ▸ Heap.lt_size e1
      · obtain ⟨_, e1, _⟩ := h2; exact q ▸ Heap.lt_size e1
    rw [upd_ne (Nat.ne_of_lt hlt)]
    exact (hf c hcm).1
  done := by
    intro X hP hw hK hc i pins s σ H E I hf st hg
    subst hP hw hK
    obtain ⟨hz, hTI, ⟨x0, y0, hTO⟩, h1, h2⟩ := st
    obtain ⟨xs, ys, hqx, hqy, l1, l2, hend⟩ := hg
    obtain ⟨its, rv, p, _⟩ := I.list hqx
    obtain ⟨its2, rv2, p2, _⟩ := I.tuple hqy
    have r1 := rv.length
    have r2 := rv2.length
    have nh : X.A.in1.handled = none := I.ok.hd hc
    have z1 : its.toArray.size = xs.length := by rw [List.size_toArray]; omega
    have z2 : its2.toArray.size = ys.length := by rw [List.size_toArray]; omega
    exact wpAny_pyNext_zipD2_end (apart_sep D) (Draws.list (prog := X.prog) (w := X.w) nh i1 a D.l1i1 its.toArray) (Draws.tuple (prog := X.prog) (w := X.w) nh i2 b D.l2i2 its2.toArray) hz hTI hTO ⟨h1, p.isList⟩ ⟨h2, p2⟩ (by omega) (by omega) (by omega) fun h' tk hk => ⟨rfl, I.turnedL (ch := [z, TI, TO, i1, i2]) (fun c o hb q => by
        obtain ⟨n1, n2, n3, n4, n5⟩ := five hb
        exact hk c o n1 n3 n4 n5 q) hf⟩
  self := fun A i s Q E st h => wpAny_pyIter_zip st.1 h
def iZipM (K : PySem.W.Frag) (ta : TA) : TI := fun σ H R => ta σ H fun vs H1 => ∃ a b xs ys, vs = [.ref a, .ref b] ∧ SqL K H1 a xs ∧ SqT K H1 b ys ∧ R (ItzM K a b) H1
theorem pi_zipM {X : Cx} {e e2 : Expr} {ta : TA} {p pos tpos : Pos} {elts : List Expr} {kk : Nat} (hg : Gl X "zip") (hm : X.mg "zip" = none) (ha : PA X [e, e2] ta)
    (hs : starEach [e, e2] X.env = (false, eval e X.env) :: starEach [e2] X.env := by rfl) (hpl : (backTo pos (starEach [e2] X.env)).any (·.1) = false := by rfl) :
    PI X (.Tuple elts kk tpos) (.Call (.Name "zip" p) [e, e2] [] pos) (iZipM X.K ta) := ⟨fun pins s σ H R I h => by
  refine Call_ (ld_blt I hg hm PyProof.Rows.boot_zip (PyProof.Rows.callWith_type1 (thn (ha.run pos pins s σ H _ I h) fun us s1 ⟨vs, H1, I1, r1, a, b, xs, ys, ex, hqx, hqy, q⟩ => ?_) hs hpl))
  subst ex
  cases r1 with
  | cons r rr =>
    cases rr with
    | cons r' rr =>
      cases rr
      cases r
      cases r'
      obtain ⟨its, rv, p1, _⟩ := I1.list hqx
      obtain ⟨its2, rv2, p2, _⟩ := I1.tuple hqy
      obtain ⟨o2, ho2, _⟩ := id p2
      refine zip_begins2 (begins_list a its.toArray) (begins_tuple b its2.toArray) p1.isList p2 fun h' hz hTI hTO h1 h2 hsz hk => wpAny_pyIter_zip hz ?_
      have I2 : Inv X pins σ H1 { s1 with heap := h' } := I1.kept (t' := s1.toks) hk
      refine ⟨s1.heap.objs.size + 4, [s1.heap.objs.size + 4, s1.heap.objs.size + 2, s1.heap.objs.size + 3, s1.heap.objs.size, s1.heap.objs.size + 1], _, _, H1, rfl, I2, turn_zipM (PySem.W.ktu_apart s1.heap.objs.size a b p1.lt (Heap.lt_size ho2)), ⟨hz, hTI, ⟨_, _, hTO⟩, ⟨_, h1, rfl, rfl⟩, ⟨_, h2, rfl, rfl⟩⟩, fun c hcm => ?_, q⟩
      have hle : s1.heap.objs.size ≤ c := by
        have e' : c = s1.heap.objs.size + 4 ∨ c = s1.heap.objs.size + 2 ∨ c = s1.heap.objs.size + 3 ∨ c = s1.heap.objs.size ∨ c = s1.heap.objs.size + 1 := by simpa using hcm
        rcases e' with z | z | z | z | z <;> rw [z]
        · exact Nat.le_add_right _ _
        · exact Nat.le_add_right _ _
        · exact Nat.le_add_right _ _
        · exact Nat.le_refl _
        · exact Nat.le_add_right _ _
      exact I1.fpOk hle (I1.hok.fresh hle)⟩
theorem walk_zipM {K : PySem.W.Frag} {a b : Addr} {xs ys : List V} {n : Nat} (hn : n = min xs.length ys.length) : Walk (ItzM K a b) n (fun H => SqL K H a xs ∧ SqT K H b ys) (YPair (fun i => xs[i]?) (fun i => ys[i]?)) := by
  subst hn
  refine ⟨fun i _ hi q => ⟨xs, ys, _, _, q.1, q.2, List.getElem?_eq_getElem (Nat.lt_of_lt_of_le hi (Nat.min_le_left _ _)), List.getElem?_eq_getElem (Nat.lt_of_lt_of_le hi (Nat.min_le_right _ _))⟩, fun _ q => ⟨xs, ys, q.1, q.2, Nat.min_le_left _ _, Nat.min_le_right _ _, by omega⟩, fun i H v H' _ q y => ?_⟩
  obtain ⟨T, x, z, h1, h2, h3, h4, h5⟩ := y
  exact ⟨T, x, z, h1, h2, h3, h4 xs q.1, h5 ys q.2⟩
section
variable {X : Cx} {e a b : Expr} {ρ : List Sl} {ds es : List D} {pos p : Pos}
theorem di_zipM {elts : List Expr} {kk : Nat} {tpos : Pos} (ha : DE X a ρ (.lst ds)) (hb : DE X b ρ (.tup es)) (hm : X.mg "zip" = none) (hg : Gl X "zip" := by rfl)
    (hs : starEach [a, b] X.env = (false, eval a X.env) :: starEach [b] X.env := by rfl) (hs2 : starEach [b] X.env = (false, eval b X.env) :: starEach [] X.env := by rfl) (hpl : (backTo pos (starEach [b] X.env)).any (·.1) = false := by rfl) :
    DI X (.Tuple elts kk tpos) (.Call (.Name "zip" p) [a, b] [] pos) ρ ((ds.zip es).map fun q => .tup [q.1, q.2]) := fun E Z H σ S R q =>
  wi_pi (pi_zipM hg hm (pa_cons pe_we (pa_cons pe_we pa_nil hs2) hs) hs hpl) (ha E Z H σ S _ fun v Z1 H1 g1 r1 => hb E Z1 H1 σ (S.grow g1) _ fun u Z2 H2 g2 r2 => by
    cases r1 with
    | lst hz rl =>
      cases r2 with
      | tup hz2 rl2 =>
        rename_i a1 xs b1 ys
        exact ⟨a1, b1, xs, ys, rfl, SqL.of (g2.zh _ _ (g2.z _ _ hz)), sq_t g2.zh hz2, q _ _ _ Z2 H2 (g1.trans g2) (dw_pairs (walk_zipM (by rw [List.length_zip, rl.length, rl2.length])) (fun Z' H' z zh => ⟨SqL.of (zh _ _ (z _ _ (g2.z _ _ hz))), sq_t zh (rd_ex z hz2)⟩) (fun i v hv => (rl.mono g2.z).get' hv) (fun i v hv => rl2.get' hv))⟩)
end
end DL
set_option maxHeartbeats 4000000
namespace DL
open PySem PySem.Spec PyProof.Rows L2
/-! ### Chart -/
def chFs (CG : Addr) (n : Nat) (m : Nat → Nat → Nat) (sh es : List Nat) : List (Str × D) := [("group", gD CG n m), ("shape", tN sh), ("entries", tN es)]
abbrev chD (CC CG : Addr) (n : Nat) (m : Nat → Nat → Nat) (sh es : List Nat) : D := .obj CC (chFs CG n m sh es)
structure CCls (K : PySem.W.Frag) (C : Addr) : Prop where
  cl : Cls K C
  nG : NoAttr K C "group"
  nS : NoAttr K C "shape"
  nE : NoAttr K C "entries"
/-- entries come as a list or a tuple -/
def esD (l : Bool) (es : List Nat) : D := if l then lN es else tN es
section
variable {X : Cx} {e a b c o : Expr} {ρ : List Sl} {pos p : Pos} {n i j : Nat} {m : Nat → Nat → Nat} {CG CC : Addr} {sh es : List Nat}
theorem de_cgroup (c : CCls X.K CC) (ho : DE X o ρ (chD CC CG n m sh es)) (hb : attributeBase o "group" X.env (eval o X.env) = eval o X.env := by rfl) : DE X (.Attribute o "group" pos) ρ (gD CG n m) := de_fld c.cl c.nG ho rfl hb
theorem de_cshape (c : CCls X.K CC) (ho : DE X o ρ (chD CC CG n m sh es)) (hb : attributeBase o "shape" X.env (eval o X.env) = eval o X.env := by rfl) : DE X (.Attribute o "shape" pos) ρ (tN sh) := de_fld c.cl c.nS ho rfl hb
theorem de_centries (c : CCls X.K CC) (ho : DE X o ρ (chD CC CG n m sh es)) (hb : attributeBase o "entries" X.env (eval o X.env) = eval o X.env := by rfl) : DE X (.Attribute o "entries" pos) ρ (tN es) := de_fld c.cl c.nE ho rfl hb
end
theorem di_es {X : Cx} {tg l : Expr} {ρ : List Sl} {es : List Nat} (lt : Bool) (h : DE X l ρ (esD lt es)) : DI X tg l ρ (es.map nI) := by
  cases lt with
  | true => exact di_list h
  | false => exact di_tup h
theorem de_lenE {X : Cx} {a : Expr} {ρ : List Sl} {es : List Nat} {p pos : Pos} (lt : Bool) (ha : DE X a ρ (esD lt es)) (hm : X.mg "len" = none) (hg : Gl X "len" := by rfl) (he : starEach (a :: []) X.env = (false, eval a X.env) :: starEach [] X.env := by rfl) (hpl : (backTo pos (starEach [] X.env)).any (·.1) = false := by rfl) : DE X (.Call (.Name "len" p) [a] [] pos) ρ (nI es.length) := by
  cases lt with
  | true => exact DE.is (de_lenL (ds := es.map nI) ha hm hg he hpl) (by simp)
  | false => exact DE.is (de_lenT (ds := es.map nI) ha hm hg he hpl) (by simp)
theorem de_tupE {X : Cx} {a : Expr} {ρ : List Sl} {es : List Nat} {p pos : Pos} (lt : Bool) (ha : DE X a ρ (esD lt es)) (hm : X.mg "tuple" = none) (hg : Gl X "tuple" := by rfl) (he : starEach (a :: []) X.env = (false, eval a X.env) :: starEach [] X.env := by rfl) (hpl : (backTo pos (starEach [] X.env)).any (·.1) = false := by rfl) : DE X (.Call (.Name "tuple" p) [a] [] pos) ρ (tN es) := by
  cases lt with
  | true => exact de_tupL (da_cons ha da_nil he) hm hg he hpl
  | false => exact de_tupT (da_cons ha da_nil he) hm hg he hpl
section
variable {P : Program} {w : World} {K : PySem.W.Frag} {mg : Str → Option Value} {base : Heap} {f CG CC Ct C : Addr} {fd : FuncData} {k : Nat}
def R_Chart (CG : Addr) (ds : List D) (fs : List (Str × D)) : Prop := ∃ (n : Nat) (m : Nat → Nat → Nat) (sh es : List Nat) (lt : Bool), ds = [gD CG n m, tN sh, esD lt es] ∧ shOk sh = true ∧ es.length = prodN sh ∧ (∀ x ∈ es, x < n) ∧ fs = chFs CG n m sh es
abbrev s_Chart_init : Stmt := inClass (top 24) 0
abbrev N_Chart_init : List Str := ["self", "group", "shape", "entries", "entry"]
theorem sc_Chart_init : FnScope N_Chart_init ["self", "group", "shape", "entries"] (defScope s_Chart_init) := ⟨rfl, rfl, rfl, by decide +kernel, rfl, by decide +kernel, by decide +kernel⟩
theorem ok_Chart_init (T : Txt K mg) (c : CCls K CC) (cg : GCls K CG) (O1 : DefOk P w K mg base "check_shape" k (R_check_shape C)) (O2 : DefOk P w K mg base "count_inputs" k R_count_inputs) (O3 : MethOk P w K mg base CG "check" k (R_check CG)) (F : FunD K "__init__" "Chart.__init__" (defArgs s_Chart_init) (defBody s_Chart_init) (defScope s_Chart_init) [] [] f fd) (hm : mg "Chart" = some (.ref CC)) (hM : Mk K CC f) : MakeOk P w K mg base "Chart" CC (k + 1) (R_Chart CG) := by
  refine init_ok F sc_Chart_init hm hM (fun ds r ⟨_, _, _, _, _, e, _⟩ => by rw [e]; rfl) (fun _ _ _ _ _ _ us hl => match us, hl with | [_, _, _, _], _ => rfl) fun cdv A outer s H E hr ds fs hR a dx => ?_
  obtain ⟨n, m, sh, es, lt, rfl, hsh, hes, hx, rfl⟩ := hR
  have nd := sc_Chart_init.nd
  have hsl : sh.length ≤ 12 := by
    unfold shOk at hsh
    simp only [Bool.and_eq_true, decide_eq_true_eq] at hsh
    exact hsh.1
  refine dip_cons (ds_callX O1 hr (da_cons (de_var 2) da_nil) ⟨sh, rfl, by omega, rfl⟩ (fun d hd => ?_) fun C' hC => by rw [if_pos hsh] at hC; cases hC)
  refine dip_cons (ds_if (k := false) (DT.is (dt_cmp op_ne rd_neI (de_lenE lt (de_var 3) T.nLen) (de_call O2 hr (da_cons (de_var 2) da_nil) ⟨sh, rfl, fun k hk => by have := sh_four hsh k hk; omega, rfl⟩) (nomark _)) ?_) (fun h => nomatch h) fun _ => dss_nil ?_)
  · rw [hes]; simp
  refine dip_cons (ds_for es nI [4] (fun k => [nI k]) (passes_of rfl) (di_es lt (de_var 3)) (fun _ _ => dg_name 4 nd) (fun i ρ' => ∃ s, ρ' = [.raw (.ref a), .val (gD CG n m), .val (tN sh), .val (esD lt es), s]) ⟨_, rfl⟩ ?_ ?_)
  · rintro i x ρ' hk ⟨s, rfl⟩
    exact dss_one (ds_expr (de_meth O3 cg.cl hr (de_var 1) rfl (da_cons (de_var 4) da_nil) ⟨n, m, x, rfl, hx x (List.mem_of_getElem? hk), rfl⟩) ⟨.val (nI x), rfl⟩)
  · rintro ρ' ⟨s, rfl⟩
    refine dip_end (dis_cons (d := gD CG n m) (de_var 1) rfl (by decide) c.cl c.nG rfl ?_)
    refine dis_cons (d := tN sh) (de_tupT (da_cons (de_var 2) da_nil) T.nTuple) rfl (by simp) c.cl c.nS rfl ?_
    exact dis_cons (d := tN es) (de_tupE lt (de_var 3) T.nTuple) rfl (by simp) c.cl c.nE rfl dis_nil
/-! ### coefficients -/
/-- the coefficients of a chart -/
def stepK (n : Nat) (m : Nat → Nat → Nat) (ins : List (List Int)) (ms : List Nat) (e : Nat) : List Nat := ms ++ [m (invN n m (belowN m ins ms ms.length)) e]
def coefN (n : Nat) (m : Nat → Nat → Nat) (ins : List (List Int)) (es : List Nat) : List Nat := es.foldl (stepK n m ins) []
theorem stepK_fold {n : Nat} {m : Nat → Nat → Nat} {ins : List (List Int)} (g : Grp n m) : ∀ (es ms : List Nat), (∀ x ∈ es, x < n) → (∀ x ∈ ms, x < n) → (∀ x ∈ es.foldl (stepK n m ins) ms, x < n) ∧ (es.foldl (stepK n m ins) ms).length = ms.length + es.length
  | [], ms, _, h => ⟨h, rfl⟩
  | e :: es, ms, he, h => by
    have w := stepK_fold (ins := ins) g es (stepK n m ins ms e) (fun x hx => he x (List.mem_cons_of_mem _ hx)) (fun x hx => by
      unfold stepK at hx
      rcases List.mem_append.mp hx with q | q
      · exact h x q
      · rw [List.mem_singleton.mp q]
        exact g.cl _ _ (g.invN_lt (below_lt g h _ _ g.pos)) (he e List.mem_cons_self))
    refine ⟨w.1, w.2.trans ?_⟩
    unfold stepK
    simp
    omega
def R_coefficients (CC CG : Addr) (ds : List D) (r : Res) : Prop := ∃ (n : Nat) (m : Nat → Nat → Nat) (sh es : List Nat), ds = [chD CC CG n m sh es] ∧ Grp n m ∧ Szc sh ∧ (inp sh).length = es.length ∧ es.length < 10000 ∧ (∀ s ∈ inp sh, s.length < 10000) ∧ (∀ x ∈ es, x < n) ∧ r = .ok (tN (coefN n m (inp sh) es))
abbrev s_coefficients : Stmt := top 49
abbrev N_coefficients : List Str := ["chart", "group", "inputs", "found", "at", "entry", "below"]
theorem sc_coefficients : FnScope N_coefficients ["chart"] (defScope s_coefficients) := ⟨rfl, rfl, rfl, by decide +kernel, rfl, by decide +kernel, by decide +kernel⟩
theorem ok_coefficients (T : Txt K mg) (c : CCls K CC) (cg : GCls K CG) (O : DefOk P w K mg base "inputs_of" k R_inputs_of) (O2 : DefOk P w K mg base "product_below" k (R_product_below CG)) (F : FnP K "coefficients" s_coefficients f fd) (hm : mg "coefficients" = some (.ref f)) : DefOk P w K mg base "coefficients" (k + 1) (R_coefficients CC CG) := by
  refine def_ok F hm sc_coefficients (fun ds r ⟨_, _, _, _, e, _⟩ => by rw [e]; rfl) (fun _ _ _ _ _ _ us hl => match us, hl with | [_], _ => rfl) fun cdv A outer s H E hr ds r hR => ?_
  obtain ⟨n, m, sh, es, rfl, g, hz, hl, hle, hs, hx, rfl⟩ := hR
  have nd := sc_coefficients.nd
  have zl := sizeLine_eq
  refine dss_cons (ds_set 1 nd (de_cgroup c (de_var 0)) ?_)
  refine dss_cons (ds_set 2 nd (de_call O hr (da_cons (de_cshape c (de_var 0)) da_nil) ⟨sh, rfl, hz, rfl⟩) ?_)
  refine dss_cons (ds_setO 3 nd (do_lstl da_nil) ?_)
  refine dss_cons (ds_for ((List.range es.length).zip es) (fun q => .tup [nI q.1, nI q.2]) [4, 5] (fun q => [nI q.1, nI q.2]) (passes_of rfl) (DI.is (di_enumT (ds := es.map nI) (de_centries c (de_var 0)) T.nEnum) ?_) (fun _ _ => dg_two 4 5 (hN := nd)) (fun i ρ' => ∃ s1 s2 s3, ρ' = [.val (chD CC CG n m sh es), .val (gD CG n m), .val (lF tI (inp sh)), .own (((es.take i).foldl (stepK n m (inp sh)) []).map nI), s1, s2, s3]) ⟨_, _, _, rfl⟩ ?_ ?_)
  · rw [List.length_map, List.zip_map, List.map_map]; rfl
  · rintro i ⟨at_, e⟩ ρ' hk ⟨s1, s2, s3, rfl⟩
    obtain ⟨k1, k2⟩ := (List.getElem?_zip_eq_some (z := (at_, e))).mp hk
    have hi : i < es.length := (List.getElem?_eq_some_iff.mp k2).1
    have ea : at_ = i := by simpa using ((List.getElem?_eq_some_iff.mp k1).2).symm
    subst ea
    have hen : e < n := hx e (List.mem_of_getElem? k2)
    obtain ⟨w1, w2⟩ := stepK_fold (ins := inp sh) g (es.take at_) [] (fun x h => hx x (List.mem_of_mem_take h)) (fun x h => nomatch h)
    have w3 : ((es.take at_).foldl (stepK n m (inp sh)) []).length = at_ := by rw [w2, List.length_take]; simp; omega
    have e1 : (es.take (at_ + 1)).foldl (stepK n m (inp sh)) [] = stepK n m (inp sh) ((es.take at_).foldl (stepK n m (inp sh)) []) e := by
      rw [List.take_add_one, k2, List.foldl_append]; rfl
    generalize hms : (es.take at_).foldl (stepK n m (inp sh)) [] = ms at *
    have hb : belowN m (inp sh) ms at_ < n := below_lt g w1 _ _ g.pos
    refine dss_cons (ds_set 6 nd (d := nI (belowN m (inp sh) ms at_)) (de_lend (ds := ms.map nI) 3 rfl (de_call O2 hr (da_cons (de_var 1) (da_cons (de_var 2) (da_cons (de_var 3) (da_cons (de_var 4) da_nil)))) ⟨n, m, inp sh, ms, at_, rfl, g, by omega, by omega, by omega, hs, w1, rfl⟩)) ?_)
    refine dss_one (ds_append (ds := ms.map nI) 3 (de_tabT (m := m) (de_rows cg (de_var 1)) (de_inv cg (de_var 1) (de_var 6) hb) (de_var 5) (g.invN_lt hb) hen) (by rw [List.length_map]; omega) ⟨.val (nI at_), .val (nI e), .val (nI (belowN m (inp sh) ms at_)), ?_⟩)
    rw [e1]
    unfold stepK
    rw [w3, List.map_append]; rfl
  · rintro ρ' ⟨s1, s2, s3, rfl⟩
    rw [List.length_zip, List.length_range, Nat.min_self, List.take_length]
    refine dss_freeze 3 ?_
    exact dss_one (ds_ret (de_tupL (da_cons (de_var 3) da_nil) T.nTuple) rfl)
end
end DL
set_option maxHeartbeats 4000000
namespace DL
open PySem PySem.Spec PyProof.Rows L2
/-! ### obstacle, choices_of, chart_number -/
theorem rowL_pos (n : Nat) (m : Nat → Nat → Nat) (c : Nat) : 0 < (rowL n m c).length := by unfold rowL; simp
/-- what stands for the chart's coefficients to be read -/
structure ChOk (n : Nat) (m : Nat → Nat → Nat) (sh es : List Nat) (c : Nat) : Prop where
  g : Grp n m
  few : n < 1000
  still : Still n m c
  sz : Szc sh
  len : (inp sh).length = es.length
  le : es.length < 10000
  short : ∀ s ∈ inp sh, s.length < 10000
  lt : ∀ x ∈ es, x < n
/-- every coefficient lies in its subgroup -/
def Prog (n : Nat) (m : Nat → Nat → Nat) (sh es : List Nat) (c : Nat) : Prop := ∀ q ∈ (inp sh).zip (coefN n m (inp sh) es), q.2 ∈ subAt (rowL n m c) (wtN q.1)
def numN (cs : List (List Nat)) (ms : List Nat) : Nat := (cs.zip ms).foldl (fun a q => a * q.1.length + q.1.findIdx (fun z => z == q.2)) 0
noncomputable def choOf (n : Nat) (m : Nat → Nat → Nat) (sh : List Nat) (c : Nat) : List (List Nat) := (inp sh).map fun s => subAt (rowL n m c) (wtN s)
theorem zip_li (f : List Int → D) : ∀ (as : List (List Int)) (bs : List Nat), ((as.map f).zip (bs.map nI)).map (fun q => D.tup [q.1, q.2]) = (as.zip bs).map fun q => .tup [f q.1, nI q.2]
  | [], _ => by simp
  | _ :: _, [] => by simp
  | a :: as, b :: bs => by simp [zip_li f as bs]
theorem zip_ln (f : List Nat → D) : ∀ (as : List (List Nat)) (bs : List Nat), ((as.map f).zip (bs.map nI)).map (fun q => D.tup [q.1, q.2]) = (as.zip bs).map fun q => .tup [f q.1, nI q.2]
  | [], _ => by simp
  | _ :: _, [] => by simp
  | a :: as, b :: bs => by simp [zip_ln f as bs]
theorem dt_ninTN {X : Cx} {a b : Expr} {ρ : List Sl} {pos : Pos} {k : Nat} {ns : List Nat} (ha : DE X a ρ (nI k)) (hb : DE X b ρ (tN ns)) (hm : behindInMarks .NotIn b = false := by rfl) : DT X (.Compare a [.NotIn] [b] pos) ρ (!decide (k ∈ ns)) := by
  have := dt_cmp (pos := pos) op_notIn_seq (rd_ninT (K := X.K) (k := k) (ns := ns.map Int.ofNat)) ha (by rw [← tN_tI]; exact hb) hm
  have e : decide ((k : Int) ∈ ns.map Int.ofNat) = decide (k ∈ ns) := by
    apply decide_eq_decide.mpr
    exact ⟨fun h => by
      obtain ⟨a, h1, h2⟩ := List.mem_map.mp h
      have : a = k := by have : (a : Int) = k := h2; omega
      exact this ▸ h1, fun h => List.mem_map.mpr ⟨k, h, rfl⟩⟩
  rw [← e]; exact this
section
variable {P : Program} {w : World} {K : PySem.W.Frag} {mg : Str → Option Value} {base : Heap} {f CG CC Ct C : Addr} {fd : FuncData} {k : Nat}
def R_obstacle (CC CG : Addr) (ds : List D) (r : Res) : Prop := ∃ (n : Nat) (m : Nat → Nat → Nat) (sh es : List Nat) (c : Nat), ds = [chD CC CG n m sh es] ∧ ChOk n m sh es c ∧ Prog n m sh es c ∧ r = .ok .non
abbrev s_obstacle : Stmt := top 51
abbrev N_obstacle : List Str := ["chart", "row", "signs", "member"]
theorem sc_obstacle : FnScope N_obstacle ["chart"] (defScope s_obstacle) := ⟨rfl, rfl, rfl, by decide +kernel, rfl, by decide +kernel, by decide +kernel⟩
theorem ok_obstacle (T : Txt K mg) (c : CCls K CC) (cg : GCls K CG) (O : DefOk P w K mg base "inputs_of" k R_inputs_of) (O2 : DefOk P w K mg base "coefficients" k (R_coefficients CC CG)) (O3 : DefOk P w K mg base "lower_row" k (R_lower_row CG)) (O4 : DefOk P w K mg base "subgroup_at" k R_subgroup_at) (O5 : DefOk P w K mg base "weight" k R_weight) (F : FnP K "obstacle" s_obstacle f fd) (hm : mg "obstacle" = some (.ref f)) : DefOk P w K mg base "obstacle" (k + 1) (R_obstacle CC CG) := by
  refine def_ok F hm sc_obstacle (fun ds r ⟨_, _, _, _, _, e, _⟩ => by rw [e]; rfl) (fun _ _ _ _ _ _ us hl => match us, hl with | [_], _ => rfl) fun cdv A outer s H E hr ds r hR => ?_
  obtain ⟨n, m, sh, es, cc, rfl, q, pr, rfl⟩ := hR
  have nd := sc_obstacle.nd
  refine dss_cons (ds_set 1 nd (de_call O3 hr (da_cons (de_cgroup c (de_var 0)) da_nil) ⟨n, m, cc, rfl, q.few, q.g, q.still, rfl⟩) ?_)
  refine dss_cons (ds_for ((inp sh).zip (coefN n m (inp sh) es)) (fun q => .tup [tI q.1, nI q.2]) [2, 3] (fun q => [tI q.1, nI q.2]) (passes_of rfl) (DI.is (di_zipM (ds := (inp sh).map tI) (es := (coefN n m (inp sh) es).map nI) (de_call O hr (da_cons (de_cshape c (de_var 0)) da_nil) ⟨sh, rfl, q.sz, rfl⟩) (de_call O2 hr (da_cons (de_var 0) da_nil) ⟨n, m, sh, es, rfl, q.g, q.sz, q.len, q.le, q.short, q.lt, rfl⟩) T.nZip) ?_) (fun _ _ => dg_two 2 3 (hN := nd)) (fun i ρ' => ∃ s1 s2, ρ' = [.val (chD CC CG n m sh es), .val (.lst ((rowL n m cc).map xN)), s1, s2]) ⟨_, _, rfl⟩ ?_ ?_)
  · exact zip_li tI _ _
  · rintro i ⟨sg, x⟩ ρ' hk ⟨s1, s2, rfl⟩
    have hin : x ∈ subAt (rowL n m cc) (wtN sg) := pr (sg, x) (List.mem_of_getElem? hk)
    have hsg : sg ∈ inp sh := (List.of_mem_zip (List.mem_of_getElem? hk)).1
    refine dss_one (ds_if (k := false) (DT.is (dt_ninTN (ns := subAt (rowL n m cc) (wtN sg)) (de_var 3) ((de_call O4 hr (da_cons (de_var 1) (da_cons (DE.is (de_call O5 hr (da_cons (de_var 2) da_nil) ⟨sg, rfl, q.short sg hsg, rfl⟩) rfl) da_nil)) ⟨rowL n m cc, wtN sg, rfl, rowL_pos n m cc, rfl⟩).weak (wd_x _))) ?_) (fun h => nomatch h) fun _ => dss_nil ⟨.val (tI sg), .val (nI x), rfl⟩)
    simpa using hin
  · rintro ρ' ⟨s1, s2, rfl⟩
    exact dss_one (ds_ret de_non rfl)
def R_choices_of (CG : Addr) (ds : List D) (r : Res) : Prop := ∃ (n : Nat) (m : Nat → Nat → Nat) (sh : List Nat) (c : Nat), ds = [gD CG n m, tN sh] ∧ Grp n m ∧ n < 1000 ∧ Still n m c ∧ Szc sh ∧ (inp sh).length < 10000 ∧ (∀ s ∈ inp sh, s.length < 10000) ∧ r = .ok (lF xN (choOf n m sh c))
abbrev s_choices_of : Stmt := top 53
abbrev N_choices_of : List Str := ["group", "shape", "row", "signs"]
theorem sc_choices_of : FnScope N_choices_of ["group", "shape"] (defScope s_choices_of) := ⟨rfl, rfl, rfl, by decide +kernel, rfl, by decide +kernel, by decide +kernel⟩
theorem ok_choices_of (T : Txt K mg) (cg : GCls K CG) (O : DefOk P w K mg base "inputs_of" k R_inputs_of) (O3 : DefOk P w K mg base "lower_row" k (R_lower_row CG)) (O4 : DefOk P w K mg base "subgroup_at" k R_subgroup_at) (O5 : DefOk P w K mg base "weight" k R_weight) (F : FnP K "choices_of" s_choices_of f fd) (hm : mg "choices_of" = some (.ref f)) : DefOk P w K mg base "choices_of" (k + 1) (R_choices_of CG) := by
  refine def_ok F hm sc_choices_of (fun ds r ⟨_, _, _, _, e, _⟩ => by rw [e]; rfl) (fun _ _ _ _ _ _ us hl => match us, hl with | [_, _], _ => rfl) fun cdv A outer s H E hr ds r hR => ?_
  obtain ⟨n, m, sh, cc, rfl, g, hn, hst, hz, hle, hs, rfl⟩ := hR
  have nd := sc_choices_of.nd
  have zl := sizeLine_eq
  refine dss_cons (ds_set 2 nd (de_call O3 hr (da_cons (de_var 0) da_nil) ⟨n, m, cc, rfl, hn, g, hst, rfl⟩) ?_)
  refine dss_one (ds_ret (de_of_do (do_lc0 (inp sh) tI [3] (fun s => [tI s]) (fun s => xN (subAt (rowL n m cc) (wtN s))) [("signs", 3)] nd (blkOk_by (N := N_choices_of) (sc := defScope s_choices_of) (by decide +kernel)) (di_list (de_call O hr (da_cons (de_var 1) da_nil) ⟨sh, rfl, hz, rfl⟩)) ?_ ?_ ?_)) ?_)
  · omega
  · exact fun _ _ _ _ _ z _ => dg_name 3 nd
  · exact fun _ _ _ _ _ z hz => de_call O4 (hr.mono (by omega)) (da_cons (de_var 2) (da_cons (DE.is (de_call O5 (hr.mono (by omega)) (da_cons (de_var 3) da_nil) ⟨z, rfl, hs z hz, rfl⟩) rfl) da_nil)) ⟨rowL n m cc, wtN z, rfl, rowL_pos n m cc, rfl⟩
  · show Res.ok (D.lst (List.map xN (List.map _ _))) = _
    rw [List.map_map]; rfl
def R_chart_number (CC CG : Addr) (ds : List D) (r : Res) : Prop := ∃ (n : Nat) (m : Nat → Nat → Nat) (sh es : List Nat) (c : Nat), ds = [chD CC CG n m sh es] ∧ ChOk n m sh es c ∧ Prog n m sh es c ∧ (∀ k, (subAt (rowL n m c) k).length < 10000) ∧ r = .ok (nI (numN (choOf n m sh c) (coefN n m (inp sh) es)))
abbrev s_chart_number : Stmt := top 54
abbrev N_chart_number : List Str := ["chart", "signs", "number", "choice", "member"]
theorem sc_chart_number : FnScope N_chart_number ["chart"] (defScope s_chart_number) := ⟨rfl, rfl, rfl, by decide +kernel, rfl, by decide +kernel, by decide +kernel⟩
theorem ok_chart_number (T : Txt K mg) (c : CCls K CC) (cg : GCls K CG) (O : DefOk P w K mg base "obstacle" k (R_obstacle CC CG)) (O2 : DefOk P w K mg base "coefficients" k (R_coefficients CC CG)) (O3 : DefOk P w K mg base "choices_of" k (R_choices_of CG)) (F : FnP K "chart_number" s_chart_number f fd) (hm : mg "chart_number" = some (.ref f)) : DefOk P w K mg base "chart_number" (k + 1) (R_chart_number CC CG) := by
  refine def_ok F hm sc_chart_number (fun ds r ⟨_, _, _, _, _, e, _⟩ => by rw [e]; rfl) (fun _ _ _ _ _ _ us hl => match us, hl with | [_], _ => rfl) fun cdv A outer s H E hr ds r hR => ?_
  obtain ⟨n, m, sh, es, cc, rfl, q, pr, hk, rfl⟩ := hR
  have nd := sc_chart_number.nd
  refine dss_cons (ds_set 1 nd (de_call O hr (da_cons (de_var 0) da_nil) ⟨n, m, sh, es, cc, rfl, q, pr, rfl⟩) ?_)
  refine dss_cons (ds_if (k := false) (dt_cmp op_notN rd_notN (de_var 1) de_non (nomark _)) (fun h => nomatch h) fun _ => dss_nil ?_)
  refine dss_cons (ds_set 2 nd de_int ?_)
  refine dss_cons (ds_for ((choOf n m sh cc).zip (coefN n m (inp sh) es)) (fun q => .tup [xN q.1, nI q.2]) [3, 4] (fun q => [xN q.1, nI q.2]) (passes_of rfl) (DI.is (di_zipM (ds := (choOf n m sh cc).map xN) (es := (coefN n m (inp sh) es).map nI) (de_call O3 hr (da_cons (de_cgroup c (de_var 0)) (da_cons (de_cshape c (de_var 0)) da_nil)) ⟨n, m, sh, cc, rfl, q.g, q.few, q.still, q.sz, by have := q.le; have := q.len; omega, q.short, rfl⟩) (de_call O2 hr (da_cons (de_var 0) da_nil) ⟨n, m, sh, es, rfl, q.g, q.sz, q.len, q.le, q.short, q.lt, rfl⟩) T.nZip) ?_) (fun _ _ => dg_two 3 4 (hN := nd)) (fun i ρ' => ∃ s1 s2, ρ' = [.val (chD CC CG n m sh es), .val .non, .val (nI ((((choOf n m sh cc).zip (coefN n m (inp sh) es)).take i).foldl (fun a q => a * q.1.length + q.1.findIdx (fun z => z == q.2)) 0)), s1, s2]) ⟨_, _, rfl⟩ ?_ ?_)
  · exact zip_ln xN _ _
  · rintro i ⟨ch, x⟩ ρ' hk2 ⟨s1, s2, rfl⟩
    have hmem := List.mem_of_getElem? hk2
    obtain ⟨z1, z2⟩ := List.getElem?_zip_eq_some.mp hk2
    have hch : ∃ s, s ∈ inp sh ∧ ch = subAt (rowL n m cc) (wtN s) ∧ x ∈ ch := by
      unfold choOf at z1
      rw [List.getElem?_map] at z1
      obtain ⟨s, hs, e⟩ := Option.map_eq_some_iff.mp z1
      have e' : subAt (rowL n m cc) (wtN s) = ch := e
      have h1 := pr (s, x) (List.mem_of_getElem? (List.getElem?_zip_eq_some.mpr ⟨hs, z2⟩))
      exact ⟨s, List.mem_of_getElem? hs, e'.symm, by rw [← e']; exact h1⟩
    obtain ⟨s, hs, ech, hx⟩ := hch
    have hlen : ch.length < 10000 := ech ▸ hk _
    have hlt : ch.findIdx (fun z => z == x) < ch.length := List.findIdx_lt_length_of_exists ⟨x, hx, by simp⟩
    have hat : ch[ch.findIdx (fun z => z == x)]? = some x := by
      rw [List.getElem?_eq_getElem hlt]
      have := List.findIdx_getElem (xs := ch) (p := fun z => z == x) (w := hlt)
      exact congrArg some (by simpa using this)
    refine dss_one (ds_set 2 nd (de_add (de_op op_mul (rd_I (C := CMul) (.inr ?_) fun _ => .int) (de_var 2) (de_lenT (ds := ch.map nI) ((de_var (d := xN ch) 3).weak (wd_x _)) T.nLen)) (de_indexX (ns := ch.map Int.ofNat) (k := (x : Int)) (j := ch.findIdx (fun z => z == x)) (DE.is (de_var (d := xN ch) 3) (congrArg D.tupx (mapN ch))) (de_var 4) ?_ fun q' hq => ?_)) ⟨.val (xN ch), .val (nI x), ?_⟩)
    · rw [List.length_map]; omega
    · rw [List.getElem?_map, hat]; rfl
    · have w1 := List.not_of_lt_findIdx (xs := ch) (p := fun z => z == x) hq
      have w2 : q' < ch.length := Nat.lt_trans hq hlt
      rw [List.getElem?_map, List.getElem?_eq_getElem w2]
      simp at w1 ⊢
      omega
    · rw [List.take_add_one, hk2, List.foldl_append]
      simp [setD, nI]
  · rintro ρ' ⟨s1, s2, rfl⟩
    rw [List.take_length]
    exact dss_one (ds_ret (de_var 2) rfl)
end
end DL
set_option maxHeartbeats 4000000
namespace DL
open PySem PySem.Spec PyProof.Rows L2
/-! ### t[::-1] of a tuple -/
theorem rev_adjust (n : Nat) : Builtin.Slice.sliceAdjust none none (-1) (n : Int) = ((n : Int) - 1, -1) := by
  unfold Builtin.Slice.sliceAdjust
  simp
theorem rev_places (n : Nat) : Builtin.Slice.slicePlaces ((n : Int) - 1) (-1) (-1) = n := by
  unfold Builtin.Slice.slicePlaces
  simp
  omega
theorem all_picks {α : Type} : ∀ l : List α, (List.range l.length).filterMap (fun m => l[m]?) = l
  | [] => rfl
  | a :: l => by
    rw [List.length_cons, List.range_succ_eq_map, List.filterMap_cons]
    simp [List.filterMap_map]
    have := all_picks l
    exact this
theorem fm_congr {α β : Type} {f g : α → Option β} : ∀ (l : List α), (∀ m ∈ l, f m = g m) → l.filterMap f = l.filterMap g
  | [], _ => rfl
  | a :: l, h => by
    rw [List.filterMap_cons, List.filterMap_cons, h a List.mem_cons_self, fm_congr l fun m hm => h m (List.mem_cons_of_mem _ hm)]
theorem rev_pick (xs : Array Value) : ((List.range xs.size).filterMap fun (m : Nat) => xs[((xs.size : Int) - 1 + (m : Int) * (-1)).toNat]?).toArray = xs.toList.reverse.toArray := by
  refine congrArg List.toArray ?_
  have key : ∀ m ∈ List.range xs.size, xs[((xs.size : Int) - 1 + (m : Int) * (-1)).toNat]? = xs.toList.reverse[m]? := fun m hm => by
    have hm' := List.mem_range.mp hm
    rw [List.getElem?_reverse (by rw [Array.length_toList]; exact hm'), Array.length_toList, Array.getElem?_toList]
    congr 1
    omega
  rw [fm_congr _ key]
  have := all_picks xs.toList.reverse
  rw [List.length_reverse, Array.length_toList] at this
  exact this
section
variable {prog : Program} {w : World} {A : Around} {E : Value → Shared → Prop} {s : Shared}
theorem rev_applied {sl : Addr} {n : Nat} {t : Tok} {Q : Int × Int × Nat → Shared → Prop} (hs : s.heap.IsSliceOf sl .none .none (.int (-1) t)) (h : Q ((n : Int) - 1, -1, n) s) : wpAny (model prog w) A (Builtin.Slice.sliceApplied (.ref sl) (pure (n : Int))) Q E s := by
  obtain ⟨os, hos, hcs, hds⟩ := id hs
  unfold Builtin.Slice.sliceApplied Builtin.Slice.sliceFields
  refine wpAny_bind (wpAny_bind (wpAny_field hos hds (x := .none) rfl (wpAny_bind (wpAny_field hos hds (x := .none) rfl (wpAny_bind (wpAny_field hos hds (x := .int (-1) t) rfl (wpAny_pure ?_)))))))
  refine wpAny_bind (HT.slicePart_ (.int (-1) t) ?_)
  show wpAny _ _ (if ((-1 : Int) == 0) = true then _ else _) _ _ s
  rw [if_neg (by decide)]
  refine wpAny_bind (HT.slicePart_ .none (wpAny_bind (HT.slicePart_ .none (wpAny_bind (wpAny_pure ?_)))))
  show wpAny _ _ (match Builtin.Slice.sliceAdjust none none (-1) (n : Int) with | (lo, hi) => pure (lo, (-1 : Int), Builtin.Slice.slicePlaces lo hi (-1))) _ _ s
  rw [rev_adjust]
  show wpAny _ _ (pure ((n : Int) - 1, (-1 : Int), Builtin.Slice.slicePlaces ((n : Int) - 1) (-1) (-1))) _ _ s
  rw [rev_places]
  exact wpAny_pure h
theorem rev_item {t sl : Addr} {items : Array Value} {u : Tok} {Q : Value → Shared → Prop} (ht : IsTup s.heap t items) (hs : s.heap.IsSliceOf sl .none .none (.int (-1) u))
    (h : Q (.ref s.heap.objs.size) { s with heap := s.heap.push { cls := .type "tuple", data := .seq items.toList.reverse.toArray } }) (hsz : items.size ≤ sizeLine) : wpAny (model prog w) A (getItem (.ref t) (.ref sl)) Q E s := by
  have htake : sizeOk (.seq items.toList.reverse.toArray) := by
    show items.toList.reverse.toArray.size ≤ sizeLine
    rw [List.size_toArray, List.length_reverse, Array.length_toList]
    exact hsz
  obtain ⟨os, hos, hcs, hds⟩ := id hs
  have hTs : s.TypeIs (.ref sl) "slice" := ⟨os, hos, hcs⟩
  unfold getItem
  try with_reducible refine wpAny_holding ?_
  first | refine wpAny_bind (wpAny_pure ?_) | skip
  refine wpAny_bind (wpAny_sequenceKey ht.typeIs (by decide) ?_)
  refine wpAny_bind (wpAny_callSpecial?_slot (name := Str.ofString "__getitem__") ht.typeIs PyProof.Rows.slot_tuple_getitem
    (wpAny_call_entry PyProof.Rows.slot_tuple_getitem ht.typeIs PyProof.Rows.entry_tuple_getitem ?_ (PyProof.Rows.args_tuple_getitem _ _)))
  show wpAny _ _ (Builtin.Tuple.tupleItemsOf (.ref t) >>= _) _ _ s
  refine wpAny_bind (tupleItemsOf_ ht ?_)
  refine wpAny_bind (wpAny_typeOf hTs ?_)
  rw [if_pos (by decide)]
  refine wpAny_bind (rev_applied hs ?_)
  have hno : ¬ (((((items.size : Nat) : Int) - 1) == 0 && (-1 : Int) == 1 && items.size == items.size) = true) := by
    rw [show ((-1 : Int) == 1) = false from rfl, Bool.and_false, Bool.false_and]
    exact Bool.false_ne_true
  show wpAny _ _ (if ((((items.size : Nat) : Int) - 1) == 0 && (-1 : Int) == 1 && items.size == items.size) = true then _ else _) _ _ s
  rw [if_neg hno, rev_pick]
  first
    | exact wpAny_bind (m := Builtin.Tuple.tupleExact _) (wpAny_newObj_type (wpAny_pure ⟨_, rfl, wpAny_pure h⟩) htake)
    | exact wpAny_bind (wpAny_bind (m := Builtin.Tuple.tupleExact _) (wpAny_newObj_type (wpAny_pure (wpAny_pure ⟨_, rfl, wpAny_pure h⟩)) htake))
    | exact wpAny_bind (wpAny_bind (m := Builtin.Tuple.tupleExact _) (wpAny_newObj_type (wpAny_pure ⟨_, rfl, wpAny_pure h⟩) htake))
end
def tRevT (K : PySem.W.Frag) (te : TE) : TE := fun σ H Q => te σ H fun x H1 => ∃ a xs, x = .ref a ∧ SqT K H1 a xs ∧ ∀ p, H1 p = none → Q (.ref p) (upd H1 p (.tup xs.reverse))
theorem pe_revT {X : Cx} {e : Expr} {te : TE} {k : Nat} {p1 p2 p3 pos : Pos} (he : PE X e te) : PE X (.Subscript e (.Slice none none (some (.UnaryOp .USub (.Constant (.int 1) k p1) p2)) p3) pos) (tRevT X.K te) := by
  refine ⟨fun pins s σ H Q I h => ?_⟩
  refine Subscript_ (thn (he.run pins s σ H _ I h) fun v s1 ⟨x, H1, I1, r1, a, xs, ex, hx, q⟩ => ?_)
  subst ex
  cases r1
  have hst : PO X (some (.UnaryOp .USub (.Constant (.int 1) k p1) p2)) (tPart (tUn (rU fun i => .int (-i)) (tC (.int 1)))) := po_some (pe_un un_neg pe_int)
  refine wpAny_Slice (thn (po_none.run pins s1 σ H1 (fun o H2 => o = none ∧ H2 = H1) I1 ⟨rfl, rfl⟩) fun vl s2 ⟨l, H2, I2, pl, el, e2⟩ => ?_)
  subst el e2
  refine thn (po_none.run pins s2 σ H2 (fun o H3 => o = none ∧ H3 = H2) I2 ⟨rfl, rfl⟩) fun vu s3 ⟨u, H3, I3, pu, eu, e3⟩ => ?_
  subst eu e3
  refine thn (hst.run pins s3 σ H3 (fun o H4 => o = some (-1) ∧ H4 = H3) I3 ⟨1, rfl, -1, rfl, rfl, rfl⟩) fun vs s4 ⟨o, H4, I4, ps, eo, e4⟩ => ?_
  subst eo e4
  cases pl
  cases pu
  obtain ⟨tk, rfl⟩ : ∃ tk, vs = .int (-1) tk := by cases ps; exact ⟨_, rfl⟩
  have I5 : Inv X pins σ H4 { s4 with heap := s4.heap.push { cls := .type "slice", data := .fields #[.none, .none, .int (-1) tk] } } := I4.kept (t' := s4.toks) fun b ob q => Heap.get?_push_of_some _ q
  obtain ⟨its, r, ht, hz⟩ := I5.tuple hx
  have hlen := r.length
  show wpAny (model X.prog X.w) X.A (subscriptTail e (.Slice none none (some (.UnaryOp .USub (.Constant (.int 1) k p1) p2)) p3) (.ref a) (.ref s4.heap.objs.size)) (EP X pins σ Q) X.xe { s4 with heap := s4.heap.push { cls := .type "slice", data := .fields #[.none, .none, .int (-1) tk] } }
  refine tail_any (ops := [.ref a, .ref s4.heap.objs.size]) ht.typeIs (PyProof.Rows.slot_tuple_getitem.lookup) ?_ (by with_unfolding_all rfl)
  refine rev_item ht (Heap.IsSliceOf.new _ .none .none (.int (-1) tk)) ?_ (by rw [List.size_toArray]; omega)
  refine ⟨.ref _, _, I5.laid (t' := s4.toks) (o := .tup xs.reverse) (fun b ob q => Heap.get?_push_of_some _ q) (Nat.le_refl _) ?_, rfl, q _ (I5.hok.fresh (Nat.le_refl _))⟩
  exact ⟨by rw [List.length_reverse]; exact hz, _, r.reverse, IsTup.new _ _⟩
theorem de_revT {X : Cx} {a : Expr} {ρ : List Sl} {ds : List D} {k : Nat} {p1 p2 p3 pos : Pos} (ha : DE X a ρ (.tup ds)) : DE X (.Subscript a (.Slice none none (some (.UnaryOp .USub (.Constant (.int 1) k p1) p2)) p3) pos) ρ (.tup ds.reverse) := fun E Z H σ S Q q =>
  we_pe (pe_revT pe_we) (ha E Z H σ S _ fun v Z1 H1 g1 r1 => by
    cases r1 with
    | tup hz rl =>
      refine ⟨_, _, rfl, sq_t g1.zh hz, fun p hp => q _ _ _ (g1.new hp) (.tup (.inl upd_same) ?_)⟩
      exact (rl.mono (Ex.new (g1.zh.free hp))).rev)
end DL
set_option maxHeartbeats 4000000
namespace DL
open PySem PySem.Spec PyProof.Rows L2
section
variable {X : Cx} {e a b tg : Expr} {ρ : List Sl} {d : D} {ds ds2 : List D} {pos p px apos : Pos} {x : Str} {P : Po}
/-- a, b = xs.pop(), xs a slot's own list -/
theorem ds_popT (i : Nat) (js : List Nat) (hg : DG X tg js d ds2) (h : P.nx (setD (ρ.set i (.own ds)) js ds2)) (hi : ρ[i]? = some (.own (ds ++ [d])) := by rfl) (hN : X.N[i]? = some x := by rfl) (hv : Vis X.env.scope x := by first | exact Or.inl rfl | exact Or.inr (Or.inl rfl) | exact Or.inr (Or.inr rfl))
    (hd : (x == ("__debug__" : Str)) = false := by decide) (hcd : (x == ("__classdict__" : Str)) = false := by decide)
    (hbase : attributeBase (.Name x px) "pop" X.env (eval (.Name x px) X.env) = eval (.Name x px) X.env := by rfl) (hline : (apos.endLine == p.line) = true := by rfl)
    (hs : swapsWithSole [tg] (.Call (.Attribute (.Name x px) "pop" apos) [] [] p) pos.line X.env = pure false := by rfl) (hw : swappedStores [tg] (.Call (.Attribute (.Name x px) "pop" apos) [] [] p) X.env = pure none := by rfl)
    (h1 : (assignEach [tg] X.env).map (·.2) = [assign tg X.env] := by rfl) : DS X (.Assign [tg] (.Call (.Attribute (.Name x px) "pop" apos) [] [] p) pos) ρ P := fun E Z H σ S W => by
  obtain ⟨l, xs, e1, hl, zl, f1, f2, r⟩ := S.s.lookO hi
  have hlen : xs.length = ds.length + 1 := by rw [r.length]; simp
  obtain ⟨y, hy, ry⟩ := r.get (show (ds ++ [d])[xs.length - 1]? = some d by rw [hlen]; simp)
  have rd : RepL X.K Z xs.dropLast ds := by
    have := r.take ds.length
    rw [List.take_left' rfl] at this
    rw [List.dropLast_eq_take, hlen]
    exact this
  have S' : St1 X.K E Z (upd H l (.lst xs.dropLast)) σ (ρ.set i (.own ds)) := ⟨S.s.wr hi e1 hl rd, S.t⟩
  refine ws_ps (ps_asg (pe_bm0 PySem.F.plainAttrs_list PySem.F.slot_list_pop PySem.F.type_list_pop mt_pop (pe_var hN hv hd hcd) hbase hline) pg_wg hs hw h1) ⟨_, e1, .inl ⟨rfl, xs, SqL.of hl⟩, l, xs, y, rfl, rfl, hl, hy, ?_⟩
  exact hg Z _ σ y S'.s.zh ry _ fun vs rv => ⟨Z, _, S'.puts rv, h⟩
/-- is a list empty -/
theorem dt_list (ha : DE X a ρ (.lst ds)) (he : ∀ whole, isTrue a X.env whole = (do let v ← whole; standAt a.pos; holding [v] (truthy v)) := by intro _; rfl) : DT X a ρ (!ds.isEmpty) := fun E Z H σ S Q q =>
  wt_pt (pt_truth pe_we he) (ha E Z H σ S _ fun v Z1 H1 g1 r1 => by
    cases r1 with
    | lst hz rl =>
      rename_i l us
      refine ⟨!us.isEmpty, .inl ⟨us, SqL.of (g1.zh _ _ hz), rfl⟩, ?_⟩
      have : us.isEmpty = ds.isEmpty := by cases rl <;> rfl
      rw [this]; exact q _ _ g1)
end
/-! ### searched_entries -/
/-- a branch: the members and the entries so far -/
abbrev Br : Type := List Nat × List Nat
def underL (ins : List (List Int)) (at_ : Nat) : List Nat := (List.range at_).filter fun k => underB (ins.getD k []) (ins.getD at_ [])
def belowU (m : Nat → Nat → Nat) (ins : List (List Int)) (ms : List Nat) (at_ : Nat) : Nat := (underL ins at_).foldl (fun p k => m p (ms.getD k 0)) 0
/-- no entry ahead with the other label -/
def clear (tb : List Int) (es : List Nat) (at_ e : Nat) : Bool := (List.range at_).all fun k => !decide (es.getD k 0 = e) || decide (tb.getD k 0 = tb.getD at_ 0)
def kids (m : Nat → Nat → Nat) (ins : List (List Int)) (cs : List (List Nat)) (tb : List Int) (b : Br) : List Br :=
  ((cs.getD b.2.length []).filter fun x => clear tb b.2 b.2.length (m (belowU m ins b.1 b.2.length) x)).map fun x => (b.1 ++ [x], b.2 ++ [m (belowU m ins b.1 b.2.length) x])
def dfs (m : Nat → Nat → Nat) (ins : List (List Int)) (cs : List (List Nat)) (tb : List Int) : Nat → Br → List (List Nat)
  | 0, b => [b.2]
  | d + 1, b => (kids m ins cs tb b).flatMap (dfs m ins cs tb d)
def nodes (m : Nat → Nat → Nat) (ins : List (List Int)) (cs : List (List Nat)) (tb : List Int) : Nat → Br → Nat
  | 0, _ => 1
  | d + 1, b => 1 + ((kids m ins cs tb b).map (nodes m ins cs tb d)).sum
def srch (m : Nat → Nat → Nat) (ins : List (List Int)) (cs : List (List Nat)) (tb : List Int) : List (List Nat) := dfs m ins cs tb ins.length ([], [])
abbrev brD (b : Br) : D := .tup [tN b.1, tN b.2]
/-- a branch as it lies on the stack -/
structure BrOk (n L : Nat) (b : Br) : Prop where
  len : b.1.length = b.2.length
  le : b.2.length ≤ L
  m : ∀ x ∈ b.1, x < n
section
variable {n : Nat} {m : Nat → Nat → Nat} {ins : List (List Int)} {cs : List (List Nat)} {tb : List Int} {b : Br}
theorem kids_ok (hc : ∀ c ∈ cs, ∀ x ∈ c, x < n) (hl : cs.length = ins.length) (h : BrOk n ins.length b) (hlt : b.2.length < ins.length) : ∀ q ∈ kids m ins cs tb b, BrOk n ins.length q ∧ q.2.length = b.2.length + 1 := fun q hq => by
  obtain ⟨x, hx, rfl⟩ := List.mem_map.mp hq
  have hxn : x < n := hc _ (List.mem_of_getElem? (getD_some [] (by omega))) x (List.mem_filter.mp hx).1
  refine ⟨⟨by simp [h.len], by simp; omega, fun y hy => ?_⟩, by simp⟩
  rcases List.mem_append.mp hy with z | z
  · exact h.m y z
  · rw [List.mem_singleton.mp z]; exact hxn
theorem belowU_lt (g : Grp n m) (hm : ∀ x ∈ b.1, x < n) : ∀ (ks : List Nat) (p : Nat), p < n → ks.foldl (fun p k => m p (b.1.getD k 0)) p < n
  | [], _, h => h
  | k :: ks, p, h => belowU_lt g hm ks _ (g.cl _ _ h (by
    by_cases q : k < b.1.length
    · exact hm _ (List.mem_of_getElem? (getD_some 0 q))
    · rw [List.getD_eq_getElem?_getD, List.getElem?_eq_none (by omega)]; exact g.pos))
end
/-- what remains to be walked of a stack -/
def remS (m : Nat → Nat → Nat) (ins : List (List Int)) (cs : List (List Nat)) (tb : List Int) (st : List Br) : List (List Nat) := st.reverse.flatMap fun b => dfs m ins cs tb (ins.length - b.2.length) b
def cntS (m : Nat → Nat → Nat) (ins : List (List Int)) (cs : List (List Nat)) (tb : List Int) (st : List Br) : Nat := (st.map fun b => nodes m ins cs tb (ins.length - b.2.length) b).sum
section
variable {P : Program} {w : World} {K : PySem.W.Frag} {mg : Str → Option Value} {base : Heap} {f CG CC Ct C : Addr} {fd : FuncData} {k : Nat}
def R_searched (CG : Addr) (ds items : List D) (er : Option Addr) : Prop := ∃ (n : Nat) (m : Nat → Nat → Nat) (ins : List (List Int)) (cs : List (List Nat)) (tb : List Int),
  ds = [gD CG n m, lF tI ins, lF tN cs, tI tb] ∧ Grp n m ∧ ins.length < 1000 ∧ (∀ s ∈ ins, s.length < 10000) ∧ cs.length = ins.length ∧ (∀ c ∈ cs, ∀ x ∈ c, x < n) ∧ (∀ c ∈ cs, c.length < 1000) ∧ tb.length = ins.length ∧ er = none ∧ items = (srch m ins cs tb).map tN
abbrev s_searched : Stmt := top 43
abbrev N_searched : List Str := ["group", "inputs", "choices", "table", "under", "k", "at", "signs", "branches", "members", "entries", "below", "member", "entry"]
theorem sc_searched : GScope N_searched ["group", "inputs", "choices", "table"] (defScope s_searched) := ⟨rfl, rfl, rfl, by decide +kernel, rfl, by decide +kernel, by decide +kernel⟩
theorem remS_snoc {m : Nat → Nat → Nat} {ins : List (List Int)} {cs : List (List Nat)} {tb : List Int} (st : List Br) (b : Br) : remS m ins cs tb (st ++ [b]) = dfs m ins cs tb (ins.length - b.2.length) b ++ remS m ins cs tb st := by
  unfold remS
  rw [List.reverse_append, List.flatMap_append]
  simp
theorem remS_kids {m : Nat → Nat → Nat} {ins : List (List Int)} {cs : List (List Nat)} {tb : List Int} {d : Nat} (st ks : List Br) (h : ∀ q ∈ ks, ins.length - q.2.length = d) : remS m ins cs tb (st ++ ks.reverse) = ks.flatMap (dfs m ins cs tb d) ++ remS m ins cs tb st := by
  unfold remS
  rw [List.reverse_append, List.flatMap_append, List.reverse_reverse]
  congr 1
  clear st
  induction ks with
  | nil => rfl
  | cons q ks ih => rw [List.flatMap_cons, List.flatMap_cons, h q List.mem_cons_self, ih fun z hz => h z (List.mem_cons_of_mem _ hz)]
theorem cntS_kids {m : Nat → Nat → Nat} {ins : List (List Int)} {cs : List (List Nat)} {tb : List Int} {d : Nat} (st ks : List Br) (h : ∀ q ∈ ks, ins.length - q.2.length = d) : cntS m ins cs tb (st ++ ks.reverse) = cntS m ins cs tb st + (ks.map (nodes m ins cs tb d)).sum := by
  unfold cntS
  rw [List.map_append, List.sum_append, List.map_reverse, List.sum_reverse]
  congr 1
  refine congrArg List.sum ?_
  exact List.map_congr_left fun q hq => by rw [h q hq]
theorem cntS_snoc {m : Nat → Nat → Nat} {ins : List (List Int)} {cs : List (List Nat)} {tb : List Int} (st : List Br) (b : Br) : cntS m ins cs tb (st ++ [b]) = cntS m ins cs tb st + nodes m ins cs tb (ins.length - b.2.length) b := by
  unfold cntS
  rw [List.map_append, List.sum_append]
  simp
theorem clear_all (tb : List Int) (es : List Nat) (at_ e : Nat) : (((List.range at_).filter fun k => decide (es.getD k 0 = e)).map fun k => decide (tb.getD k 0 = tb.getD at_ 0)).all id = clear tb es at_ e := by
  unfold clear
  rw [List.all_map, List.all_filter]
  rfl
open GL in
theorem ok_searched (T : Txt K mg) (cg : GCls K CG) (O : DefOk P w K mg base "lies_under" k R_lies_under) (F : FnP K "searched_entries" s_searched f fd) (hm : mg "searched_entries" = some (.ref f)) : GenOk P w K mg base "searched_entries" k (R_searched CG) := by
  refine gen_ok F hm sc_searched (fun ds items er ⟨_, _, _, _, _, e, _⟩ => by rw [e]; rfl) (fun _ _ _ _ _ _ us hl => match us, hl with | [_, _, _, _], _ => rfl) fun cdv outer n0 gi ds items er hR => ?_
  obtain ⟨n, m, ins, cs, tb, rfl, g, hL, hs, hcl, hcn, hcz, htl, rfl, rfl⟩ := hR
  have nd := sc_searched.nd
  have zl := sizeLine_eq
  have hin : ∀ {q}, q < ins.length → ins[q]? = some (ins.getD q []) := fun h => getD_some [] h
  refine gtop_of (pre := (defBody s_searched).take 2) (tl := (defBody s_searched).drop 2) (Tl := fun ρ' => ρ' = [.val (gD CG n m), .val (lF tI ins), .val (lF tN cs), .val (tI tb), .val (lF lN ((List.range ins.length).map (underL ins))), .no, .no, .no, .own [brD ([], [])], .no, .no, .no, .no, .no]) (List.take_append_drop 2 _).symm (fun γ hr hp => ?_) fun ρ' h => ⟨rfl, ?_⟩
  · refine dss_cons (ds_setLc 4 ((List.range ins.length).zip ins) (fun q => .tup [nI q.1, tI q.2]) [6, 7] (fun q => [nI q.1, tI q.2]) (fun _ => true) (fun q => lN ((List.range q.1).filter fun k => underB (ins.getD k []) q.2)) [("at", 6), ("signs", 7), ("k", 5)] nd (blkOk_by (N := N_searched) (sc := defScope s_searched) (by decide +kernel)) (DI.is (di_enumL (ds := ins.map tI) (de_var 1) T.nEnum) ?_) ?_ ?_ (fun _ _ _ _ _ _ _ => dts_nil) ?_ ?_)
    · rw [List.length_map, List.zip_map, List.map_map]; rfl
    · rw [List.length_zip, List.length_range]; omega
    · exact fun _ _ _ _ _ z _ => dg_two 6 7 (hN := nd)
    · intro s H C cl fp z hz _
      obtain ⟨i, hi⟩ := List.getElem?_of_mem hz
      obtain ⟨k1, k2⟩ := List.getElem?_zip_eq_some.mp hi
      have hzl : z.1 < ins.length := List.mem_range.mp (List.mem_of_getElem? k1)
      refine DE.is (de_of_do (do_lc (List.range z.1) nI [5] (fun k => [nI k]) (fun k => underB (ins.getD k []) z.2) nI [("k", 5)] nd ?_ (di_rng (de_var 6) T.nRange (by omega)) ?_ ?_ ?_ ?_)) rfl
      · exact blkOk_by (by kernel_rfl)
      · rw [List.length_range]; omega
      · exact fun _ _ _ _ _ y _ => dg_name 5 nd
      · exact fun _ _ _ _ _ y hy => dts_one (dt_of (de_call O hr (da_cons (de_ixLf (f := tI) (xs := ins) (de_var 1) (de_var 5) (hin (by have := List.mem_range.mp hy; omega))) (da_cons (de_var 7) da_nil)) ⟨ins.getD y [], z.2, rfl, hs _ (List.mem_of_getElem? (hin (by have := List.mem_range.mp hy; omega))), rfl⟩))
      · exact fun _ _ _ _ _ y _ _ => de_var 5
    · rw [List.filter_eq_self.mpr fun _ _ => rfl]
      refine dss_freeze 4 ?_
      refine dss_one (ds_setO 8 nd (do_lstl (da_cons (de_tupl (da_cons (de_tupl da_nil) (da_cons (de_tupl da_nil) da_nil))) da_nil)) ?_)
      have e : ((List.range ins.length).zip ins).map (fun q => lN ((List.range q.1).filter fun k => underB (ins.getD k []) q.2)) = (List.range ins.length).map fun a => lN (underL ins a) := by
        apply List.ext_getElem?
        intro i
        rw [List.getElem?_map, List.getElem?_map]
        by_cases hi : i < ins.length
        · rw [(List.getElem?_zip_eq_some (z := (i, ins.getD i []))).mpr ⟨List.getElem?_range hi, hin hi⟩, List.getElem?_range hi]; rfl
        · rw [List.getElem?_eq_none (by rw [List.length_zip, List.length_range]; omega), List.getElem?_eq_none (by rw [List.length_range]; omega)]; rfl
      show _ = _
      have e3 : lF lN ((List.range ins.length).map (underL ins)) = .lst ((List.range ins.length).map fun a => lN (underL ins a)) := by
        show D.lst (List.map lN (List.map _ _)) = _
        rw [List.map_map]; rfl
      rw [e, e3]
      rfl
  · subst h
    refine gt_one (gt_while (W := fun q ρ' rem => ∃ (st : List Br) (s5 s6 s7 s9 s10 s11 s12 s13 : Sl), ((∀ b ∈ st, BrOk n ins.length b) ∧ ∀ i b, st[i]? = some b → i ≤ 1000 * b.2.length) ∧ q = cntS m ins cs tb st ∧ rem = (remS m ins cs tb st).map tN ∧ ρ' = [.val (gD CG n m), .val (lF tI ins), .val (lF tN cs), .val (tI tb), .val (lF lN ((List.range ins.length).map (underL ins))), s5, s6, s7, .own (st.map brD), s9, s10, s11, s12, s13]) (cntS m ins cs tb [([], [])]) ⟨[([], [])], _, _, _, _, _, _, _, _, ?_, rfl, ?_, rfl⟩ ?_)
    · refine ⟨fun b hb => ?_, fun i b hi => ?_⟩
      · rw [List.mem_singleton.mp hb]
        exact ⟨rfl, Nat.zero_le _, fun x h => nomatch h⟩
      · have := (List.getElem?_eq_some_iff.mp hi).1
        simp at this
        omega
    · rw [show ([([], [])] : List Br) = [] ++ [([], [])] from rfl, remS_snoc]
      show _ = List.map tN (srch m ins cs tb ++ [])
      rw [List.append_nil]
    · rintro q ρ' rem ⟨st, s5, s6, s7, s9, s10, s11, s12, s13, ⟨hst, hpos⟩, rfl, rfl, rfl⟩
      refine ⟨!(st.map brD).isEmpty, fun γ hr => dt_lend (ds := st.map brD) 8 (dt_list (de_var 8)), fun hk => ?_, fun hk => ?_⟩
      · have hne : st ≠ [] := fun z => by rw [z] at hk; cases hk
        obtain ⟨st', b, rfl⟩ : ∃ st' b, st = st' ++ [b] := ⟨st.dropLast, st.getLast hne, (List.dropLast_concat_getLast hne).symm⟩
        have hb : BrOk n ins.length b := hst b (List.mem_append_right _ List.mem_cons_self)
        have hst' : ∀ q ∈ st', BrOk n ins.length q := fun q hq => hst q (List.mem_append_left _ hq)
        have hpos' : ∀ i q, st'[i]? = some q → i ≤ 1000 * q.2.length := fun i q hq => hpos i q (by rw [List.getElem?_append_left (List.getElem?_eq_some_iff.mp hq).1]; exact hq)
        have hsl : st'.length ≤ 1000 * b.2.length := hpos st'.length b (by rw [List.getElem?_append_right (Nat.le_refl _), Nat.sub_self]; rfl)
        rw [List.map_append, remS_snoc, List.map_append]
        refine gt_cons (gt_plain1 (P := { nx := fun ρ' => ρ' = [.val (gD CG n m), .val (lF tI ins), .val (lF tN cs), .val (tI tb), .val (lF lN ((List.range ins.length).map (underL ins))), s5, s6, s7, .own (st'.map brD), .val (tN b.1), .val (tN b.2), s11, s12, s13], rt := fun _ => False }) (fun γ hr hp => ds_popT (ds := st'.map brD) (d := brD b) 8 [9, 10] (dg_two 9 10 (hN := nd)) rfl) fun ρ' h => ?_)
        subst h
        refine gt_cons (gt_plain1 (P := { nx := fun ρ' => ρ' = [.val (gD CG n m), .val (lF tI ins), .val (lF tN cs), .val (tI tb), .val (lF lN ((List.range ins.length).map (underL ins))), s5, .val (nI b.2.length), s7, .own (st'.map brD), .val (tN b.1), .val (tN b.2), s11, s12, s13], rt := fun _ => False }) (fun γ hr hp => ds_set 6 nd (d := nI b.2.length) (DE.is (de_lenT (ds := b.2.map nI) (de_var 10) T.nLen) (by rw [List.length_map])) rfl) fun ρ' h => ?_)
        subst h
        refine gt_one (gt_if (k := decide (b.2.length = ins.length)) (fun γ hr => DT.is (dt_cmp op_eq rd_eqI (de_var 6) (de_lenL (ds := ins.map tI) (de_var 1) T.nLen) (nomark _)) (by rw [List.length_map, dec_eq])) (fun hk2 => ?_) fun hk2 => ?_)
        · have e := of_decide_eq_true hk2
          rw [show ins.length - b.2.length = 0 by omega]
          show GT _ _ _ (tN b.2 :: (remS m ins cs tb st').map tN) _
          refine gt_one (gt_yield (fun γ hr => de_var 10) ⟨cntS m ins cs tb st', ?_, st', _, _, _, _, _, _, _, _, ⟨hst', hpos'⟩, rfl, rfl, rfl⟩)
          rw [cntS_snoc, show ins.length - b.2.length = 0 by omega]
          exact Nat.lt_succ_self _
        · have hne2 := of_decide_eq_false hk2
          have hlt : b.2.length < ins.length := by have := hb.le; omega
          obtain ⟨d, hd⟩ : ∃ d, ins.length - b.2.length = d + 1 := ⟨ins.length - b.2.length - 1, by omega⟩
          have hks := kids_ok (tb := tb) (m := m) hcn hcl hb hlt
          have hkd : ∀ q ∈ kids m ins cs tb b, ins.length - q.2.length = d := fun q hq => by rw [(hks q hq).2]; omega
          refine gt_plain (P := { nx := fun ρ' => ∃ s5 s11 s12 s13, ρ' = [.val (gD CG n m), .val (lF tI ins), .val (lF tN cs), .val (tI tb), .val (lF lN ((List.range ins.length).map (underL ins))), s5, .val (nI b.2.length), s7, .own ((st' ++ (kids m ins cs tb b).reverse).map brD), .val (tN b.1), .val (tN b.2), s11, s12, s13], rt := fun _ => False }) (fun γ hr hp => ?_) fun ρ' ⟨s5, s11, s12, s13, h⟩ => ⟨cntS m ins cs tb (st' ++ (kids m ins cs tb b).reverse), ?_, st' ++ (kids m ins cs tb b).reverse, _, _, _, _, _, _, _, _, ⟨fun q hq => ?_, fun i q hq => ?_⟩, rfl, ?_, h⟩
          · have hat : ((List.range ins.length).map (underL ins))[b.2.length]? = some (underL ins b.2.length) := by
              rw [List.getElem?_map, List.getElem?_range hlt]; rfl
            have hc : cs[b.2.length]? = some (cs.getD b.2.length []) := getD_some [] (by omega)
            have hcm := List.mem_of_getElem? hc
            have hbl := belowU_lt (b := b) g hb.m
            refine dss_cons (ds_set 11 nd de_int ?_)
            refine dss_cons (ds_for (underL ins b.2.length) nI [5] (fun k => [nI k]) hp (di_list (de_ixLf (f := lN) (xs := (List.range ins.length).map (underL ins)) (de_var 4) (de_var 6) hat)) (fun _ _ => dg_name 5 nd) (fun i ρ' => ∃ s5, ρ' = [.val (gD CG n m), .val (lF tI ins), .val (lF tN cs), .val (tI tb), .val (lF lN ((List.range ins.length).map (underL ins))), s5, .val (nI b.2.length), s7, .own (st'.map brD), .val (tN b.1), .val (tN b.2), .val (nI (((underL ins b.2.length).take i).foldl (fun p k => m p (b.1.getD k 0)) 0)), s12, s13]) ⟨_, rfl⟩ ?_ ?_)
            · rintro i x ρ' hx ⟨s5, rfl⟩
              have hxa : x < b.2.length := List.mem_range.mp (List.mem_filter.mp (List.mem_of_getElem? hx)).1
              have hx1 : b.1[x]? = some (b.1.getD x 0) := getD_some 0 (by rw [hb.len]; exact hxa)
              refine dss_one (ds_set 11 nd (de_tabT (m := m) (de_rows cg (de_var 0)) (de_var 11) (de_ixTf (f := nI) (xs := b.1) (de_var 9) (de_var 5) hx1) (hbl _ 0 g.pos) (hb.m _ (List.mem_of_getElem? hx1))) ⟨.val (nI x), ?_⟩)
              rw [List.take_add_one, hx, List.foldl_append]; rfl
            · rintro ρ' ⟨s5, rfl⟩
              rw [List.take_length]
              have hbn : belowU m ins b.1 b.2.length < n := hbl _ 0 g.pos
              show DSs _ _ [_, _, _, _, _, _, _, _, _, _, _, .val (nI (belowU m ins b.1 b.2.length)), _, _] _
              generalize hq : belowU m ins b.1 b.2.length = q at *
              refine dss_one (ds_for (cs.getD b.2.length []).reverse nI [12] (fun k => [nI k]) hp (DI.is (di_tup (de_revT (ds := (cs.getD b.2.length []).map nI) (de_ixLf (f := tN) (xs := cs) (de_var 2) (de_var 6) hc))) (by rw [List.map_reverse])) (fun _ _ => dg_name 12 nd) (fun i ρ' => ∃ s5 s12 s13, ρ' = [.val (gD CG n m), .val (lF tI ins), .val (lF tN cs), .val (tI tb), .val (lF lN ((List.range ins.length).map (underL ins))), s5, .val (nI b.2.length), s7, .own ((st' ++ ((((cs.getD b.2.length []).reverse.take i).filter fun x => clear tb b.2 b.2.length (m q x)).map fun x => (b.1 ++ [x], b.2 ++ [m q x]))).map brD), .val (tN b.1), .val (tN b.2), .val (nI q), s12, s13]) ⟨s5, s12, s13, by rw [List.take_zero, List.filter_nil, List.map_nil, List.append_nil]⟩ ?_ ?_)
              · rintro i x ρ' hx ⟨s5', s12', s13', rfl⟩
                have hxm : x ∈ cs.getD b.2.length [] := List.mem_reverse.mp (List.mem_of_getElem? hx)
                have hxn : x < n := hcn _ hcm x hxm
                have hil : i < 1000 := by
                  have h1 := (List.getElem?_eq_some_iff.mp hx).1
                  rw [List.length_reverse] at h1
                  have h2 := hcz _ hcm
                  omega
                have hfl : (((cs.getD b.2.length []).reverse.take i).filter fun x => clear tb b.2 b.2.length (m q x)).length ≤ i := Nat.le_trans (List.length_filter_le _ _) (List.length_take_le _ _)
                refine dss_cons (ds_set 13 nd (de_tabT (m := m) (de_rows cg (de_var 0)) (de_var 11) (de_var 12) hbn hxn) ?_)
                refine dss_one (ds_if (k := clear tb b.2 b.2.length (m q x)) (dt_of (DE.is (de_all (bs := ((List.range b.2.length).filter fun k => decide (b.2.getD k 0 = m q x)).map fun k => decide (tb.getD k 0 = tb.getD b.2.length 0)) rfl (da_cons (DE.is (de_of_do (do_lc (List.range b.2.length) nI [5] (fun k => [nI k]) (fun k => decide (b.2.getD k 0 = m q x)) (fun k => .bl (decide (tb.getD k 0 = tb.getD b.2.length 0))) [("k", 5)] nd (blkOk_by (N := N_searched) (sc := defScope s_searched) (by decide +kernel)) (di_rng (de_var 6) T.nRange (by omega)) ?_ ?_ ?_ ?_)) ?_) da_nil) T.nAll) ?_)) (fun hk => ?_) fun hk => ?_)
                · rw [List.length_range]; omega
                · exact fun _ _ _ _ _ y _ => dg_name 5 nd
                · exact fun _ _ _ _ _ y hy => dts_one (DT.is (dt_cmp op_eq rd_eqI (de_ixTf (f := nI) (xs := b.2) (de_var 10) (de_var 5) (getD_some 0 (List.mem_range.mp hy))) (de_var 13) (nomark _)) (dec_eq _ _))
                · exact fun _ _ _ _ _ y hy _ => de_cmp op_eq rd_eqI (de_ixTf (f := D.int) (xs := tb) (i := y) (de_var 3) (de_var 5) (getD_some 0 (by have := List.mem_range.mp hy; omega))) (de_ixTf (f := D.int) (xs := tb) (i := b.2.length) (de_var 3) (de_var 6) (getD_some 0 (by omega))) (nomark _)
                · rw [List.map_map]; rfl
                · rw [clear_all]
                · refine dss_one (ds_append (ds := (st' ++ ((((cs.getD b.2.length []).reverse.take i).filter fun x => clear tb b.2 b.2.length (m q x)).map fun x => (b.1 ++ [x], b.2 ++ [m q x]))).map brD) 8 (de_tupl (da_cons (de_catT (de_var 9) (de_tupl (da_cons (de_var 12) da_nil)) ?_) (da_cons (de_catT (de_var 10) (de_tupl (da_cons (de_var 13) da_nil)) ?_) da_nil))) ?_ ⟨s5', .val (nI x), .val (nI (m q x)), ?_⟩)
                  · rw [List.length_map, hb.len]; show _ + 1 ≤ _; omega
                  · rw [List.length_map]; show _ + 1 ≤ _; omega
                  · rw [List.length_map, List.length_append, List.length_map]; omega
                  · have e1 : ((cs.getD b.2.length []).reverse.take (i + 1)).filter (fun x => clear tb b.2 b.2.length (m q x)) = ((cs.getD b.2.length []).reverse.take i).filter (fun x => clear tb b.2 b.2.length (m q x)) ++ [x] := by
                      rw [List.take_add_one, hx, List.filter_append]; simp [hk]
                    have e2 : brD (b.1 ++ [x], b.2 ++ [m q x]) = .tup [.tup (b.1.map nI ++ [nI x]), .tup (b.2.map nI ++ [nI (m q x)])] := by
                      show D.tup [D.tup (List.map nI (b.1 ++ [x])), D.tup (List.map nI (b.2 ++ [m q x]))] = _
                      rw [List.map_append, List.map_append]; rfl
                    rw [e1, List.map_append (l₂ := [x]), ← List.append_assoc, List.map_append (f := brD) (l₂ := List.map _ [x])]
                    show [_, _, _, _, _, _, _, _, Sl.own (_ ++ [_]), _, _, _, _, _] = [_, _, _, _, _, _, _, _, Sl.own (_ ++ [brD (b.1 ++ [x], b.2 ++ [m q x])]), _, _, _, _, _]
                    rw [e2]
                · refine dss_nil ⟨s5', .val (nI x), .val (nI (m q x)), ?_⟩
                  have e1 : ((cs.getD b.2.length []).reverse.take (i + 1)).filter (fun x => clear tb b.2 b.2.length (m q x)) = ((cs.getD b.2.length []).reverse.take i).filter (fun x => clear tb b.2 b.2.length (m q x)) := by
                    rw [List.take_add_one, hx, List.filter_append]; simp [hk]
                  rw [e1]; rfl
              · rintro ρ' ⟨s5', s12', s13', rfl⟩
                refine ⟨s5', .val (nI q), s12', s13', ?_⟩
                rw [List.take_length]
                have e : kids m ins cs tb b = ((cs.getD b.2.length []).filter fun x => clear tb b.2 b.2.length (m q x)).map fun x => (b.1 ++ [x], b.2 ++ [m q x]) := by unfold kids; rw [hq]
                rw [e, ← List.map_reverse, List.filter_reverse]
          · rw [cntS_snoc, cntS_kids st' _ hkd, hd]
            show _ < _ + (1 + _)
            omega
          · rcases List.mem_append.mp hq with z | z
            · exact hst' q z
            · exact (hks q (List.mem_reverse.mp z)).1
          · by_cases hi : i < st'.length
            · exact hpos' i q (by rw [List.getElem?_append_left hi] at hq; exact hq)
            · rw [List.getElem?_append_right (by omega)] at hq
              have hq1 := List.mem_of_getElem? hq
              have hq2 := (List.getElem?_eq_some_iff.mp hq).1
              have hkl : (kids m ins cs tb b).length ≤ 1000 := by
                unfold kids
                rw [List.length_map]
                have h1 := List.length_filter_le (fun x => clear tb b.2 b.2.length (m (belowU m ins b.1 b.2.length) x)) (cs.getD b.2.length [])
                have h2 := hcz _ (List.mem_of_getElem? (getD_some (xs := cs) (i := b.2.length) [] (by omega)))
                omega
              rw [List.length_reverse] at hq2
              rw [(hks q (List.mem_reverse.mp hq1)).2]
              omega
          · rw [remS_kids st' _ hkd, hd, List.map_append]
            rfl
      · have hnil : st = [] := by
          cases st with
          | nil => rfl
          | cons q st => cases hk
        rw [hnil]; rfl
end
end DL
set_option maxHeartbeats 4000000
namespace DL
open PySem PySem.Spec PyProof.Rows L2
/-! ### chart_by_row, deciding_chart, deciding_charts -/
/-- what a search hands out -/
theorem dfs_ok {n : Nat} {m : Nat → Nat → Nat} {ins : List (List Int)} {cs : List (List Nat)} {tb : List Int} (g : Grp n m) (hc : ∀ c ∈ cs, ∀ x ∈ c, x < n) (hl : cs.length = ins.length) : ∀ (d : Nat) (b : Br), BrOk n ins.length b → b.2.length + d = ins.length → (∀ x ∈ b.2, x < n) → ∀ es ∈ dfs m ins cs tb d b, es.length = ins.length ∧ ∀ x ∈ es, x < n
  | 0, b, h, hd, hx, es, he => by
    rw [show es = b.2 from List.mem_singleton.mp he]
    exact ⟨by omega, hx⟩
  | d + 1, b, h, hd, hx, es, he => by
    obtain ⟨q, hq, hes⟩ := List.mem_flatMap.mp he
    obtain ⟨k1, k2⟩ := kids_ok (tb := tb) (m := m) hc hl h (by omega) q hq
    refine dfs_ok g hc hl d q k1 (by omega) (fun x hxq => ?_) es hes
    obtain ⟨y, hy, rfl⟩ := List.mem_map.mp hq
    rcases List.mem_append.mp hxq with z | z
    · exact hx x z
    · rw [List.mem_singleton.mp z]
      exact g.cl _ _ (belowU_lt (b := b) g h.m _ 0 g.pos) (hc _ (List.mem_of_getElem? (getD_some [] (by omega))) y (List.mem_filter.mp hy).1)
theorem srch_ok {n : Nat} {m : Nat → Nat → Nat} {ins : List (List Int)} {cs : List (List Nat)} {tb : List Int} (g : Grp n m) (hc : ∀ c ∈ cs, ∀ x ∈ c, x < n) (hl : cs.length = ins.length) : ∀ es ∈ srch m ins cs tb, es.length = ins.length ∧ ∀ x ∈ es, x < n :=
  dfs_ok g hc hl ins.length ([], []) ⟨rfl, Nat.zero_le _, fun _ h => nomatch h⟩ (by simp) fun _ h => nomatch h
theorem subAt_rowL {n : Nat} {m : Nat → Nat → Nat} {c k x : Nat} (h : x ∈ subAt (rowL n m c) k) : x < n := by
  unfold subAt at h
  have hl : min (max k 1) (rowL n m c).length - 1 < (rowL n m c).length := by have := rowL_pos n m c; omega
  have h1 := List.mem_of_getElem? (getD_some (xs := rowL n m c) [] hl)
  obtain ⟨i, _, e⟩ := List.mem_map.mp h1
  rw [← e] at h
  exact low_lt h
theorem subAt_len {n : Nat} {m : Nat → Nat → Nat} {c k : Nat} : (subAt (rowL n m c) k).length ≤ n := by
  unfold subAt
  have hl : min (max k 1) (rowL n m c).length - 1 < (rowL n m c).length := by have := rowL_pos n m c; omega
  have h1 := List.mem_of_getElem? (getD_some (xs := rowL n m c) [] hl)
  obtain ⟨i, _, e⟩ := List.mem_map.mp h1
  rw [← e]
  exact low_len n m i
theorem choN_ok {n : Nat} {m : Nat → Nat → Nat} {c : Nat} {ins : List (List Int)} (g : Grp n m) : (∀ q ∈ choN (rowL n m c) ins, ∀ x ∈ q, x < n) ∧ ∀ q ∈ choN (rowL n m c) ins, q.length ≤ n := by
  refine ⟨fun q hq x hx => ?_, fun q hq => ?_⟩
  · rcases List.mem_cons.mp hq with e | e
    · rw [e] at hx; rw [List.mem_singleton.mp hx]; exact g.pos
    · obtain ⟨s, _, rfl⟩ := List.mem_map.mp e
      exact subAt_rowL hx
  · rcases List.mem_cons.mp hq with e | e
    · rw [e]; exact g.pos
    · obtain ⟨s, _, rfl⟩ := List.mem_map.mp e
      exact subAt_len
/-- a group, a shape, a table of the shape -/
structure RowOk (n : Nat) (m : Nat → Nat → Nat) (sh : List Nat) (c : Nat) (tb : List Int) : Prop where
  g : Grp n m
  few : n ≤ 60
  still : Still n m c
  sz : Szc sh
  pos : 0 < (inp sh).length
  len : (inp sh).length = prodN sh
  tl : tb.length = prodN sh
  le : prodN sh < 1000
  short : ∀ s ∈ inp sh, s.length < 10000
theorem low_zero {n : Nat} {m : Nat → Nat → Nat} (h : 0 < n) : ∀ k, 0 ∈ low n m k
  | 0 => List.mem_range.mpr h
  | _ + 1 => zero_clo h
theorem low_nd (n : Nat) (m : Nat → Nat → Nat) : ∀ k, (low n m k).Nodup
  | 0 => List.nodup_range
  | _ + 1 => List.nodup_range.filter _
theorem low_two {n : Nat} {m : Nat → Nat → Nat} (h : 0 < n) {k : Nat} (hn : low n m k ≠ [0]) : 1 < (low n m k).length := by
  have h0 := low_zero (m := m) h k
  match hq : low n m k with
  | [] => rw [hq] at h0; cases h0
  | [x] => rw [hq] at h0 hn; rw [List.mem_singleton.mp h0] at hn; exact absurd rfl hn
  | _ :: _ :: _ => simp
noncomputable def byRow (CC CG CT : Addr) (n : Nat) (m : Nat → Nat → Nat) (sh : List Nat) (c : Nat) (tb : List Int) : Res :=
  if low n m c ≠ [0] then .ok (chD CC CG n m sh (tb.map fun l => if l = 1 then (low n m c).getD 1 0 else 0))
  else if prodN ((choN (rowL n m c) (inp sh)).map List.length) ≤ 1024 then (match srch m (inp sh) (choN (rowL n m c) (inp sh)) tb with | [] => .ok .non | es :: _ => .ok (chD CC CG n m sh es)) else .err CT
section
variable {P : Program} {w : World} {K : PySem.W.Frag} {mg : Str → Option Value} {base : Heap} {f CG CC CT C : Addr} {fd : FuncData} {k : Nat}
def R_chart_by_row (CC CG CT : Addr) (ds : List D) (r : Res) : Prop := ∃ (n : Nat) (m : Nat → Nat → Nat) (sh : List Nat) (c : Nat) (tb : List Int), ds = [gD CG n m, .lst ((rowL n m c).map xN), tN sh, tI tb] ∧ RowOk n m sh c tb ∧ r = byRow CC CG CT n m sh c tb
abbrev s_chart_by_row : Stmt := top 45
abbrev N_chart_by_row : List Str := ["group", "row", "shape", "table", "marked", "label", "inputs", "choices", "entries"]
theorem sc_chart_by_row : FnScope N_chart_by_row ["group", "row", "shape", "table"] (defScope s_chart_by_row) := ⟨rfl, rfl, rfl, by decide +kernel, rfl, by decide +kernel, by decide +kernel⟩
theorem ok_chart_by_row (T : Txt K mg) (M : MakeOk P w K mg base "Chart" CC k (R_Chart CG)) (O1 : DefOk P w K mg base "inputs_of" (k + 1) R_inputs_of) (O2 : DefOk P w K mg base "coefficient_choices" (k + 1) R_coefficient_choices) (O3 : DefOk P w K mg base "check_count" (k + 1) (R_check_count CT)) (hk1 : 1 ≤ k) (G : GL.GenOk P w K mg base "searched_entries" (k - 1) (R_searched CG)) (F : FnP K "chart_by_row" s_chart_by_row f fd) (hm : mg "chart_by_row" = some (.ref f)) : DefOk P w K mg base "chart_by_row" (k + 2) (R_chart_by_row CC CG CT) := by
  refine def_ok F hm sc_chart_by_row (fun ds r ⟨_, _, _, _, _, e, _⟩ => by rw [e]; rfl) (fun _ _ _ _ _ _ us hl => match us, hl with | [_, _, _, _], _ => rfl) fun cdv A outer s H E hr ds r hR => ?_
  obtain ⟨n, m, sh, c, tb, rfl, q, rfl⟩ := hR
  have nd := sc_chart_by_row.nd
  have zl := sizeLine_eq
  have ql := q.len; have qt := q.tl; have qe := q.le; have qf := q.few; have qp := q.pos
  have hlast : atI ((rowL n m c).map xN) (-1) = some (xN (low n m c)) := by
    unfold rowL
    rw [List.range_succ, List.map_append, List.map_append]
    exact atI_last _ _
  refine dss_cons (ds_if (k := !decide (low n m c = [0])) (dt_cmp (op_neD hr.units) (rd_neTN (ns := low n m c) (ms := [0])) ((de_ixL (ds := (rowL n m c).map xN) (i := (-1)) (d := xN (low n m c)) (de_var 1) (de_neg de_int) hlast).weak (wd_x _)) (de_tupl (da_cons de_int da_nil)) (nomark _)) (fun hk => ?_) fun hk => ?_)
  · have hne : low n m c ≠ [0] := by simpa using hk
    have h2 := low_two q.g.pos hne
    have h1 : (low n m c)[1]? = some ((low n m c).getD 1 0) := getD_some 0 h2
    refine dss_cons (ds_set 4 nd (d := nI ((low n m c).getD 1 0)) (de_ixTf (f := nI) (xs := low n m c) (i := 1) ((de_ixL (ds := (rowL n m c).map xN) (i := (-1)) (d := xN (low n m c)) (de_var 1) (de_neg de_int) hlast).weak (wd_x _)) de_int h1) ?_)
    refine dss_one (ds_ret (de_make M hr (da_cons (de_var 0) (da_cons (de_var 2) (da_cons (DE.is (de_of_do (do_lc0 tb D.int [5] (fun l => [.int l]) (fun l => nI (if l = 1 then (low n m c).getD 1 0 else 0)) [("label", 5)] nd (blkOk_by (N := N_chart_by_row) (sc := defScope s_chart_by_row) (by decide +kernel)) (di_tup (de_var 3)) ?_ ?_ ?_)) ?_) da_nil))) ⟨n, m, sh, tb.map fun l => if l = 1 then (low n m c).getD 1 0 else 0, true, rfl, q.sz.1, by rw [List.length_map, qt], fun x hx => ?_, rfl⟩) ?_)
    · omega
    · exact fun _ _ _ _ _ z _ => dg_name 5 nd
    · intro _ _ _ _ _ z _
      refine de_if (k := decide (z = 1)) (dt_cmp op_eq rd_eqI (de_var 5) de_int (nomark _)) (fun h => DE.is (de_var 4) (by rw [if_pos (of_decide_eq_true h)])) fun h => DE.is de_int (by rw [if_neg (of_decide_eq_false h)]; rfl)
    · show _ = D.lst (List.map nI (List.map _ _)); rw [List.map_map]; rfl
    · obtain ⟨l, _, rfl⟩ := List.mem_map.mp hx
      split
      · exact low_lt (List.mem_of_getElem? h1)
      · exact q.g.pos
    · show byRow CC CG CT n m sh c tb = _
      unfold byRow
      rw [if_pos hne]
  · have he : low n m c = [0] := by simpa using hk
    obtain ⟨c1, c2⟩ := choN_ok (c := c) (ins := inp sh) q.g
    have hcl : (choN (rowL n m c) (inp sh)).length = (inp sh).length := by
      unfold choN
      rw [List.length_cons, List.length_map, List.length_drop]; omega
    refine dss_nil (dss_cons (ds_set 6 nd (de_call O1 hr (da_cons (de_var 2) da_nil) ⟨sh, rfl, q.sz, rfl⟩) ?_))
    refine dss_cons (ds_set 7 nd (de_call O2 hr (da_cons (de_var 1) (da_cons (de_var 6) da_nil)) ⟨rowL n m c, inp sh, rfl, rowL_pos n m c, by omega, q.short, rfl⟩) ?_)
    by_cases hcount : prodN ((choN (rowL n m c) (inp sh)).map List.length) ≤ 1024
    · refine dss_cons (ds_callX O3 hr (da_cons (de_var 7) da_nil) ⟨choN (rowL n m c) (inp sh), rfl, fun z hz => by have := c2 z hz; omega, rfl⟩ (fun d hd => ?_) fun C' hC => by rw [if_pos hcount] at hC; cases hC)
      have eR : byRow CC CG CT n m sh c tb = match srch m (inp sh) (choN (rowL n m c) (inp sh)) tb with | [] => .ok .non | es :: _ => .ok (chD CC CG n m sh es) := by
        unfold byRow
        rw [if_neg (fun z => z he), if_pos hcount]
      have hso := srch_ok (tb := tb) q.g c1 hcl
      rw [eR]
      generalize hS : srch m (inp sh) (choN (rowL n m c) (inp sh)) tb = S at *
      refine dss_cons (GL.ds_forG 8 (S.map tN) none G (hr.mono (by omega)) (passes_of rfl) GL.xeb_cx nd (da_cons (de_var 0) (da_cons (de_var 6) (da_cons (de_var 7) (da_cons (de_var 3) da_nil)))) ⟨n, m, inp sh, choN (rowL n m c) (inp sh), tb, rfl, q.g, by omega, q.short, hcl, c1, fun z hz => by have := c2 z hz; omega, by omega, rfl, by rw [hS]⟩ (fun C hC => nomatch hC) (fun C hC => nomatch hC) (fun j ρ' => j = 0 ∧ ρ' = [.val (gD CG n m), .val (.lst ((rowL n m c).map xN)), .val (tN sh), .val (tI tb), .no, .no, .val (lF tI (inp sh)), .val (lF tN (choN (rowL n m c) (inp sh))), .no]) ⟨rfl, rfl⟩ (fun _ j y ρ' hj ⟨ej, eρ⟩ => ?_) (fun _ ρ' ⟨ej, eρ⟩ => ?_))
      · subst ej eρ
        cases S with
        | nil => cases hj
        | cons es S =>
          cases hj
          obtain ⟨h1, h2⟩ := hso es List.mem_cons_self
          exact dss_one (ds_ret (de_make M hr (da_cons (de_var 0) (da_cons (de_var 2) (da_cons (de_var 8) da_nil))) ⟨n, m, sh, es, false, rfl, q.sz.1, by omega, h2, rfl⟩) rfl)
      · subst eρ
        cases S with
        | nil => exact dss_one (ds_ret de_non rfl)
        | cons es S => cases ej
    · refine dss_cons (ds_callX O3 hr (da_cons (de_var 7) da_nil) ⟨choN (rowL n m c) (inp sh), rfl, fun z hz => by have := c2 z hz; omega, rfl⟩ (fun d hd => by rw [if_neg hcount] at hd; cases hd) fun C' hC => ?_)
      rw [if_neg hcount] at hC
      cases hC
      show byRow CC CG CT n m sh c tb = _
      unfold byRow
      rw [if_neg (fun z => z he), if_neg hcount]
end
end DL
set_option maxHeartbeats 4000000
namespace DL
open PySem PySem.Spec PyProof.Rows L2
/-- what a table of the shape is answered with -/
structure DecOk (n : Nat) (m : Nat → Nat → Nat) (sh : List Nat) (c : Nat) (tb : List Int) : Prop where
  r : shOk sh = true → tbOk sh tb = true → RowOk n m sh c tb
  shl : sh.length < 10000
  tbl : tb.length < 10000
  g : Grp n m
  few : n ≤ 60
  still : Still n m c
noncomputable def decR (CC CG CS CB CT : Addr) (n : Nat) (m : Nat → Nat → Nat) (sh : List Nat) (c : Nat) (tb : List Int) : Res :=
  if shOk sh then (if tbOk sh tb then byRow CC CG CT n m sh c tb else .err CB) else .err CS
def cntOk (n : Nat) (m : Nat → Nat → Nat) (sh : List Nat) (c : Nat) : Prop := prodN ((choN (rowL n m c) (inp sh)).map List.length) ≤ 1024
noncomputable instance (n : Nat) (m : Nat → Nat → Nat) (sh : List Nat) (c : Nat) : Decidable (cntOk n m sh c) := Classical.propDecidable _
noncomputable def decE (CS CB CT : Addr) (n : Nat) (m : Nat → Nat → Nat) (sh : List Nat) (c : Nat) (tb : List Int) : Option Addr :=
  if shOk sh then (if tbOk sh tb then (if cntOk n m sh c then none else some CT) else some CB) else some CS
noncomputable def decL (CC CG : Addr) (n : Nat) (m : Nat → Nat → Nat) (sh : List Nat) (c : Nat) (tb : List Int) : List D := (srch m (inp sh) (choN (rowL n m c) (inp sh)) tb).map (chD CC CG n m sh)
/-- the chart of a row of entries -/
def chOf (CC CG : Addr) (n : Nat) (m : Nat → Nat → Nat) (sh : List Nat) : D → D
  | .tup ds => .obj CC [("group", gD CG n m), ("shape", tN sh), ("entries", .tup ds)]
  | _ => .non
section
variable {P : Program} {w : World} {K : PySem.W.Frag} {mg : Str → Option Value} {base : Heap} {f CG CC CS CB CT C : Addr} {fd : FuncData} {k k2 : Nat}
def R_deciding_chart (CC CG CS CB CT : Addr) (ds : List D) (r : Res) : Prop := ∃ (n : Nat) (m : Nat → Nat → Nat) (sh : List Nat) (c : Nat) (tb : List Int), ds = [gD CG n m, tN sh, tI tb] ∧ DecOk n m sh c tb ∧ r = decR CC CG CS CB CT n m sh c tb
abbrev s_deciding_chart : Stmt := top 46
abbrev N_deciding_chart : List Str := ["group", "shape", "table"]
theorem sc_deciding_chart : FnScope N_deciding_chart ["group", "shape", "table"] (defScope s_deciding_chart) := ⟨rfl, rfl, rfl, by decide +kernel, rfl, by decide +kernel, by decide +kernel⟩
theorem ok_deciding_chart (T : Txt K mg) (O1 : DefOk P w K mg base "check_table" k (R_check_table CS CB)) (O2 : DefOk P w K mg base "lower_row" k (R_lower_row CG)) (O3 : DefOk P w K mg base "chart_by_row" k (R_chart_by_row CC CG CT)) (F : FnP K "deciding_chart" s_deciding_chart f fd) (hm : mg "deciding_chart" = some (.ref f)) : DefOk P w K mg base "deciding_chart" (k + 1) (R_deciding_chart CC CG CS CB CT) := by
  refine def_ok F hm sc_deciding_chart (fun ds r ⟨_, _, _, _, _, e, _⟩ => by rw [e]; rfl) (fun _ _ _ _ _ _ us hl => match us, hl with | [_, _, _], _ => rfl) fun cdv A outer s H E hr ds r hR => ?_
  obtain ⟨n, m, sh, c, tb, rfl, q, rfl⟩ := hR
  have qf := q.few
  refine dss_cons (ds_callX O1 hr (da_cons (de_var 1) (da_cons (de_var 2) da_nil)) ⟨sh, tb, rfl, q.shl, q.tbl, rfl⟩ (fun d hd => ?_) fun C' hC => ?_)
  · have h1 : shOk sh = true := by
      by_cases h : shOk sh = true
      · exact h
      · rw [if_neg h] at hd; cases hd
    rw [if_pos h1] at hd
    have h2 : tbOk sh tb = true := by
      by_cases h : tbOk sh tb = true
      · exact h
      · rw [if_neg h] at hd; cases hd
    have e : decR CC CG CS CB CT n m sh c tb = byRow CC CG CT n m sh c tb := by unfold decR; rw [if_pos h1, if_pos h2]
    rw [e]
    exact dss_one (ds_retX O3 hr (da_cons (de_var 0) (da_cons (de_call O2 hr (da_cons (de_var 0) da_nil) ⟨n, m, c, rfl, by omega, q.g, q.still, rfl⟩) (da_cons (de_var 1) (da_cons (de_var 2) da_nil)))) ⟨n, m, sh, c, tb, rfl, q.r h1 h2, rfl⟩ (fun d hd => hd) fun C hC => hC)
  · show decR CC CG CS CB CT n m sh c tb = _
    unfold decR
    by_cases h1 : shOk sh = true
    · rw [if_pos h1] at hC ⊢
      by_cases h2 : tbOk sh tb = true
      · rw [if_pos h2] at hC; cases hC
      · rw [if_neg h2] at hC ⊢; exact hC
    · rw [if_neg h1] at hC ⊢; exact hC
def R_deciding_charts (CC CG CS CB CT : Addr) (ds items : List D) (er : Option Addr) : Prop := ∃ (n : Nat) (m : Nat → Nat → Nat) (sh : List Nat) (c : Nat) (tb : List Int), ds = [gD CG n m, tN sh, tI tb] ∧ DecOk n m sh c tb ∧ er = decE CS CB CT n m sh c tb ∧ items = decL CC CG n m sh c tb
abbrev s_deciding_charts : Stmt := top 44
abbrev N_deciding_charts : List Str := ["group", "shape", "table", "inputs", "choices", "entries"]
theorem sc_deciding_charts : GScope N_deciding_charts ["group", "shape", "table"] (defScope s_deciding_charts) := ⟨rfl, rfl, rfl, by decide +kernel, rfl, by decide +kernel, by decide +kernel⟩
open GL in
theorem ok_deciding_charts (T : Txt K mg) (M : MakeOk P w K mg base "Chart" CC k2 (R_Chart CG)) (h2 : k2 + 1 ≤ k) (O1 : DefOk P w K mg base "check_table" k (R_check_table CS CB)) (O2 : DefOk P w K mg base "lower_row" k (R_lower_row CG)) (O4 : DefOk P w K mg base "inputs_of" k R_inputs_of) (O5 : DefOk P w K mg base "coefficient_choices" k R_coefficient_choices) (O6 : DefOk P w K mg base "check_count" k (R_check_count CT)) {kg : Nat} (G : GenOk P w K mg base "searched_entries" kg (R_searched CG)) (hkg : kg + 2 ≤ k) (F : FnP K "deciding_charts" s_deciding_charts f fd) (hm : mg "deciding_charts" = some (.ref f)) : GenOk P w K mg base "deciding_charts" k (R_deciding_charts CC CG CS CB CT) := by
  refine gen_ok F hm sc_deciding_charts (fun ds items er ⟨_, _, _, _, _, e, _⟩ => by rw [e]; rfl) (fun _ _ _ _ _ _ us hl => match us, hl with | [_, _, _], _ => rfl) fun cdv outer n0 gi ds items er hR => ?_
  obtain ⟨n, m, sh, c, tb, rfl, q, rfl, rfl⟩ := hR
  have nd := sc_deciding_charts.nd
  have qf := q.few
  refine gtop_of (pre := (defBody s_deciding_charts).take 4) (tl := (defBody s_deciding_charts).drop 4) (Tl := fun ρ' => shOk sh = true ∧ tbOk sh tb = true ∧ cntOk n m sh c ∧ ρ' = [.val (gD CG n m), .val (tN sh), .val (tI tb), .val (lF tI (inp sh)), .val (lF tN (choN (rowL n m c) (inp sh))), .no]) (List.take_append_drop 4 _).symm (fun γ hr hp => ?_) fun ρ' ⟨h1, h2', h3, h⟩ => ⟨by unfold decE; rw [if_pos h1, if_pos h2', if_pos h3], ?_⟩
  · refine dss_cons (ds_callX O1 hr (da_cons (de_var 1) (da_cons (de_var 2) da_nil)) ⟨sh, tb, rfl, q.shl, q.tbl, rfl⟩ (fun d hd => ?_) fun C' hC => ?_)
    · have h1 : shOk sh = true := by
        by_cases h : shOk sh = true
        · exact h
        · rw [if_neg h] at hd; cases hd
      rw [if_pos h1] at hd
      have h2 : tbOk sh tb = true := by
        by_cases h : tbOk sh tb = true
        · exact h
        · rw [if_neg h] at hd; cases hd
      have w := q.r h1 h2
      have wl := w.len; have we := w.le
      obtain ⟨c1, c2⟩ := choN_ok (c := c) (ins := inp sh) q.g
      refine dss_cons (ds_set 3 nd (de_call O4 hr (da_cons (de_var 1) da_nil) ⟨sh, rfl, w.sz, rfl⟩) ?_)
      refine dss_cons (ds_set 4 nd (de_call O5 hr (da_cons (de_call O2 hr (da_cons (de_var 0) da_nil) ⟨n, m, c, rfl, by omega, q.g, q.still, rfl⟩) (da_cons (de_var 3) da_nil)) ⟨rowL n m c, inp sh, rfl, rowL_pos n m c, by omega, w.short, rfl⟩) ?_)
      refine dss_one (ds_callX O6 hr (da_cons (de_var 4) da_nil) ⟨choN (rowL n m c) (inp sh), rfl, fun z hz => by have := c2 z hz; omega, rfl⟩ (fun d hd => ?_) fun C' hC => ?_)
      · have h3 : cntOk n m sh c := by
          by_cases h : cntOk n m sh c
          · exact h
          · rw [if_neg (show ¬ prodN ((choN (rowL n m c) (inp sh)).map List.length) ≤ 1024 from h)] at hd; cases hd
        exact ⟨h1, h2, h3, rfl⟩
      · by_cases h : cntOk n m sh c
        · rw [if_pos (show prodN ((choN (rowL n m c) (inp sh)).map List.length) ≤ 1024 from h)] at hC; cases hC
        · rw [if_neg (show ¬ prodN ((choN (rowL n m c) (inp sh)).map List.length) ≤ 1024 from h)] at hC
          cases hC
          show decE CS CB CT n m sh c tb = _
          unfold decE
          rw [if_pos h1, if_pos h2, if_neg h]
    · show decE CS CB CT n m sh c tb = _
      unfold decE
      by_cases h1 : shOk sh = true
      · rw [if_pos h1] at hC ⊢
        by_cases h2 : tbOk sh tb = true
        · rw [if_pos h2] at hC; cases hC
        · rw [if_neg h2] at hC ⊢; cases hC; rfl
      · rw [if_neg h1] at hC ⊢; cases hC; rfl
  · subst h
    have w := q.r h1 h2'
    have wl := w.len; have we := w.le; have wt := w.tl; have wp := w.pos
    obtain ⟨c1, c2⟩ := choN_ok (c := c) (ins := inp sh) q.g
    have hcl : (choN (rowL n m c) (inp sh)).length = (inp sh).length := by
      unfold choN
      rw [List.length_cons, List.length_map, List.length_drop]; omega
    have hso := srch_ok (tb := tb) q.g c1 hcl
    have eL : decL CC CG n m sh c tb = ((srch m (inp sh) (choN (rowL n m c) (inp sh)) tb).map tN).map (chOf CC CG n m sh) := by
      unfold decL
      rw [List.map_map]; rfl
    rw [eL]
    refine gt_one (gt_forG 5 _ (chOf CC CG n m sh) G hkg nd ⟨n, m, inp sh, choN (rowL n m c) (inp sh), tb, rfl, q.g, by omega, w.short, hcl, c1, fun z hz => by have := c2 z hz; omega, by omega, rfl, rfl⟩ (fun γ hr => da_cons (de_var 0) (da_cons (de_var 3) (da_cons (de_var 4) (da_cons (de_var 2) da_nil)))) (fun ρ' => ∃ s, ρ' = [.val (gD CG n m), .val (tN sh), .val (tI tb), .val (lF tI (inp sh)), .val (lF tN (choN (rowL n m c) (inp sh))), s]) ⟨_, rfl⟩ (fun y hy ρ' ⟨s, e⟩ => ?_) fun _ _ => rfl)
    subst e
    obtain ⟨es, hes, rfl⟩ := List.mem_map.mp hy
    obtain ⟨e1, e2⟩ := hso es hes
    exact ⟨⟨_, rfl⟩, fun γ hr => de_make M (hr.mono h2) (da_cons (de_var 0) (da_cons (de_var 1) (da_cons (de_var 5) da_nil))) ⟨n, m, sh, es, false, rfl, w.sz.1, by omega, e2, rfl⟩⟩
end
end DL
set_option maxHeartbeats 4000000
namespace DL
open PySem PySem.Spec PyProof.Rows L2
/-! ### the law's defs: weight, under, count, choices, below -/
def lchoN (ser : List (List Nat)) (ins : List (List Int)) : List (List Nat) := [0] :: (ins.drop 1).map fun s => ser.getD (wtN s) []
section
variable {P : Program} {w : World} {K : PySem.W.Frag} {mg : Str → Option Value} {base : Heap} {f CG CC CT C : Addr} {fd : FuncData} {k : Nat}
abbrev s_lweight : Stmt := top 66
abbrev N_lweight : List Str := ["_law_signs", "_law_sign"]
theorem sc_lweight : FnScope N_lweight ["_law_signs"] (defScope s_lweight) := ⟨rfl, rfl, rfl, by decide +kernel, rfl, by decide +kernel, by decide +kernel⟩
theorem ok_lweight (T : Txt K mg) (F : FnP K "_law_weight" s_lweight f fd) (hm : mg "_law_weight" = some (.ref f)) : DefOk P w K mg base "_law_weight" (k + 1) R_weight := by
  refine def_ok F hm sc_lweight (fun ds r ⟨ns, e, _⟩ => by rw [e]; rfl) (fun _ _ _ _ _ _ us hl => match us, hl with | [_], _ => rfl) fun cdv A outer s H E hr ds r hR => ?_
  obtain ⟨ns, rfl, hz, rfl⟩ := hR
  refine dss_one (ds_ret (de_lenL (de_of_do (do_lc ns D.int [1] (fun n => [.int n]) (fun n => !decide (n = 0)) D.int [("_law_sign", 1)] sc_lweight.nd (blkOk_by (N := N_lweight) (sc := defScope s_lweight) (by decide +kernel)) (di_tup (de_var 0)) ?_ ?_ ?_ ?_)) T.nLen) ?_)
  · have := sizeLine_eq; omega
  · exact fun _ _ _ _ _ n _ => dg_name 1 sc_lweight.nd
  · exact fun _ _ _ _ _ n _ => dts_one (dt_cmp op_ne rd_neI (de_var 1) de_int (nomark _))
  · exact fun _ _ _ _ _ n _ _ => de_var 1
  · show Res.ok _ = Res.ok _
    rw [List.length_map]
theorem underB_iff {lo hi : List Int} (h : lo.length ≤ hi.length) : underB lo hi = true ↔ ∀ i, i < lo.length → lo.getD i 0 = 0 ∨ lo.getD i 0 = hi.getD i 0 := by
  unfold underB
  rw [List.all_eq_true]
  constructor
  · intro a i hi'
    have h1 : lo[i]? = some (lo.getD i 0) := getD_some 0 hi'
    have h2 : hi[i]? = some (hi.getD i 0) := getD_some 0 (by omega)
    have := a (lo.getD i 0, hi.getD i 0) (List.mem_of_getElem? (List.getElem?_zip_eq_some.mpr ⟨h1, h2⟩))
    simpa using this
  · rintro a ⟨x, y⟩ hm
    obtain ⟨i, hi'⟩ := List.getElem?_of_mem hm
    obtain ⟨k1, k2⟩ := List.getElem?_zip_eq_some.mp hi'
    have hl := (List.getElem?_eq_some_iff.mp k1).1
    have := a i hl
    rw [List.getD_eq_getElem?_getD, k1, List.getD_eq_getElem?_getD, k2] at this
    simpa using this
def R_lunder (ds : List D) (r : Res) : Prop := ∃ lo hi : List Int, ds = [tI lo, tI hi] ∧ lo.length < 10000 ∧ lo.length ≤ hi.length ∧ r = .ok (.bl (underB lo hi))
abbrev s_lunder : Stmt := top 68
abbrev N_lunder : List Str := ["_law_low", "_law_high", "_law_k"]
theorem sc_lunder : FnScope N_lunder ["_law_low", "_law_high"] (defScope s_lunder) := ⟨rfl, rfl, rfl, by decide +kernel, rfl, by decide +kernel, by decide +kernel⟩
theorem ok_lunder (T : Txt K mg) (F : FnP K "_law_under" s_lunder f fd) (hm : mg "_law_under" = some (.ref f)) : DefOk P w K mg base "_law_under" (k + 1) R_lunder := by
  refine def_ok F hm sc_lunder (fun ds r ⟨_, _, e, _⟩ => by rw [e]; rfl) (fun _ _ _ _ _ _ us hl => match us, hl with | [_, _], _ => rfl) fun cdv A outer s H E hr ds r hR => ?_
  obtain ⟨lo, hi, rfl, hz, hle, rfl⟩ := hR
  have nd := sc_lunder.nd
  refine dss_cons (ds_for (List.range lo.length) nI [2] (fun k => [nI k]) (passes_of rfl) (DI.is (di_range1 (de_lenT (de_var 0) T.nLen) T.nRange (by rw [List.length_map]; omega)) (by simp [nI])) (fun _ _ => dg_name 2 nd) (fun i ρ' => (∀ j, j < i → lo.getD j 0 = 0 ∨ lo.getD j 0 = hi.getD j 0) ∧ ∃ s, ρ' = [.val (tI lo), .val (tI hi), s]) ⟨fun j hj => by omega, _, rfl⟩ ?_ ?_)
  · rintro i x ρ' hx ⟨hI, s, rfl⟩
    obtain ⟨hi1, hi2⟩ := List.getElem?_eq_some_iff.mp hx
    have ex : x = i := by simpa using hi2.symm
    subst ex
    have hxl : x < lo.length := by simpa using hi1
    have a1 := fun (p1 : Pos) => (getD_some (xs := lo) (i := x) 0 hxl)
    refine dss_one (ds_if (k := !decide (lo.getD x 0 = 0) && !decide (lo.getD x 0 = hi.getD x 0)) (dt_pw (dw_and (dt_cmp op_ne rd_neI (de_ixTf (f := D.int) (xs := lo) (i := x) (de_var 0) (de_var 2) (getD_some 0 hxl)) de_int (nomark _)) fun _ => dw_and1 (dt_cmp op_ne rd_neI (de_ixTf (f := D.int) (xs := lo) (i := x) (de_var 0) (de_var 2) (getD_some 0 hxl)) (de_ixTf (f := D.int) (xs := hi) (i := x) (de_var 1) (de_var 2) (getD_some 0 (by omega))) (nomark _)))) (fun hk => ?_) fun hk => ?_)
    · have hf : underB lo hi = false := by
        cases q : underB lo hi with
        | false => rfl
        | true =>
          have := (underB_iff hle).mp q x hxl
          rcases this with z | z
          · rw [decide_eq_true z] at hk; cases hk
          · rw [decide_eq_true z, Bool.not_true, Bool.and_false] at hk; cases hk
      exact dss_one (ds_ret de_bl (by rw [hf]))
    · refine dss_nil ⟨fun j hj => ?_, .val (nI x), rfl⟩
      by_cases h : j < x
      · exact hI j h
      · have e : j = x := by omega
        subst e
        by_cases h1 : lo.getD j 0 = 0
        · exact .inl h1
        · by_cases h2 : lo.getD j 0 = hi.getD j 0
          · exact .inr h2
          · rw [decide_eq_false h1, decide_eq_false h2] at hk; cases hk
  · rintro ρ' ⟨hI, s, rfl⟩
    rw [List.length_range] at hI
    exact dss_one (ds_ret de_bl (by rw [(underB_iff hle).mpr hI]))
def R_lcount (ds : List D) (r : Res) : Prop := ∃ cs : List (List Nat), ds = [lF lN cs] ∧ (∀ c ∈ cs, c.length < 10000) ∧ r = .ok (nI (prodN (cs.map List.length)))
abbrev s_lcount : Stmt := top 72
abbrev N_lcount : List Str := ["_law_choices_here", "_law_total", "_law_members"]
theorem sc_lcount : FnScope N_lcount ["_law_choices_here"] (defScope s_lcount) := ⟨rfl, rfl, rfl, by decide +kernel, rfl, by decide +kernel, by decide +kernel⟩
theorem ok_lcount (T : Txt K mg) (F : FnP K "_law_count" s_lcount f fd) (hm : mg "_law_count" = some (.ref f)) : DefOk P w K mg base "_law_count" (k + 1) R_lcount := by
  refine def_ok F hm sc_lcount (fun ds r ⟨_, e, _⟩ => by rw [e]; rfl) (fun _ _ _ _ _ _ us hl => match us, hl with | [_], _ => rfl) fun cdv A outer s H E hr ds r hR => ?_
  obtain ⟨cs, rfl, hz, rfl⟩ := hR
  have nd := sc_lcount.nd
  refine dss_cons (ds_set 1 nd de_int ?_)
  refine dss_cons (ds_for cs lN [2] (fun k => [lN k]) (passes_of rfl) (di_list (de_var 0)) (fun _ _ => dg_name 2 nd) (fun i ρ' => ∃ s, ρ' = [.val (lF lN cs), .val (nI (((cs.map List.length).take i).foldl (· * ·) 1)), s]) ⟨_, rfl⟩ ?_ ?_)
  · rintro i k ρ' hk ⟨s, rfl⟩
    have hkl := hz k (List.mem_of_getElem? hk)
    refine dss_one (ds_set 1 nd (de_mul (de_var 1) (de_lenL (ds := k.map nI) (de_var 2) T.nLen) (.inr ?_)) ⟨.val (lN k), ?_⟩)
    · rw [List.length_map]; omega
    · rw [foldl_snoc (cs.map List.length) i k.length (by rw [List.getElem?_map, hk]; rfl)]; simp [setD, nI, Int.natCast_mul]
  · rintro ρ' ⟨s, rfl⟩
    rw [show (cs.map List.length).take cs.length = cs.map List.length from List.take_of_length_le (by simp)]
    exact dss_one (ds_ret (de_var 1) rfl)
end
end DL
set_option maxHeartbeats 4000000
namespace DL
open PySem PySem.Spec PyProof.Rows L2
/-! ### choices, below, cyclic, cell -/
section
variable {P : Program} {w : World} {K : PySem.W.Frag} {mg : Str → Option Value} {base : Heap} {f CG CC CT C : Addr} {fd : FuncData} {k : Nat}
def R_lchoices (ds : List D) (r : Res) : Prop := ∃ (ser : List (List Nat)) (ins : List (List Int)), ds = [lF lN ser, lF tI ins] ∧ ins.length < 10000 ∧ (∀ s ∈ ins, s.length < 10000 ∧ wtN s < ser.length) ∧ r = .ok (lF lN (lchoN ser ins))
abbrev s_lchoices : Stmt := top 71
abbrev N_lchoices : List Str := ["_law_series", "_law_inputs_here", "_law_signs"]
theorem sc_lchoices : FnScope N_lchoices ["_law_series", "_law_inputs_here"] (defScope s_lchoices) := ⟨rfl, rfl, rfl, by decide +kernel, rfl, by decide +kernel, by decide +kernel⟩
theorem ok_lchoices (T : Txt K mg) (O2 : DefOk P w K mg base "_law_weight" k R_weight) (F : FnP K "_law_choices" s_lchoices f fd) (hm : mg "_law_choices" = some (.ref f)) : DefOk P w K mg base "_law_choices" (k + 1) R_lchoices := by
  refine def_ok F hm sc_lchoices (fun ds r ⟨_, _, e, _⟩ => by rw [e]; rfl) (fun _ _ _ _ _ _ us hl => match us, hl with | [_, _], _ => rfl) fun cdv A outer s H E hr ds r hR => ?_
  obtain ⟨ser, ins, rfl, hz, hs, rfl⟩ := hR
  have nd := sc_lchoices.nd
  have zl := sizeLine_eq
  refine dss_one (ds_ret (DE.is (de_of_do (do_cat (de_of_do (do_lstl (da_cons (de_of_do (do_lstl (da_cons de_int da_nil))) da_nil))) (de_of_do (do_lc0 (ins.drop 1) tI [2] (fun s => [tI s]) (fun s => lN (ser.getD (wtN s) [])) [("_law_signs", 2)] nd (blkOk_by (N := N_lchoices) (sc := defScope s_lchoices) (by decide +kernel)) (DI.is (di_list (de_of_do (do_slFrom (de_var 1) de_int))) ?_) ?_ ?_ ?_)) ?_)) ?_) rfl)
  · rw [cut_one, List.map_drop]
  · rw [List.length_drop]; omega
  · exact fun _ _ _ _ _ z _ => dg_name 2 nd
  · intro _ _ _ _ _ z hz'
    obtain ⟨h1, h2⟩ := hs z (List.mem_of_mem_drop hz')
    exact de_ixLf (f := lN) (xs := ser) (i := wtN z) (de_var 0) (DE.is (de_call O2 (hr.mono (by omega)) (da_cons (de_var 2) da_nil) ⟨z, rfl, h1, rfl⟩) rfl) (getD_some [] h2)
  · rw [List.length_map, List.length_drop]; show 1 + _ ≤ _; omega
  · show D.lst ([D.lst [D.int 0]] ++ _) = D.lst (List.map lN ([0] :: List.map _ _))
    rw [List.map_cons, List.map_map]; rfl
def R_lbelow (ds : List D) (r : Res) : Prop := ∃ (ins : List (List Int)) (L : Nat), ds = [lF tI ins] ∧ ins.length < 10000 ∧ L < 10000 ∧ (∀ s ∈ ins, s.length = L) ∧ r = .ok (lF lN ((List.range ins.length).map (underL ins)))
abbrev s_lbelow : Stmt := top 73
abbrev N_lbelow : List Str := ["_law_inputs_here", "_law_k", "_law_at"]
theorem sc_lbelow : FnScope N_lbelow ["_law_inputs_here"] (defScope s_lbelow) := ⟨rfl, rfl, rfl, by decide +kernel, rfl, by decide +kernel, by decide +kernel⟩
theorem ok_lbelow (T : Txt K mg) (O2 : DefOk P w K mg base "_law_under" k R_lunder) (F : FnP K "_law_below" s_lbelow f fd) (hm : mg "_law_below" = some (.ref f)) : DefOk P w K mg base "_law_below" (k + 1) R_lbelow := by
  refine def_ok F hm sc_lbelow (fun ds r ⟨_, _, e, _⟩ => by rw [e]; rfl) (fun _ _ _ _ _ _ us hl => match us, hl with | [_], _ => rfl) fun cdv A outer s H E hr ds r hR => ?_
  obtain ⟨ins, L, rfl, hz, hL, hs, rfl⟩ := hR
  have nd := sc_lbelow.nd
  have zl := sizeLine_eq
  have hin : ∀ {q}, q < ins.length → ins[q]? = some (ins.getD q []) := fun h => getD_some [] h
  refine dss_one (ds_ret (de_of_do (do_lc0 (List.range ins.length) nI [2] (fun a => [nI a]) (fun a => lN (underL ins a)) [("_law_at", 2), ("_law_k", 1)] nd (blkOk_by (N := N_lbelow) (sc := defScope s_lbelow) (by decide +kernel)) (DI.is (di_range1 (de_lenL (ds := ins.map tI) (de_var 0) T.nLen) T.nRange (by rw [List.length_map]; omega)) (by simp [nI])) ?_ ?_ ?_)) ?_)
  · rw [List.length_range]; omega
  · exact fun _ _ _ _ _ z _ => dg_name 2 nd
  · intro _ _ _ _ _ z hz'
    have hzl := List.mem_range.mp hz'
    refine DE.is (de_of_do (do_lc (List.range z) nI [1] (fun k => [nI k]) (fun k => underB (ins.getD k []) (ins.getD z [])) nI [("_law_k", 1)] nd ?_ (di_rng (de_var 2) T.nRange (by omega)) ?_ ?_ ?_ ?_)) rfl
    · exact blkOk_by (by kernel_rfl)
    · rw [List.length_range]; omega
    · exact fun _ _ _ _ _ y _ => dg_name 1 nd
    · intro _ _ _ _ _ y hy
      have hyl := List.mem_range.mp hy
      have e1 := hs _ (List.mem_of_getElem? (hin (show y < ins.length by omega)))
      have e2 := hs _ (List.mem_of_getElem? (hin hzl))
      exact dts_one (dt_of (de_call O2 (hr.mono (by omega)) (da_cons (de_ixLf (f := tI) (xs := ins) (de_var 0) (de_var 1) (hin (by omega))) (da_cons (de_ixLf (f := tI) (xs := ins) (de_var 0) (de_var 2) (hin hzl)) da_nil)) ⟨ins.getD y [], ins.getD z [], rfl, by omega, by omega, rfl⟩))
    · exact fun _ _ _ _ _ y _ _ => de_var 1
  · show Res.ok (D.lst (List.map lN (List.map _ _))) = _
    rw [List.map_map]; rfl
def cycM (n a b : Nat) : Nat := (a + b) % n
def R_lcyclic (ds : List D) (r : Res) : Prop := ∃ n : Nat, ds = [nI n] ∧ 0 < n ∧ n < 1000 ∧ r = .ok (lTab n (cycM n))
abbrev s_lcyclic : Stmt := top 77
abbrev N_lcyclic : List Str := ["_law_size", "_law_b", "_law_a"]
theorem sc_lcyclic : FnScope N_lcyclic ["_law_size"] (defScope s_lcyclic) := ⟨rfl, rfl, rfl, by decide +kernel, rfl, by decide +kernel, by decide +kernel⟩
theorem ok_lcyclic (T : Txt K mg) (F : FnP K "_law_cyclic" s_lcyclic f fd) (hm : mg "_law_cyclic" = some (.ref f)) : DefOk P w K mg base "_law_cyclic" (k + 1) R_lcyclic := by
  refine def_ok F hm sc_lcyclic (fun ds r ⟨_, e, _⟩ => by rw [e]; rfl) (fun _ _ _ _ _ _ us hl => match us, hl with | [_], _ => rfl) fun cdv A outer s H E hr ds r hR => ?_
  obtain ⟨n, rfl, h0, hn, rfl⟩ := hR
  have nd := sc_lcyclic.nd
  have zl := sizeLine_eq
  refine dss_one (ds_ret (de_of_do (do_lc0 (List.range n) nI [2] (fun a => [nI a]) (fun a => lN ((List.range n).map (cycM n a))) [("_law_a", 2), ("_law_b", 1)] nd (blkOk_by (N := N_lcyclic) (sc := defScope s_lcyclic) (by decide +kernel)) (di_rng (de_var 0) T.nRange (by omega)) ?_ ?_ ?_)) rfl)
  · rw [List.length_range]; omega
  · exact fun _ _ _ _ _ z _ => dg_name 2 nd
  · intro _ _ _ _ _ z _
    refine DE.is (de_of_do (do_lc0 (List.range n) nI [1] (fun k => [nI k]) (fun b => nI (cycM n z b)) [("_law_b", 1)] nd ?_ (di_rng (de_var 0) T.nRange (by omega)) ?_ ?_ ?_)) (by show _ = D.lst (List.map nI (List.map _ _)); rw [List.map_map]; rfl)
    · exact blkOk_by (by kernel_rfl)
    · rw [List.length_range]; omega
    · exact fun _ _ _ _ _ y _ => dg_name 1 nd
    · exact fun _ _ _ _ _ y _ => DE.is (de_mod (de_intc (da_cons (de_add (de_var 2) (de_var 1)) da_nil) T.nInt) (de_var 0) (by omega)) (by simp [nI, cycM])
end
end DL
set_option maxHeartbeats 4000000
namespace DL
open PySem PySem.Spec PyProof.Rows L2
/-! ### members_at -/
def stepD (p : List Nat × Nat) (row : List Nat) : List Nat × Nat := (p.1 ++ [row.getD (p.2 % row.length) 0], p.2 / row.length)
def membN (cs : List (List Nat)) (num : Nat) : List Nat := ((cs.reverse.foldl stepD ([], num)).1).reverse
theorem stepD_len : ∀ (cs : List (List Nat)) (p : List Nat × Nat), (cs.foldl stepD p).1.length = p.1.length + cs.length
  | [], _ => rfl
  | c :: cs, p => by
    rw [List.foldl_cons, stepD_len cs]
    simp [stepD]
    omega
section
variable {P : Program} {w : World} {K : PySem.W.Frag} {mg : Str → Option Value} {base : Heap} {f CG CC CT C : Addr} {fd : FuncData} {k : Nat}
def R_lmembers_at (ds : List D) (r : Res) : Prop := ∃ (cs : List (List Nat)) (num : Nat), ds = [lF lN cs, nI num] ∧ cs.length < 10000 ∧ (∀ c ∈ cs, 0 < c.length ∧ c.length < 10000) ∧ r = .ok (lN (membN cs num))
abbrev s_lmembers_at : Stmt := top 74
abbrev N_lmembers_at : List Str := ["_law_choices_here", "_law_number", "_law_turned", "_law_rest", "_law_k", "_law_row"]
theorem sc_lmembers_at : FnScope N_lmembers_at ["_law_choices_here", "_law_number"] (defScope s_lmembers_at) := ⟨rfl, rfl, rfl, by decide +kernel, rfl, by decide +kernel, by decide +kernel⟩
theorem ok_lmembers_at (T : Txt K mg) (F : FnP K "_law_members_at" s_lmembers_at f fd) (hm : mg "_law_members_at" = some (.ref f)) : DefOk P w K mg base "_law_members_at" (k + 1) R_lmembers_at := by
  refine def_ok F hm sc_lmembers_at (fun ds r ⟨_, _, e, _⟩ => by rw [e]; rfl) (fun _ _ _ _ _ _ us hl => match us, hl with | [_, _], _ => rfl) fun cdv A outer s H E hr ds r hR => ?_
  obtain ⟨cs, num, rfl, hz, hc, rfl⟩ := hR
  have nd := sc_lmembers_at.nd
  have zl := sizeLine_eq
  refine dss_cons (ds_setO 2 nd (do_lstl da_nil) ?_)
  refine dss_cons (ds_set 3 nd (de_var 1) ?_)
  refine dss_cons (ds_for (List.range cs.length) nI [4] (fun k => [nI k]) (passes_of rfl) (DI.is (di_range1 (de_lenL (ds := cs.map lN) (de_var 0) T.nLen) T.nRange (by rw [List.length_map]; omega)) (by simp [nI])) (fun _ _ => dg_name 4 nd) (fun i ρ' => ∃ s1 s2, ρ' = [.val (lF lN cs), .val (nI num), .own (((cs.reverse.take i).foldl stepD ([], num)).1.map nI), .val (nI ((cs.reverse.take i).foldl stepD ([], num)).2), s1, s2]) ⟨_, _, rfl⟩ ?_ ?_)
  · rintro i x ρ' hx ⟨s1, s2, rfl⟩
    obtain ⟨hi1, hi2⟩ := List.getElem?_eq_some_iff.mp hx
    have ex : x = i := by simpa using hi2.symm
    subst ex
    have hxl : x < cs.length := by simpa using hi1
    have hrow : cs[cs.length - 1 - x]? = some (cs.getD (cs.length - 1 - x) []) := getD_some [] (by omega)
    have hrev : cs.reverse[x]? = some (cs.getD (cs.length - 1 - x) []) := by rw [List.getElem?_reverse hxl]; exact hrow
    obtain ⟨c1, c2⟩ := hc _ (List.mem_of_getElem? hrow)
    have hstep : (cs.reverse.take (x + 1)).foldl stepD ([], num) = stepD ((cs.reverse.take x).foldl stepD ([], num)) (cs.getD (cs.length - 1 - x) []) := by
      rw [List.take_add_one, hrev, List.foldl_append]; rfl
    have hlen := stepD_len (cs.reverse.take x) ([], num)
    rw [List.length_take, List.length_reverse] at hlen
    generalize hp : (cs.reverse.take x).foldl stepD ([], num) = p at *
    generalize hrw : cs.getD (cs.length - 1 - x) [] = row at *
    refine dss_cons (ds_set 5 nd (d := lN row) (de_ixLf (f := lN) (xs := cs) (i := cs.length - 1 - x) (de_var 0) (DE.is (de_sub (de_sub (de_lenL (ds := cs.map lN) (de_var 0) T.nLen) de_int) (de_var 4)) ?_) hrow) ?_)
    · rw [List.length_map]
      show D.int _ = D.int _
      refine congrArg D.int ?_
      omega
    have hmod : p.2 % row.length < row.length := Nat.mod_lt _ c1
    refine dss_cons (ds_append (ds := p.1.map nI) 2 (de_ixLf (f := nI) (xs := row) (i := p.2 % row.length) (de_var 5) (DE.is (de_mod (de_intc (da_cons (de_var 3) da_nil) T.nInt) (de_lenL (ds := row.map nI) (de_var 5) T.nLen) (by rw [List.length_map]; omega)) (by rw [List.length_map]; rfl)) (getD_some 0 hmod)) (by rw [List.length_map]; simp at hlen; omega) ?_)
    refine dss_one (ds_set 3 nd (d := nI (p.2 / row.length)) (DE.is (de_fdiv (de_var 3) (de_lenL (ds := row.map nI) (de_var 5) T.nLen) (by rw [List.length_map]; omega)) (by rw [List.length_map]; rfl)) ⟨.val (nI x), .val (lN row), ?_⟩)
    rw [hstep]
    unfold stepD
    rw [List.map_append]; rfl
  · rintro ρ' ⟨s1, s2, rfl⟩
    rw [show cs.reverse.take (List.range cs.length).length = cs.reverse from List.take_of_length_le (by simp)]
    have hlen := stepD_len cs.reverse ([], num)
    rw [List.length_reverse] at hlen
    have hlen' : (cs.reverse.foldl stepD ([], num)).1.length = cs.length := by simpa using hlen
    show DSs _ _ [_, _, .own ((cs.reverse.foldl stepD ([], num)).1.map nI), .val (nI (cs.reverse.foldl stepD ([], num)).2), _, _] _
    have hm' : membN cs num = (cs.reverse.foldl stepD ([], num)).1.reverse := rfl
    rw [hm']
    generalize (cs.reverse.foldl stepD ([], num)) = p at *
    refine dss_freeze 2 ?_
    refine dss_one (ds_ret (de_of_do (do_lc0 (List.range p.1.length) nI [4] (fun k => [nI k]) (fun k => nI (p.1.getD (p.1.length - 1 - k) 0)) [("_law_k", 4)] nd (blkOk_by (N := N_lmembers_at) (sc := defScope s_lmembers_at) (by decide +kernel)) (DI.is (di_range1 (de_lenL (ds := p.1.map nI) (de_var 2) T.nLen) T.nRange (by rw [List.length_map]; omega)) (by simp [nI])) ?_ ?_ ?_)) ?_)
    · rw [List.length_range]; omega
    · exact fun _ _ _ _ _ z _ => dg_name 4 nd
    · intro _ _ _ _ _ z hz'
      have hzl := List.mem_range.mp hz'
      refine de_ixLf (f := nI) (xs := p.1) (i := p.1.length - 1 - z) (de_var 2) (DE.is (de_sub (de_sub (de_lenL (ds := p.1.map nI) (de_var 2) T.nLen) de_int) (de_var 4)) ?_) (getD_some 0 (by omega))
      rw [List.length_map]
      show D.int _ = D.int _
      refine congrArg D.int ?_
      omega
    · show Res.ok (D.lst (List.map nI _)) = Res.ok (D.lst _)
      refine congrArg (fun z => Res.ok (D.lst z)) ?_
      apply List.ext_getElem?
      intro i
      rw [List.getElem?_map, List.getElem?_map]
      by_cases hi : i < p.1.length
      · rw [List.getElem?_reverse hi, List.getElem?_range hi, getD_some (xs := p.1) (i := p.1.length - 1 - i) 0 (by omega)]; rfl
      · rw [List.getElem?_eq_none (by rw [List.length_reverse]; omega), List.getElem?_eq_none (by rw [List.length_range]; omega)]; rfl
end
end DL
set_option maxHeartbeats 4000000
namespace DL
open PySem PySem.Spec PyProof.Rows L2
/-! ### entries_at -/
def entN (m : Nat → Nat → Nat) (ins : List (List Int)) (ms : List Nat) : List Nat := (List.range ms.length).map fun a => m (belowU m ins ms a) (ms.getD a 0)
theorem membN_ok {n : Nat} {cs : List (List Nat)} (hc : ∀ c ∈ cs, 0 < c.length) (hn : ∀ c ∈ cs, ∀ x ∈ c, x < n) (num : Nat) : (membN cs num).length = cs.length ∧ ∀ x ∈ membN cs num, x < n := by
  have key : ∀ (l : List (List Nat)) (p : List Nat × Nat), (∀ c ∈ l, 0 < c.length ∧ ∀ x ∈ c, x < n) → (∀ x ∈ p.1, x < n) → ∀ x ∈ (l.foldl stepD p).1, x < n := by
    intro l
    induction l with
    | nil => exact fun _ _ h => h
    | cons c l ih =>
      intro p hl hp
      refine ih _ (fun z hz => hl z (List.mem_cons_of_mem _ hz)) fun x hx => ?_
      unfold stepD at hx
      obtain ⟨h0, h1⟩ := hl c List.mem_cons_self
      rcases List.mem_append.mp hx with z | z
      · exact hp x z
      · rw [List.mem_singleton.mp z]
        exact h1 _ (List.mem_of_getElem? (getD_some 0 (Nat.mod_lt _ h0)))
  unfold membN
  refine ⟨?_, fun x hx => key cs.reverse ([], num) (fun c hc' => ⟨hc c (List.mem_reverse.mp hc'), hn c (List.mem_reverse.mp hc')⟩) (fun _ h => nomatch h) x (List.mem_reverse.mp hx)⟩
  rw [List.length_reverse, stepD_len, List.length_reverse]; simp
section
variable {P : Program} {w : World} {K : PySem.W.Frag} {mg : Str → Option Value} {base : Heap} {f CG CC CT C : Addr} {fd : FuncData} {k : Nat}
def R_lentries_at (ds : List D) (r : Res) : Prop := ∃ (n : Nat) (m : Nat → Nat → Nat) (cs : List (List Nat)) (ins : List (List Int)) (num : Nat), ds = [lTab n m, lF lN cs, lF lN ((List.range ins.length).map (underL ins)), nI num] ∧ Grp n m ∧ cs.length = ins.length ∧ cs.length < 10000 ∧ (∀ c ∈ cs, 0 < c.length ∧ c.length < 10000) ∧ (∀ c ∈ cs, ∀ x ∈ c, x < n) ∧ r = .ok (lN (entN m ins (membN cs num)))
abbrev s_lentries_at : Stmt := top 75
abbrev N_lentries_at : List Str := ["_law_table_here", "_law_choices_here", "_law_below_here", "_law_number", "_law_members", "_law_entries", "_law_at", "_law_made", "_law_k"]
theorem sc_lentries_at : FnScope N_lentries_at ["_law_table_here", "_law_choices_here", "_law_below_here", "_law_number"] (defScope s_lentries_at) := ⟨rfl, rfl, rfl, by decide +kernel, rfl, by decide +kernel, by decide +kernel⟩
theorem ok_lentries_at (T : Txt K mg) (O : DefOk P w K mg base "_law_members_at" k R_lmembers_at) (F : FnP K "_law_entries_at" s_lentries_at f fd) (hm : mg "_law_entries_at" = some (.ref f)) : DefOk P w K mg base "_law_entries_at" (k + 1) R_lentries_at := by
  refine def_ok F hm sc_lentries_at (fun ds r ⟨_, _, _, _, _, e, _⟩ => by rw [e]; rfl) (fun _ _ _ _ _ _ us hl => match us, hl with | [_, _, _, _], _ => rfl) fun cdv A outer s H E hr ds r hR => ?_
  obtain ⟨n, m, cs, ins, num, rfl, g, hl, hz, hc, hcn, rfl⟩ := hR
  have nd := sc_lentries_at.nd
  have zl := sizeLine_eq
  obtain ⟨ml, mn⟩ := membN_ok (fun c h => (hc c h).1) hcn num
  refine dss_cons (ds_set 4 nd (d := lN (membN cs num)) (de_call O hr (da_cons (de_var 1) (da_cons (de_var 3) da_nil)) ⟨cs, num, rfl, hz, hc, rfl⟩) ?_)
  generalize membN cs num = ms at *
  refine dss_cons (ds_setO 5 nd (do_lstl da_nil) ?_)
  refine dss_cons (ds_for (List.range ms.length) nI [6] (fun k => [nI k]) (passes_of rfl) (DI.is (di_range1 (de_lenL (ds := ms.map nI) (de_var 4) T.nLen) T.nRange (by rw [List.length_map]; omega)) (by simp [nI])) (fun _ _ => dg_name 6 nd) (fun i ρ' => ∃ s1 s2 s3, ρ' = [.val (lTab n m), .val (lF lN cs), .val (lF lN ((List.range ins.length).map (underL ins))), .val (nI num), .val (lN ms), .own ((((List.range ms.length).take i).map fun a => m (belowU m ins ms a) (ms.getD a 0)).map nI), s1, s2, s3]) ⟨_, _, _, rfl⟩ ?_ ?_)
  · rintro i x ρ' hx ⟨s1, s2, s3, rfl⟩
    have hxl : x < ms.length := List.mem_range.mp (List.mem_of_getElem? hx)
    have hat : ((List.range ins.length).map (underL ins))[x]? = some (underL ins x) := by
      rw [List.getElem?_map, List.getElem?_range (by omega)]; rfl
    have hbl := belowU_lt (b := (ms, [])) g mn
    have hmx : ms[x]? = some (ms.getD x 0) := getD_some 0 hxl
    have hmxn := mn _ (List.mem_of_getElem? hmx)
    refine dss_cons (ds_set 7 nd de_int ?_)
    refine dss_cons (ds_for (underL ins x) nI [8] (fun k => [nI k]) (passes_of rfl) (di_list (de_ixLf (f := lN) (xs := (List.range ins.length).map (underL ins)) (de_var 2) (de_var 6) hat)) (fun _ _ => dg_name 8 nd) (fun j ρ' => ∃ s3, ρ' = [.val (lTab n m), .val (lF lN cs), .val (lF lN ((List.range ins.length).map (underL ins))), .val (nI num), .val (lN ms), .own ((((List.range ms.length).take i).map fun a => m (belowU m ins ms a) (ms.getD a 0)).map nI), .val (nI x), .val (nI (((underL ins x).take j).foldl (fun p k => m p (ms.getD k 0)) 0)), s3]) ⟨_, rfl⟩ ?_ ?_)
    · rintro j y ρ' hy ⟨s3, rfl⟩
      have hya : y < x := List.mem_range.mp (List.mem_filter.mp (List.mem_of_getElem? hy)).1
      have hy1 : ms[y]? = some (ms.getD y 0) := getD_some 0 (by omega)
      refine dss_one (ds_set 7 nd (de_tab (m := m) (de_var 0) (de_var 7) (de_ixLf (f := nI) (xs := ms) (de_var 4) (de_var 8) hy1) (hbl _ 0 g.pos) (mn _ (List.mem_of_getElem? hy1))) ⟨.val (nI y), ?_⟩)
      rw [List.take_add_one, hy, List.foldl_append]; rfl
    · rintro ρ' ⟨s3, rfl⟩
      rw [List.take_length]
      refine dss_one (ds_append (ds := (((List.range ms.length).take i).map fun a => m (belowU m ins ms a) (ms.getD a 0)).map nI) 5 (de_tab (m := m) (de_var 0) (de_var 7) (de_ixLf (f := nI) (xs := ms) (de_var 4) (de_var 6) hmx) (hbl _ 0 g.pos) hmxn) (by rw [List.length_map, List.length_map]; have := List.length_take_le i (List.range ms.length); have := List.length_take_le' i (List.range ms.length); rw [List.length_range] at this; omega) ⟨.val (nI x), .val (nI (belowU m ins ms x)), s3, ?_⟩)
      rw [List.take_add_one, hx, List.map_append, List.map_append]; rfl
  · rintro ρ' ⟨s1, s2, s3, rfl⟩
    rw [List.take_length]
    exact dss_one (ds_retO (ds := (entN m ins ms).map nI) 5 rfl)
end
end DL
set_option maxHeartbeats 4000000
namespace DL
open PySem PySem.Spec PyProof.Rows L2
/-! ### no_clash -/
def noCl (tb : List Int) (es : List Nat) : Bool := (List.range es.length).all fun i => clear tb es i (es.getD i 0)
/-- the labels seen ahead of i -/
structure Seen (tb : List Int) (es : List Nat) (i : Nat) (lab : List Int) : Prop where
  len : lab.length = 61
  ok : ∀ j, j < i → clear tb es j (es.getD j 0) = true
  at_ : ∀ x, x < 61 → (lab.getD x 0 = -1 ∧ ∀ k, k < i → es.getD k 0 ≠ x) ∨ ((∃ k, k < i ∧ es.getD k 0 = x ∧ lab.getD x 0 = tb.getD k 0) ∧ ∀ k, k < i → es.getD k 0 = x → tb.getD k 0 = lab.getD x 0)
theorem clear_iff {tb : List Int} {es : List Nat} {i e : Nat} : clear tb es i e = true ↔ ∀ k, k < i → es.getD k 0 = e → tb.getD k 0 = tb.getD i 0 := by
  unfold clear
  rw [List.all_eq_true]
  constructor
  · intro h k hk he
    have := h k (List.mem_range.mpr hk)
    rw [decide_eq_true he, Bool.not_true, Bool.false_or] at this
    exact of_decide_eq_true this
  · intro h k hk
    have hk' := List.mem_range.mp hk
    by_cases he : es.getD k 0 = e
    · rw [decide_eq_true (h k hk' he), Bool.or_true]
    · rw [decide_eq_false he]; rfl
theorem Seen.next {tb : List Int} {es : List Nat} {i : Nat} {lab : List Int} (s : Seen tb es i lab) (hx : es.getD i 0 < 61) (h01 : ∀ k, k ≤ i → tb.getD k 0 = 0 ∨ tb.getD k 0 = 1) :
    (lab.getD (es.getD i 0) 0 = 1 - tb.getD i 0 → clear tb es i (es.getD i 0) = false) ∧ (lab.getD (es.getD i 0) 0 ≠ 1 - tb.getD i 0 → Seen tb es (i + 1) (lab.set (es.getD i 0) (tb.getD i 0))) := by
  have hi := h01 i (Nat.le_refl _)
  constructor
  · intro h
    rcases s.at_ _ hx with ⟨h1, _⟩ | ⟨⟨k, hk, he, hl⟩, _⟩
    · omega
    · cases q : clear tb es i (es.getD i 0) with
      | false => rfl
      | true =>
        have := clear_iff.mp q k hk he
        omega
  · intro h
    have hc : clear tb es i (es.getD i 0) = true := clear_iff.mpr fun k hk he => by
      rcases s.at_ _ hx with ⟨_, h2⟩ | ⟨_, h2⟩
      · exact absurd he (h2 k hk)
      · have h3 := h2 k hk he
        have h4 := h01 k (Nat.le_of_lt hk)
        omega
    refine ⟨by rw [List.length_set]; exact s.len, fun j hj => ?_, fun x hx' => ?_⟩
    · by_cases e : j = i
      · subst e; exact hc
      · exact s.ok j (by omega)
    · by_cases e : es.getD i 0 = x
      · subst e
        have hset : (lab.set (es.getD i 0) (tb.getD i 0)).getD (es.getD i 0) 0 = tb.getD i 0 := by
          rw [List.getD_eq_getElem?_getD, List.getElem?_set_self (by rw [s.len]; exact hx')]; rfl
        refine .inr ⟨⟨i, Nat.lt_succ_self _, rfl, hset⟩, fun k hk he => ?_⟩
        rw [hset]
        by_cases ek : k = i
        · rw [ek]
        · exact clear_iff.mp hc k (by omega) he
      · have hset : (lab.set (es.getD i 0) (tb.getD i 0)).getD x 0 = lab.getD x 0 := by
          rw [List.getD_eq_getElem?_getD, List.getElem?_set_ne e, ← List.getD_eq_getElem?_getD]
        rw [hset]
        rcases s.at_ x hx' with ⟨h1, h2⟩ | ⟨⟨k, hk, he, hl⟩, h2⟩
        · refine .inl ⟨h1, fun k hk => ?_⟩
          by_cases ek : k = i
          · rw [ek]; exact e
          · exact h2 k (by omega)
        · refine .inr ⟨⟨k, by omega, he, hl⟩, fun k' hk' he' => ?_⟩
          by_cases ek : k' = i
          · rw [ek] at he'; exact absurd he' e
          · exact h2 k' (by omega) he'
end DL
set_option maxHeartbeats 4000000
namespace DL
open PySem PySem.Spec PyProof.Rows L2
section
variable {P : Program} {w : World} {K : PySem.W.Frag} {mg : Str → Option Value} {base : Heap} {f CG CC CT C : Addr} {fd : FuncData} {k : Nat}
def R_lno_clash (ds : List D) (r : Res) : Prop := ∃ (es : List Nat) (tb : List Int), ds = [tN es, tI tb] ∧ es.length = tb.length ∧ es.length < 10000 ∧ (∀ x ∈ es, x < 61) ∧ (∀ l ∈ tb, l = 0 ∨ l = 1) ∧ r = .ok (.bl (noCl tb es))
abbrev s_lno_clash : Stmt := top 76
abbrev N_lno_clash : List Str := ["_law_entries", "_law_labels_here", "_law_label", "_law_k"]
theorem sc_lno_clash : FnScope N_lno_clash ["_law_entries", "_law_labels_here"] (defScope s_lno_clash) := ⟨rfl, rfl, rfl, by decide +kernel, rfl, by decide +kernel, by decide +kernel⟩
theorem ok_lno_clash (T : Txt K mg) (F : FnP K "_law_no_clash" s_lno_clash f fd) (hm : mg "_law_no_clash" = some (.ref f)) : DefOk P w K mg base "_law_no_clash" (k + 1) R_lno_clash := by
  refine def_ok F hm sc_lno_clash (fun ds r ⟨_, _, e, _⟩ => by rw [e]; rfl) (fun _ _ _ _ _ _ us hl => match us, hl with | [_, _], _ => rfl) fun cdv A outer s H E hr ds r hR => ?_
  obtain ⟨es, tb, rfl, hl, hz, he, ht, rfl⟩ := hR
  have nd := sc_lno_clash.nd
  have zl := sizeLine_eq
  refine dss_cons (ds_setLc 2 (List.range 61) nI [3] (fun a => [nI a]) (fun _ => true) (fun _ => .int (-1)) [("_law_k", 3)] nd (blkOk_by (N := N_lno_clash) (sc := defScope s_lno_clash) (by decide +kernel)) (di_rng de_int T.nRange (by omega)) ?_ ?_ (fun _ _ _ _ _ _ _ => dts_nil) ?_ ?_)
  · rw [List.length_range]; omega
  · exact fun _ _ _ _ _ z _ => dg_name 3 nd
  · exact fun _ _ _ _ _ z _ _ => de_neg de_int
  have e0 : ((List.range 61).filter fun _ => true).map (fun _ => D.int (-1)) = (List.replicate 61 (-1 : Int)).map D.int := by
    rw [List.filter_eq_self.mpr fun _ _ => rfl]; rfl
  rw [e0]
  refine dss_cons (ds_for (List.range es.length) nI [3] (fun k => [nI k]) (passes_of rfl) (DI.is (di_range1 (de_lenT (ds := es.map nI) (de_var 0) T.nLen) T.nRange (by rw [List.length_map]; omega)) (by simp [nI])) (fun _ _ => dg_name 3 nd) (fun i ρ' => ∃ lab s1, Seen tb es i lab ∧ ρ' = [.val (tN es), .val (tI tb), .own (lab.map .int), s1]) ⟨List.replicate 61 (-1), _, ?_, rfl⟩ ?_ ?_)
  · refine ⟨by simp, fun j hj => by omega, fun x hx => .inl ⟨?_, fun k hk => by omega⟩⟩
    rw [List.getD_eq_getElem?_getD, List.getElem?_replicate, if_pos hx]; rfl
  · rintro i x ρ' hx ⟨lab, s1, sn, rfl⟩
    obtain ⟨hi1, hi2⟩ := List.getElem?_eq_some_iff.mp hx
    have ex : x = i := by simpa using hi2.symm
    subst ex
    have hxl : x < es.length := by simpa using hi1
    have h1 : es[x]? = some (es.getD x 0) := getD_some 0 hxl
    have h2 : tb[x]? = some (tb.getD x 0) := getD_some 0 (by omega)
    have he1 := he _ (List.mem_of_getElem? h1)
    have h3 : lab[es.getD x 0]? = some (lab.getD (es.getD x 0) 0) := getD_some 0 (by rw [sn.len]; exact he1)
    obtain ⟨n1, n2⟩ := sn.next he1 (fun k hk => ht _ (List.mem_of_getElem? (getD_some 0 (by omega))))
    refine dss_cons (ds_if (k := decide (lab.getD (es.getD x 0) 0 = 1 - tb.getD x 0)) (dt_cmp op_eq rd_eqI (de_ixO (ds := lab.map .int) 2 (de_ixTf (f := nI) (xs := es) (de_var 0) (de_var 3) h1) (atI_nat (by rw [List.getElem?_map, h3]; rfl))) (de_sub de_int (de_ixTf (f := D.int) (xs := tb) (i := x) (de_var 1) (de_var 3) h2)) (nomark _)) (fun hk => ?_) fun hk => ?_)
    · have hf : noCl tb es = false := by
        cases q : noCl tb es with
        | false => rfl
        | true =>
          unfold noCl at q
          have := List.all_eq_true.mp q x (List.mem_range.mpr hxl)
          rw [n1 (of_decide_eq_true hk)] at this
          cases this
      exact dss_one (ds_ret de_bl (by rw [hf]))
    · refine dss_nil (dss_one (ds_setI (ds := lab.map .int) 2 (j := es.getD x 0) (de_ixTf (f := D.int) (xs := tb) (i := x) (de_var 1) (de_var 3) h2) (de_ixTf (f := nI) (xs := es) (de_var 0) (de_var 3) h1) ?_ ⟨_, .val (nI x), n2 (of_decide_eq_false hk), ?_⟩))
      · unfold ixN
        rw [if_pos (by omega), if_pos (by rw [List.length_map, sn.len]; omega)]
        simp
      · show [_, _, Sl.own ((lab.map D.int).set _ _), _] = _
        rw [← List.map_set]
  · rintro ρ' ⟨lab, s1, sn, rfl⟩
    rw [List.length_range] at sn
    refine dss_one (ds_ret de_bl ?_)
    have : noCl tb es = true := by
      unfold noCl
      exact List.all_eq_true.mpr fun i hi => sn.ok i (List.mem_range.mp hi)
    rw [this]
end
end DL
set_option maxHeartbeats 4000000
namespace DL
open PySem PySem.Spec PyProof.Rows L2
/-! ### levels may be raised -/
section
variable {P : Program} {w : World} {K : PySem.W.Frag} {mg : Str → Option Value} {base : Heap} {x : Str} {C : Addr} {k k' : Nat}
theorem DefOk.up {R : List D → Res → Prop} (F : DefOk P w K mg base x k R) (h : k ≤ k') : DefOk P w K mg base x k' R := by
  obtain ⟨f, fd, ps, a, b⟩ := F
  exact ⟨f, fd, ps, a.mono h, b⟩
theorem MethOk.up {m : Str} {R : List D → Res → Prop} (F : MethOk P w K mg base C m k R) (h : k ≤ k') : MethOk P w K mg base C m k' R := by
  obtain ⟨f, fd, ps, a, b⟩ := F
  exact ⟨f, fd, ps, a.mono h, b⟩
theorem MakeOk.up {R : List D → List (Str × D) → Prop} (F : MakeOk P w K mg base x C k R) (h : k ≤ k') : MakeOk P w K mg base x C k' R := by
  obtain ⟨f, fd, ps, a, b⟩ := F
  exact ⟨f, fd, ps, a.mono h, b⟩
end
end DL
set_option maxHeartbeats 4000000
namespace DL
open PySem PySem.Spec PyProof.Rows L2
/-! ### least -/
section
variable {P : Program} {w : World} {K : PySem.W.Frag} {mg : Str → Option Value} {base : Heap} {f CG CC CT C : Addr} {fd : FuncData} {k : Nat}
/-- an answer: a row of entries or none -/
def ansD : Option (List Nat) → D
  | none => .non
  | some es => tN es
def lleast (low : List Nat) (tb : List Int) (due : List (Nat × List Nat)) : Option (List Nat) :=
  if 1 < low.length then some (tb.map fun l => if l = 1 then low.getD 1 0 else 0) else due.head?.map (·.2)
/-- a cell of the script -/
def cellN (ns : List Int) (i : Nat) : Nat := (ns.getD i 0).natAbs
def R_lcell (ds : List D) (r : Res) : Prop := ∃ (ns : List Int) (i : Nat), ds = [.scr ns, nI i] ∧ r = .ok (nI (cellN ns i))
abbrev s_lcell : Stmt := top 56
abbrev N_lcell : List Str := ["_law_script", "_law_k"]
theorem sc_lcell : FnScope N_lcell ["_law_script", "_law_k"] (defScope s_lcell) := ⟨rfl, rfl, rfl, by decide +kernel, rfl, by decide +kernel, by decide +kernel⟩
theorem ok_lcell (T : Txt K mg) (F : FnP K "_law_cell" s_lcell f fd) (hm : mg "_law_cell" = some (.ref f)) : DefOk P w K mg base "_law_cell" (k + 1) R_lcell := by
  refine def_ok F hm sc_lcell (fun ds r ⟨_, _, e, _⟩ => by rw [e]; rfl) (fun _ _ _ _ _ _ us hl => match us, hl with | [_, _], _ => rfl) fun cdv A outer s H E hr ds r hR => ?_
  obtain ⟨ns, i, rfl, rfl⟩ := hR
  refine dss_cons (ds_if (k := decide (i < ns.length)) (DT.is (dt_cmp op_lt rd_lt (de_var 1) (de_lenS (de_var 0) T.nLen) (nomark _)) (dec_lt _ _)) (fun hk => ?_) fun hk => ?_)
  · have h := of_decide_eq_true hk
    refine dss_one (ds_ret (d := nI (cellN ns i)) (DE.is (de_abs (i := ns.getD i 0) (da_cons (de_ixS (ns := ns) (i := (i : Nat)) (n := ns.getD i 0) (de_var 0) (de_var 1) (atI_nat (getD_some 0 h))) da_nil) T.nAbs) ?_) rfl)
    unfold cellN
    show D.int _ = D.int _
    refine congrArg D.int ?_
    omega
  · have h := of_decide_eq_false hk
    refine dss_nil (dss_one (ds_ret de_int ?_))
    unfold cellN
    rw [List.getD_eq_getElem?_getD, List.getElem?_eq_none (by omega)]; rfl
end
end DL
set_option maxHeartbeats 4000000
namespace DL
open PySem PySem.Spec PyProof.Rows L2
section
variable {P : Program} {w : World} {K : PySem.W.Frag} {mg : Str → Option Value} {base : Heap} {f CG CC CT C : Addr} {fd : FuncData} {k : Nat}
abbrev dueD (q : Nat × List Nat) : D := .tup [nI q.1, tN q.2]
def R_lleast (ds : List D) (r : Res) : Prop := ∃ (pre : List (List Nat)) (low : List Nat) (tb : List Int) (due : List (Nat × List Nat)), ds = [lF lN (pre ++ [low]), tI tb, lF dueD due] ∧ tb.length < 10000 ∧ r = .ok (ansD (lleast low tb due))
abbrev s_lleast : Stmt := top 80
abbrev N_lleast : List Str := ["_law_series", "_law_labels_here", "_law_due", "_law_label"]
theorem sc_lleast : FnScope N_lleast ["_law_series", "_law_labels_here", "_law_due"] (defScope s_lleast) := ⟨rfl, rfl, rfl, by decide +kernel, rfl, by decide +kernel, by decide +kernel⟩
theorem ok_lleast (T : Txt K mg) (F : FnP K "_law_least" s_lleast f fd) (hm : mg "_law_least" = some (.ref f)) : DefOk P w K mg base "_law_least" (k + 1) R_lleast := by
  refine def_ok F hm sc_lleast (fun ds r ⟨_, _, _, _, e, _⟩ => by rw [e]; rfl) (fun _ _ _ _ _ _ us hl => match us, hl with | [_, _, _], _ => rfl) fun cdv A outer s H E hr ds r hR => ?_
  obtain ⟨pre, low, tb, due, rfl, hz, rfl⟩ := hR
  have nd := sc_lleast.nd
  have zl := sizeLine_eq
  have hl : atI ((pre ++ [low]).map lN) (-1) = some (lN low) := by rw [List.map_append]; exact atI_last _ _
  refine dss_cons (ds_if (k := decide (1 < low.length)) (DT.is (dt_cmp op_gt rd_gt (de_lenL (ds := low.map nI) (de_ixL (ds := (pre ++ [low]).map lN) (i := (-1)) (d := lN low) (de_var 0) (de_neg de_int) hl) T.nLen) de_int (nomark _)) (by rw [List.length_map]; exact decide_eq_decide.mpr (by omega))) (fun hk => ?_) fun hk => ?_)
  · have h := of_decide_eq_true hk
    have h1 : low[1]? = some (low.getD 1 0) := getD_some 0 h
    refine dss_one (ds_ret (de_tupL (da_cons (de_of_do (do_lc0 tb D.int [3] (fun l => [.int l]) (fun l => nI (if l = 1 then low.getD 1 0 else 0)) [("_law_label", 3)] nd (blkOk_by (N := N_lleast) (sc := defScope s_lleast) (by decide +kernel)) (di_tup (de_var 1)) ?_ ?_ ?_)) da_nil) T.nTuple) ?_)
    · omega
    · exact fun _ _ _ _ _ z _ => dg_name 3 nd
    · intro _ _ _ _ _ z _
      refine de_if (k := decide (z = 1)) (dt_cmp op_eq rd_eqI (de_var 3) de_int (nomark _)) (fun h => DE.is (de_ixLf (f := nI) (xs := low) (i := 1) (de_ixL (ds := (pre ++ [low]).map lN) (i := (-1)) (d := lN low) (de_var 0) (de_neg de_int) hl) de_int h1) (by rw [if_pos (of_decide_eq_true h)])) fun h => DE.is de_int (by rw [if_neg (of_decide_eq_false h)]; rfl)
    · unfold lleast
      rw [if_pos h]
      show Res.ok (D.tup (List.map nI (List.map _ _))) = _
      rw [List.map_map]; rfl
  · have h := of_decide_eq_false hk
    unfold lleast
    rw [if_neg h]
    cases due with
    | nil => exact dss_nil (dss_cons (ds_if (k := true) (dt_cmp op_eq rd_eqI (de_lenL (ds := []) (de_var 2) T.nLen) de_int (nomark _)) (fun _ => dss_one (ds_ret de_non rfl)) fun z => nomatch z))
    | cons q due =>
      refine dss_nil (dss_cons (ds_if (k := false) (DT.is (dt_cmp op_eq rd_eqI (de_lenL (ds := (q :: due).map dueD) (de_var 2) T.nLen) de_int (nomark _)) (by simp; omega)) (fun z => nomatch z) fun _ => dss_nil ?_))
      exact dss_one (ds_ret (de_ixT (ds := [nI q.1, tN q.2]) (i := 1) (d := tN q.2) (de_ixL (ds := (q :: due).map dueD) (i := 0) (d := dueD q) (de_var 2) de_int (atI_nat (j := 0) (xs := (q :: due).map dueD) rfl)) de_int rfl) rfl)
end
end DL
set_option maxHeartbeats 4000000
namespace DL
open PySem PySem.Spec PyProof.Rows L2
/-! ### labels -/
def labN (nums : List Nat) (cnt : Nat) : List Nat :=
  if nums.getD 0 0 % 6 = 0 then (List.range cnt).map fun _ => nums.getD 1 0 % 2
  else if nums.getD 0 0 % 6 = 1 then (List.range cnt).map fun k => if k = nums.getD 1 0 % cnt then 1 else 0
  else (List.range cnt).map fun k => nums.getD (2 + k) 0 % 2
section
variable {P : Program} {w : World} {K : PySem.W.Frag} {mg : Str → Option Value} {base : Heap} {f CG CC CT C : Addr} {fd : FuncData} {k : Nat}
def R_llabels (ds : List D) (r : Res) : Prop := ∃ (nums : List Nat) (cnt : Nat), ds = [lN nums, nI cnt] ∧ 0 < cnt ∧ cnt < 1000 ∧ 2 + cnt ≤ nums.length ∧ r = .ok (tN (labN nums cnt))
abbrev s_llabels : Stmt := top 70
abbrev N_llabels : List Str := ["_law_numbers_here", "_law_count_here", "_law_kind", "_law_k", "_law_chosen"]
theorem sc_llabels : FnScope N_llabels ["_law_numbers_here", "_law_count_here"] (defScope s_llabels) := ⟨rfl, rfl, rfl, by decide +kernel, rfl, by decide +kernel, by decide +kernel⟩
theorem ok_llabels (T : Txt K mg) (F : FnP K "_law_labels" s_llabels f fd) (hm : mg "_law_labels" = some (.ref f)) : DefOk P w K mg base "_law_labels" (k + 1) R_llabels := by
  refine def_ok F hm sc_llabels (fun ds r ⟨_, _, e, _⟩ => by rw [e]; rfl) (fun _ _ _ _ _ _ us hl => match us, hl with | [_, _], _ => rfl) fun cdv A outer s H E hr ds r hR => ?_
  obtain ⟨nums, cnt, rfl, h0, hc, hn, rfl⟩ := hR
  have nd := sc_llabels.nd
  have zl := sizeLine_eq
  have hin : ∀ {q}, q < 2 + cnt → nums[q]? = some (nums.getD q 0) := fun h => getD_some 0 (by omega)
  refine dss_cons (ds_set 2 nd (d := nI (nums.getD 0 0 % 6)) (DE.is (de_mod (de_intc (da_cons (de_ixLf (f := nI) (xs := nums) (i := 0) (de_var 0) de_int (hin (by omega))) da_nil) T.nInt) de_int (by omega)) rfl) ?_)
  unfold labN
  refine dss_cons (ds_if (k := decide (nums.getD 0 0 % 6 = 0)) (DT.is (dt_cmp op_eq rd_eqI (de_var 2) de_int (nomark _)) (dec_eq _ 0)) (fun hk => ?_) fun hk => dss_nil ?_)
  · rw [if_pos (of_decide_eq_true hk)]
    refine dss_one (ds_ret (de_tupL (da_cons (de_of_do (do_lc0 (List.range cnt) nI [3] (fun a => [nI a]) (fun _ => nI (nums.getD 1 0 % 2)) [("_law_k", 3)] nd (blkOk_by (N := N_llabels) (sc := defScope s_llabels) (by decide +kernel)) (di_rng (de_var 1) T.nRange (by omega)) ?_ ?_ ?_)) da_nil) T.nTuple) ?_)
    · rw [List.length_range]; omega
    · exact fun _ _ _ _ _ z _ => dg_name 3 nd
    · exact fun _ _ _ _ _ z _ => DE.is (de_mod (de_intc (da_cons (de_ixLf (f := nI) (xs := nums) (i := 1) (de_var 0) de_int (hin (by omega))) da_nil) T.nInt) de_int (by omega)) rfl
    · show Res.ok (D.tup (List.map nI (List.map _ _))) = _; rw [List.map_map]; rfl
  · rw [if_neg (of_decide_eq_false hk)]
    refine dss_cons (ds_if (k := decide (nums.getD 0 0 % 6 = 1)) (DT.is (dt_cmp op_eq rd_eqI (de_var 2) de_int (nomark _)) (dec_eq _ 1)) (fun hk => ?_) fun hk => dss_nil ?_)
    · rw [if_pos (of_decide_eq_true hk)]
      refine dss_cons (ds_set 4 nd (d := nI (nums.getD 1 0 % cnt)) (DE.is (de_mod (de_intc (da_cons (de_ixLf (f := nI) (xs := nums) (i := 1) (de_var 0) de_int (hin (by omega))) da_nil) T.nInt) (de_var 1) (by omega)) rfl) ?_)
      refine dss_one (ds_ret (de_tupL (da_cons (de_of_do (do_lc0 (List.range cnt) nI [3] (fun a => [nI a]) (fun k => nI (if k = nums.getD 1 0 % cnt then 1 else 0)) [("_law_k", 3)] nd (blkOk_by (N := N_llabels) (sc := defScope s_llabels) (by decide +kernel)) (di_rng (de_var 1) T.nRange (by omega)) ?_ ?_ ?_)) da_nil) T.nTuple) ?_)
      · rw [List.length_range]; omega
      · exact fun _ _ _ _ _ z _ => dg_name 3 nd
      · exact fun _ _ _ _ _ z _ => de_if (k := decide (z = nums.getD 1 0 % cnt)) (DT.is (dt_cmp op_eq rd_eqI (de_var 3) (de_var 4) (nomark _)) (dec_eq _ _)) (fun h => DE.is de_int (by rw [if_pos (of_decide_eq_true h)]; rfl)) fun h => DE.is de_int (by rw [if_neg (of_decide_eq_false h)]; rfl)
      · show Res.ok (D.tup (List.map nI (List.map _ _))) = _; rw [List.map_map]; rfl
    · rw [if_neg (of_decide_eq_false hk)]
      refine dss_one (ds_ret (de_tupL (da_cons (de_of_do (do_lc0 (List.range cnt) nI [3] (fun a => [nI a]) (fun k => nI (nums.getD (2 + k) 0 % 2)) [("_law_k", 3)] nd (blkOk_by (N := N_llabels) (sc := defScope s_llabels) (by decide +kernel)) (di_rng (de_var 1) T.nRange (by omega)) ?_ ?_ ?_)) da_nil) T.nTuple) ?_)
      · rw [List.length_range]; omega
      · exact fun _ _ _ _ _ z _ => dg_name 3 nd
      · exact fun _ _ _ _ _ z hz => DE.is (de_mod (de_intc (da_cons (de_ixLf (f := nI) (xs := nums) (i := 2 + z) (de_var 0) (DE.is (de_add de_int (de_var 3)) (by simp [nI])) (hin (by have := List.mem_range.mp hz; omega))) da_nil) T.nInt) de_int (by omega)) rfl
      · show Res.ok (D.tup (List.map nI (List.map _ _))) = _; rw [List.map_map]; rfl
end
end DL
set_option maxHeartbeats 4000000
namespace DL
open PySem PySem.Spec PyProof.Rows L2
/-! ### the numbers of a cell -/
def mixA (cell k : Nat) : Nat := (cell * 48271 + (k + 1) * 69621) % 2147483647
def mixB (cell k : Nat) : Nat := (mixA cell k * mixA cell k + (k + 3) * 40692) % 2147483399
def mixN (cell k : Nat) : Nat := (mixB cell k * 16807 + cell + k) % 2147483647
def numS (cell : Nat) (p : Nat × List Nat) (k : Nat) : Nat × List Nat := if 0 < p.1 then (p.1 / 1000, p.2 ++ [p.1 % 1000]) else (p.1, p.2 ++ [mixN cell k / 5])
def numP (cell cnt : Nat) : Nat × List Nat := (List.range cnt).foldl (numS cell) (if 10 ^ 18 ≤ cell then cell - 10 ^ 18 else 0, [])
def numsN (cell cnt : Nat) : List Nat := (numP cell cnt).2
theorem numP_succ (cell i : Nat) : numP cell (i + 1) = numS cell (numP cell i) i := by unfold numP; rw [List.range_succ, List.foldl_append]; rfl
theorem numP_len (cell : Nat) : ∀ cnt, (numP cell cnt).2.length = cnt
  | 0 => rfl
  | n + 1 => by
    rw [numP_succ]
    unfold numS
    have := numP_len cell n
    split <;> (rw [List.length_append, this]; rfl)
theorem numsN_len (cell cnt : Nat) : (numsN cell cnt).length = cnt := numP_len cell cnt
section
variable {P : Program} {w : World} {K : PySem.W.Frag} {mg : Str → Option Value} {base : Heap} {f CG CC CT C : Addr} {fd : FuncData} {k : Nat}
def R_lnumbers (ds : List D) (r : Res) : Prop := ∃ (cell cnt : Nat), ds = [nI cell, nI cnt] ∧ cnt < 1000 ∧ r = .ok (lN (numsN cell cnt))
abbrev s_lnumbers : Stmt := top 57
abbrev N_lnumbers : List Str := ["_law_cell_here", "_law_count_here", "_law_rest", "_law_numbers_here", "_law_k", "_law_mixed"]
theorem sc_lnumbers : FnScope N_lnumbers ["_law_cell_here", "_law_count_here"] (defScope s_lnumbers) := ⟨rfl, rfl, rfl, by decide +kernel, rfl, by decide +kernel, by decide +kernel⟩
theorem ok_lnumbers (T : Txt K mg) (F : FnP K "_law_numbers" s_lnumbers f fd) (hm : mg "_law_numbers" = some (.ref f)) : DefOk P w K mg base "_law_numbers" (k + 1) R_lnumbers := by
  refine def_ok F hm sc_lnumbers (fun ds r ⟨_, _, e, _⟩ => by rw [e]; rfl) (fun _ _ _ _ _ _ us hl => match us, hl with | [_, _], _ => rfl) fun cdv A outer s H E hr ds r hR => ?_
  obtain ⟨cell, cnt, rfl, hc, rfl⟩ := hR
  have nd := sc_lnumbers.nd
  have zl := sizeLine_eq
  have main : ∀ r0 : Nat, r0 = (if 10 ^ 18 ≤ cell then cell - 10 ^ 18 else 0) → DSs (cX P w K mg base N_lnumbers "_law_numbers" s_lnumbers f cdv A outer s H E) ((defBody s_lnumbers).drop 2) [.val (nI cell), .val (nI cnt), .val (nI r0), .no, .no, .no] { nx := fun _ => Res.ok (lN (numsN cell cnt)) = .ok .non, rt := fun d => Res.ok (lN (numsN cell cnt)) = .ok d, xn := fun C => Res.ok (lN (numsN cell cnt)) = .err C } := fun r0 h0 => by
    refine dss_cons (ds_setO 3 nd (do_lst da_nil) ?_)
    refine dss_cons (ds_for (List.range cnt) nI [4] (fun k => [nI k]) (passes_of rfl) (di_rng (de_var 1) T.nRange (by omega)) (fun _ _ => dg_name 4 nd) (fun i ρ' => ∃ s1 s2, ρ' = [.val (nI cell), .val (nI cnt), .val (nI (numP cell i).1), .own ((numP cell i).2.map nI), s1, s2]) ⟨.no, .no, ?_⟩ ?_ ?_)
    · subst h0; rfl
    · rintro i x ρ' hx ⟨s1, s2, rfl⟩
      obtain ⟨hi1, hi2⟩ := List.getElem?_eq_some_iff.mp hx
      have ex : x = i := by simpa using hi2.symm
      subst ex
      have hic : x < cnt := by simpa using hi1
      have hln := numP_len cell x
      refine dss_one (ds_if (k := decide (0 < (numP cell x).1)) (DT.is (dt_cmp op_gt rd_gt (de_var 2) de_int (nomark _)) (dec_lt 0 _)) (fun hk => ?_) fun hk => ?_)
      · have h := of_decide_eq_true hk
        refine dss_cons (ds_append (ds := (numP cell x).2.map nI) (d := nI ((numP cell x).1 % 1000)) 3 (DE.is (de_mod (de_intc (da_cons (de_var 2) da_nil) T.nInt) de_int (by omega)) rfl) (by rw [List.length_map, hln]; omega) ?_)
        refine dss_one (ds_set 2 nd (d := nI ((numP cell x).1 / 1000)) (DE.is (de_fdiv (de_var 2) de_int (by omega)) rfl) ⟨.val (nI x), s2, ?_⟩)
        rw [numP_succ]
        unfold numS
        rw [if_pos h]
        simp [setD]
      · have h := of_decide_eq_false hk
        have hA : mixA cell x < 2147483647 := Nat.mod_lt _ (by omega)
        have hB : mixB cell x < 2147483399 := Nat.mod_lt _ (by omega)
        refine dss_cons (ds_set 5 nd (d := nI (mixA cell x)) (DE.is (de_mod (de_intc (da_cons (de_add (de_mul (de_var 0) de_int (.inr (by omega))) (de_mul (de_add (de_var 4) de_int) de_int (.inr (by omega)))) da_nil) T.nInt) de_int (by omega)) ?_) ?_)
        · show D.int _ = D.int _
          refine congrArg D.int ?_
          unfold mixA
          simp
        refine dss_cons (ds_set 5 nd (d := nI (mixB cell x)) (DE.is (de_mod (de_intc (da_cons (de_add (de_mul (de_var 5) (de_var 5) (.inr (by omega))) (de_mul (de_add (de_var 4) de_int) de_int (.inr (by omega)))) da_nil) T.nInt) de_int (by omega)) ?_) ?_)
        · show D.int _ = D.int _
          refine congrArg D.int ?_
          unfold mixB
          simp
        refine dss_cons (ds_set 5 nd (d := nI (mixN cell x)) (DE.is (de_mod (de_intc (da_cons (de_add (de_add (de_mul (de_var 5) de_int (.inr (by omega))) (de_var 0)) (de_var 4)) da_nil) T.nInt) de_int (by omega)) ?_) ?_)
        · show D.int _ = D.int _
          refine congrArg D.int ?_
          unfold mixN
          simp
        refine dss_one (ds_append (ds := (numP cell x).2.map nI) (d := nI (mixN cell x / 5)) 3 (DE.is (de_fdiv (de_var 5) de_int (by omega)) rfl) (by rw [List.length_map, hln]; omega) ⟨.val (nI x), .val (nI (mixN cell x)), ?_⟩)
        rw [numP_succ]
        unfold numS
        rw [if_neg h]
        simp [setD]
    · rintro ρ' ⟨s1, s2, rfl⟩
      rw [List.length_range]
      exact dss_one (ds_retO (ds := (numP cell cnt).2.map nI) 3 rfl)
  refine dss_cons (ds_set 2 nd (d := nI 0) de_int ?_)
  refine dss_cons (ds_if (k := decide (10 ^ 18 ≤ cell)) (DT.is (dt_cmp op_ge rd_ge (de_var 0) (de_pow de_int de_int (by decide)) (nomark _)) ?_) (fun hk => ?_) fun hk => ?_)
  · apply decide_eq_decide.mpr
    show ((10 : Int) ^ (Int.toNat 18) ≤ (cell : Int)) ↔ _
    rw [show ((10 : Int) ^ (Int.toNat 18)) = ((10 ^ 18 : Nat) : Int) by decide]
    omega
  · have h := of_decide_eq_true hk
    refine dss_one (ds_set 2 nd (d := nI (cell - 10 ^ 18)) (DE.is (de_sub (de_var 0) (de_pow de_int de_int (by decide))) ?_) (main _ (by rw [if_pos h])))
    show D.int _ = D.int _
    refine congrArg D.int ?_
    rw [show ((10 : Int) ^ (Int.toNat 18)) = ((10 ^ 18 : Nat) : Int) by decide]
    omega
  · exact dss_nil (main 0 (by rw [if_neg (of_decide_eq_false hk)]))
end
end DL
namespace DL
/-! ### the series shrinks by halves -/
section
variable {n : Nat} {m : Nat → Nat → Nat}
theorem Reach.lt (g : Grp n m) {S : List Nat} (hS : ∀ s ∈ S, s < n) {x : Nat} (h : Reach m S x) : x < n := by
  induction h with
  | zero => exact g.pos
  | step _ hs ih => exact g.cl _ _ ih (hS _ hs)
theorem Reach.mul (g : Grp n m) {S : List Nat} (hS : ∀ s ∈ S, s < n) {x y : Nat} (hx : Reach m S x) (hy : Reach m S y) : Reach m S (m x y) := by
  induction hy with
  | zero => rw [g.r0 _ (hx.lt g hS)]; exact hx
  | @step y s hy hs ih =>
    rw [← g.as x y s (hx.lt g hS) (hy.lt g hS) (hS s hs)]
    exact .step ih hs
theorem Reach.sub {S S' : List Nat} (h : ∀ s ∈ S, s ∈ S') {x : Nat} (hx : Reach m S x) : Reach m S' x := by
  induction hx with
  | zero => exact .zero
  | step _ hs ih => exact .step ih (h _ hs)
theorem mem_clo {S : List Nat} {x : Nat} : x ∈ clo n m S ↔ x < n ∧ Reach m S x := by
  simp only [clo, List.mem_filter, List.mem_range, decide_eq_true_eq]
theorem mem_comms {as bs : List Nat} {x : Nat} : x ∈ commsN n m as bs ↔ ∃ a ∈ as, ∃ b ∈ bs, commN n m a b = x := by
  simp [commsN, List.mem_flatMap, List.mem_map]
/-- the numbers that generate low (k + 1) -/
noncomputable def lowG (n : Nat) (m : Nat → Nat → Nat) (k : Nat) : List Nat := (List.range n).filter fun x => decide (x ∈ commsN n m (List.range n) (low n m k))
theorem low_succ (k : Nat) : low n m (k + 1) = clo n m (lowG n m k) := rfl
theorem mem_lowG {k x : Nat} : x ∈ lowG n m k ↔ x < n ∧ ∃ a, a < n ∧ ∃ b ∈ low n m k, commN n m a b = x := by
  simp only [lowG, List.mem_filter, List.mem_range, decide_eq_true_eq, mem_comms]
theorem low_mul (g : Grp n m) : ∀ {k x y : Nat}, x ∈ low n m k → y ∈ low n m k → m x y ∈ low n m k
  | 0, x, y, hx, hy => List.mem_range.mpr (g.cl _ _ (List.mem_range.mp hx) (List.mem_range.mp hy))
  | k + 1, x, y, hx, hy => by
    rw [low_succ] at hx hy ⊢
    obtain ⟨h1, r1⟩ := mem_clo.mp hx
    obtain ⟨h2, r2⟩ := mem_clo.mp hy
    exact mem_clo.mpr ⟨g.cl _ _ h1 h2, r1.mul g (fun s hs => (mem_lowG.mp hs).1) r2⟩
theorem low_sub : ∀ (k : Nat) {x : Nat}, x ∈ low n m (k + 1) → x ∈ low n m k
  | 0, x, h => List.mem_range.mpr (low_lt h)
  | k + 1, x, h => by
    rw [low_succ] at h ⊢
    obtain ⟨h1, r1⟩ := mem_clo.mp h
    refine mem_clo.mpr ⟨h1, r1.sub fun s hs => ?_⟩
    obtain ⟨h2, a, ha, b, hb, e⟩ := mem_lowG.mp hs
    exact mem_lowG.mpr ⟨h2, a, ha, b, low_sub k hb, e⟩
theorem low_down {j k x : Nat} (h : x ∈ low n m (j + k)) : x ∈ low n m j := by
  induction k with
  | zero => exact h
  | succ k ih => exact ih (low_sub _ h)
theorem low_filter (k : Nat) : low n m k = (List.range n).filter fun x => decide (x ∈ low n m k) := by
  cases k with
  | zero => symm; apply List.filter_eq_self.mpr; intro a ha; exact decide_eq_true ha
  | succ k =>
    exact List.filter_congr fun x hx => decide_eq_decide.mpr ⟨fun r => mem_clo.mpr ⟨List.mem_range.mp hx, r⟩, fun h => (mem_clo.mp h).2⟩
theorem low_ext {j k : Nat} (h : ∀ x, x ∈ low n m j ↔ x ∈ low n m k) : low n m j = low n m k := by
  rw [low_filter j, low_filter k]
  exact List.filter_congr fun x _ => decide_eq_decide.mpr (h x)
theorem sub_len {α : Type} [DecidableEq α] : ∀ {as bs : List α}, as.Nodup → (∀ x ∈ as, x ∈ bs) → as.length ≤ bs.length
  | [], _, _, _ => Nat.zero_le _
  | a :: as, bs, hd, h => by
    obtain ⟨h1, h2⟩ := List.nodup_cons.mp hd
    have hm := h a List.mem_cons_self
    have := sub_len (as := as) (bs := bs.erase a) h2 fun x hx => (List.mem_erase_of_ne (fun e => by rw [e] at hx; exact h1 hx)).mpr (h x (List.mem_cons_of_mem _ hx))
    rw [List.length_erase_of_mem hm] at this
    have := List.length_pos_of_mem hm
    rw [List.length_cons]; omega
/-- an injective map of a list into itself is onto -/
theorem onto_of {f : Nat → Nat} {as : List Nat} (hd : as.Nodup) (hi : ∀ x ∈ as, ∀ y ∈ as, f x = f y → x = y) (hm : ∀ x ∈ as, f x ∈ as) {y : Nat} (hy : y ∈ as) : ∃ x ∈ as, f x = y := by
  apply Classical.byContradiction
  intro hn
  have h1 : ∀ z ∈ as.map f, z ∈ as.erase y := fun z hz => by
    obtain ⟨x, hx, rfl⟩ := List.mem_map.mp hz
    exact (List.mem_erase_of_ne fun e => hn ⟨x, hx, e⟩).mpr (hm x hx)
  have h2 := sub_len (nodup_mapOn hi hd) h1
  rw [List.length_map, List.length_erase_of_mem hy] at h2
  have := List.length_pos_of_mem hy
  omega
theorem half (g : Grp n m) {as bs : List Nat} (da : as.Nodup) (hb : ∀ x ∈ bs, x < n) (hs : ∀ x ∈ as, x ∈ bs) (ma : ∀ x ∈ as, ∀ y ∈ as, m x y ∈ as) (mb : ∀ x ∈ bs, ∀ y ∈ bs, m x y ∈ bs) {z : Nat} (hz : z ∈ bs) (hn : z ∉ as) : 2 * as.length ≤ bs.length := by
  have hlt : ∀ x ∈ as, x < n := fun x hx => hb x (hs x hx)
  have hzn := hb z hz
  have d2 : (as.map (m z)).Nodup := nodup_mapOn (fun x hx y hy e => g.canL hzn (hlt x hx) (hlt y hy) e) da
  have hap : (as ++ as.map (m z)).Nodup := by
    refine List.nodup_append.mpr ⟨da, d2, fun x hx y hy e => ?_⟩
    subst e
    obtain ⟨h, hh, e⟩ := List.mem_map.mp hy
    -- m z h = x, and x = m w h for some w
    obtain ⟨w, hw, e2⟩ := onto_of (f := fun w => m w h) da (fun x hx y hy e => g.canR (hlt h hh) (hlt x hx) (hlt y hy) e) (fun w hw => ma w hw h hh) hx
    have : z = w := g.canR (hlt h hh) hzn (hlt w hw) (e.trans e2.symm)
    exact hn (this ▸ hw)
  have := sub_len (bs := bs) hap fun x hx => by
    rcases List.mem_append.mp hx with q | q
    · exact hs x q
    · obtain ⟨h, hh, e⟩ := List.mem_map.mp q
      exact e ▸ mb z hz h (hs h hh)
  rw [List.length_append, List.length_map] at this
  omega
theorem low_half (g : Grp n m) {k : Nat} (h : low n m (k + 1) ≠ low n m k) : 2 * (low n m (k + 1)).length ≤ (low n m k).length := by
  have : ∃ z ∈ low n m k, z ∉ low n m (k + 1) := by
    apply Classical.byContradiction
    intro hn
    refine h (low_ext fun x => ⟨low_sub k, fun hx => ?_⟩)
    apply Classical.byContradiction
    exact fun q => hn ⟨x, hx, q⟩
  obtain ⟨z, hz, hn⟩ := this
  exact half g (low_nd n m (k + 1)) (fun x hx => low_lt hx) (fun x hx => low_sub k hx) (fun x hx y hy => low_mul g hx hy) (fun x hx y hy => low_mul g hx hy) hz hn
theorem low_pow (g : Grp n m) : ∀ k, (∀ i, i < k → low n m (i + 1) ≠ low n m i) → 2 ^ k * (low n m k).length ≤ n
  | 0, _ => by have := low_len n m 0; omega
  | k + 1, h => by
    have h1 := low_pow g k fun i hi => h i (by omega)
    have h2 := low_half g (h k (by omega))
    have : 2 ^ (k + 1) * (low n m (k + 1)).length = 2 ^ k * (2 * (low n m (k + 1)).length) := by rw [Nat.pow_succ, Nat.mul_assoc]
    rw [this]
    exact Nat.le_trans (Nat.mul_le_mul_left _ h2) h1
theorem low_pos (h : 0 < n) (k : Nat) : 0 < (low n m k).length := List.length_pos_of_mem (low_zero h k)
theorem least_of {p : Nat → Prop} : ∀ (t : Nat), p t → ∃ c, c ≤ t ∧ p c ∧ ∀ i, i < c → ¬ p i := fun t => by
  induction t using Nat.strongRecOn with
  | _ t ih =>
    intro h
    by_cases hq : ∃ i, i < t ∧ p i
    · obtain ⟨i, hi, hp⟩ := hq
      obtain ⟨c, h1, h2, h3⟩ := ih i hi hp
      exact ⟨c, by omega, h2, h3⟩
    · exact ⟨t, Nat.le_refl _, h, fun i hi hp => hq ⟨i, hi, hp⟩⟩
theorem still_ex (g : Grp n m) (hn : n ≤ 60) : ∃ c, c ≤ 5 ∧ Still n m c := by
  have : ∃ t, t ≤ 5 ∧ low n m (t + 1) = low n m t := by
    apply Classical.byContradiction
    intro hno
    have h1 := low_pow g 6 fun i hi e => hno ⟨i, by omega, e⟩
    have := low_pos (m := m) g.pos 6
    have : 2 ^ 6 * 1 ≤ 2 ^ 6 * (low n m 6).length := Nat.mul_le_mul_left _ (by omega)
    omega
  obtain ⟨t, ht, e⟩ := this
  obtain ⟨c, h1, h2, h3⟩ := least_of (p := fun t => low n m (t + 1) = low n m t) t e
  exact ⟨c, by omega, h2, h3, by omega⟩
theorem Still.stay {c : Nat} (s : Still n m c) : ∀ k, low n m (c + k) = low n m c
  | 0 => rfl
  | k + 1 => by
    have := s.stay k
    show subC n m (List.range n) (low n m (c + k)) = _
    rw [this]
    exact s.at_
theorem Still.ge {c : Nat} (s : Still n m c) {k : Nat} (h : c ≤ k) : low n m k = low n m c := by
  have := s.stay (k - c)
  rwa [show c + (k - c) = k by omega] at this
theorem Still.uniq {c d : Nat} (s : Still n m c) (t : Still n m d) : c = d := by
  apply Classical.byContradiction
  intro h
  rcases Nat.lt_or_gt_of_ne h with q | q
  · exact t.no c q s.at_
  · exact s.no d q t.at_
theorem subAt_low {c : Nat} (s : Still n m c) (w : Nat) : subAt (rowL n m c) w = low n m (w - 1) := by
  unfold subAt rowL
  rw [List.length_map, List.length_range, List.getD_eq_getElem?_getD, List.getElem?_map]
  have h1 : min (max w 1) (c + 1) - 1 < c + 1 := by omega
  rw [List.getElem?_eq_getElem (by simpa using h1)]
  simp only [List.getElem_range, Option.map_some, Option.getD_some]
  by_cases h : w - 1 ≤ c
  · rw [show min (max w 1) (c + 1) - 1 = w - 1 by omega]
  · rw [show min (max w 1) (c + 1) - 1 = c by omega, s.ge (by omega : c ≤ w - 1)]
/-- the law's series -/
noncomputable def serN (n : Nat) (m : Nat → Nat → Nat) (t : Nat) : List (List Nat) := List.range n :: (List.range (t + 1)).map (low n m)
theorem serN_len (t : Nat) : (serN n m t).length = t + 2 := by simp [serN]
theorem serN_at {t w : Nat} (h : w < t + 2) : (serN n m t).getD w [] = low n m (w - 1) := by
  unfold serN
  cases w with
  | zero => rfl
  | succ w =>
    rw [List.getD_cons_succ, List.getD_eq_getElem?_getD, List.getElem?_map, List.getElem?_eq_getElem (by simp; omega)]
    simp
theorem serN_last (t : Nat) : ∃ pre, serN n m t = pre ++ [low n m t] := by
  refine ⟨List.range n :: (List.range t).map (low n m), ?_⟩
  unfold serN
  rw [List.range_succ, List.map_append]; rfl
theorem lcho_eq {c t : Nat} (s : Still n m c) {ins : List (List Int)} (h : ∀ x ∈ ins, wtN x < t + 2) : lchoN (serN n m t) ins = choN (rowL n m c) ins := by
  unfold lchoN choN
  refine congrArg _ (List.map_congr_left fun x hx => ?_)
  rw [serN_at (h x (List.mem_of_mem_drop hx)), subAt_low s]
end
end DL
namespace DL
/-! ### the numbered lists -/
def prodL : List (List Nat) → List (List Nat)
  | [] => [[]]
  | c :: cs => c.flatMap fun x => (prodL cs).map (x :: ·)
def pN (cs : List (List Nat)) : Nat := prodN (cs.map List.length)
theorem foldl_mul (a : Nat) : ∀ xs : List Nat, xs.foldl (· * ·) a = a * xs.foldl (· * ·) 1
  | [] => by simp
  | x :: xs => by
    rw [List.foldl_cons, List.foldl_cons, foldl_mul (a * x) xs, foldl_mul (1 * x) xs, Nat.one_mul, Nat.mul_assoc]
theorem pN_cons (c : List Nat) (cs : List (List Nat)) : pN (c :: cs) = c.length * pN cs := by
  unfold pN prodN
  rw [List.map_cons, List.foldl_cons, foldl_mul, Nat.one_mul]
theorem pN_nil : pN [] = 1 := rfl
theorem pN_pos : ∀ {cs : List (List Nat)}, (∀ c ∈ cs, 0 < c.length) → 0 < pN cs
  | [], _ => by rw [pN_nil]; omega
  | c :: cs, h => by
    rw [pN_cons]
    exact Nat.mul_pos (h c List.mem_cons_self) (pN_pos fun d hd => h d (List.mem_cons_of_mem _ hd))
theorem stepD_acc : ∀ (cs : List (List Nat)) (acc : List Nat) (r : Nat), cs.foldl stepD (acc, r) = (acc ++ (cs.foldl stepD ([], r)).1, (cs.foldl stepD ([], r)).2)
  | [], acc, r => by simp
  | c :: cs, acc, r => by
    rw [List.foldl_cons, List.foldl_cons]
    unfold stepD
    simp only [List.nil_append]
    have e : (fun p row => stepD p row) = stepD := rfl
    rw [show (fun (p : List Nat × Nat) (row : List Nat) => (p.1 ++ [row.getD (p.2 % row.length) 0], p.2 / row.length)) = stepD from rfl]
    rw [stepD_acc cs (acc ++ _), stepD_acc cs [_]]
    simp
theorem stepD_snd : ∀ (cs : List (List Nat)) (acc : List Nat) (r : Nat), (cs.reverse.foldl stepD (acc, r)).2 = r / pN cs
  | [], acc, r => by simp [pN_nil]
  | c :: cs, acc, r => by
    rw [List.reverse_cons, List.foldl_append]
    show (stepD _ c).2 = _
    unfold stepD
    show (cs.reverse.foldl stepD (acc, r)).2 / c.length = _
    rw [stepD_snd cs acc r, pN_cons, Nat.div_div_eq_div_mul, Nat.mul_comm]
theorem membN_nil (num : Nat) : membN [] num = [] := rfl
theorem membN_cons (c : List Nat) (cs : List (List Nat)) (num : Nat) : membN (c :: cs) num = c.getD (num / pN cs % c.length) 0 :: membN cs num := by
  unfold membN
  rw [List.reverse_cons, List.foldl_append]
  show ((stepD _ c).1).reverse = _
  show (((cs.reverse.foldl stepD ([], num)).1 ++ [c.getD ((cs.reverse.foldl stepD ([], num)).2 % c.length) 0]).reverse) = _
  rw [stepD_snd, List.reverse_append]
  rfl
theorem membN_mod : ∀ (cs : List (List Nat)) (num : Nat), membN cs (num % pN cs) = membN cs num
  | [], num => rfl
  | c :: cs, num => by
    rw [membN_cons, membN_cons, pN_cons]
    have h1 : num % (c.length * pN cs) / pN cs = num / pN cs % c.length := Nat.mod_mul_left_div_self num _ _
    have h2 : membN cs (num % (c.length * pN cs)) = membN cs num := by
      rw [← membN_mod cs (num % (c.length * pN cs)), ← membN_mod cs num, Nat.mod_mul_left_mod]
    rw [h1, Nat.mod_mod, h2]
theorem range_mul {α : Type} (f : Nat → α) (P : Nat) : ∀ k, (List.range (k * P)).map f = (List.range k).flatMap fun a => (List.range P).map fun b => f (a * P + b)
  | 0 => by simp
  | k + 1 => by
    rw [Nat.succ_mul, List.range_add, List.map_append, range_mul f P k, List.range_succ, List.flatMap_append, List.map_map]
    simp [Function.comp_def]
theorem map_idx {α : Type} (f : Nat → α) : ∀ c : List Nat, (List.range c.length).map (fun a => f (c.getD a 0)) = c.map f := fun c => by
  apply List.ext_getElem
  · simp
  · intro i h1 h2
    have h3 : i < c.length := by simpa using h2
    simp [List.getD_eq_getElem?_getD, List.getElem?_eq_getElem h3]
theorem memb_all : ∀ {cs : List (List Nat)}, (∀ c ∈ cs, 0 < c.length) → (List.range (pN cs)).map (membN cs) = prodL cs
  | [], _ => rfl
  | c :: cs, h => by
    have hp := pN_pos fun d hd => h d (List.mem_cons_of_mem c hd)
    have ih := memb_all fun d hd => h d (List.mem_cons_of_mem c hd)
    rw [pN_cons, range_mul]
    have key : ∀ a ∈ List.range c.length, (List.range (pN cs)).map (fun b => membN (c :: cs) (a * pN cs + b)) = (prodL cs).map (c.getD a 0 :: ·) := fun a ha => by
      rw [← ih, List.map_map]
      refine List.map_congr_left fun b hb => ?_
      have hb' := List.mem_range.mp hb
      have ha' := List.mem_range.mp ha
      show _ = c.getD a 0 :: membN cs b
      rw [membN_cons]
      have h1 : (a * pN cs + b) / pN cs = a := by
        rw [Nat.mul_comm, Nat.mul_add_div hp, Nat.div_eq_of_lt hb', Nat.add_zero]
      have h2 : (a * pN cs + b) % pN cs = b := by
        rw [Nat.mul_comm, Nat.mul_add_mod, Nat.mod_eq_of_lt hb']
      rw [h1, Nat.mod_eq_of_lt ha', ← membN_mod cs (a * pN cs + b), h2]
    have e2 : (List.range c.length).flatMap (fun a => (List.range (pN cs)).map fun b => membN (c :: cs) (a * pN cs + b)) = (List.range c.length).flatMap fun a => (prodL cs).map (c.getD a 0 :: ·) := by
      rw [List.flatMap_def, List.flatMap_def, List.map_congr_left key]
    rw [e2]
    show _ = c.flatMap fun x => (prodL cs).map (x :: ·)
    rw [List.flatMap_def, List.flatMap_def, map_idx (fun x => (prodL cs).map (x :: ·)) c]
/-! ### the search -/
section
variable {m : Nat → Nat → Nat} {ins : List (List Int)} {cs : List (List Nat)} {tb : List Int}
theorem getD_app {α : Type} {xs ys : List α} {i : Nat} {d : α} (h : i < xs.length) : (xs ++ ys).getD i d = xs.getD i d := by
  rw [List.getD_eq_getElem?_getD, List.getD_eq_getElem?_getD, List.getElem?_append_left h]
theorem getD_end {α : Type} {xs ys : List α} {x d : α} : (xs ++ x :: ys).getD xs.length d = x := by
  rw [List.getD_eq_getElem?_getD, List.getElem?_append_right (Nat.le_refl _), Nat.sub_self]; rfl
theorem underL_lt {at_ k : Nat} (h : k ∈ underL ins at_) : k < at_ := List.mem_range.mp (List.mem_filter.mp h).1
theorem foldl_cong {α β : Type} {f g : β → α → β} : ∀ {xs : List α} {a : β}, (∀ x ∈ xs, ∀ b, f b x = g b x) → xs.foldl f a = xs.foldl g a
  | [], _, _ => rfl
  | x :: xs, a, h => by
    rw [List.foldl_cons, List.foldl_cons, h x List.mem_cons_self]
    exact foldl_cong fun y hy => h y (List.mem_cons_of_mem _ hy)
theorem belowU_app {ms t : List Nat} {at_ : Nat} (h : at_ ≤ ms.length) : belowU m ins (ms ++ t) at_ = belowU m ins ms at_ := by
  unfold belowU
  exact foldl_cong fun k hk b => by rw [getD_app (by have := underL_lt hk; omega)]
theorem entN_len (ms : List Nat) : (entN m ins ms).length = ms.length := by simp [entN]
theorem entN_app (ms t : List Nat) : ∃ r, entN m ins (ms ++ t) = entN m ins ms ++ r := by
  refine ⟨(List.range t.length).map fun a => m (belowU m ins (ms ++ t) (ms.length + a)) ((ms ++ t).getD (ms.length + a) 0), ?_⟩
  unfold entN
  rw [List.length_append, List.range_add, List.map_append, List.map_map]
  congr 1
  refine List.map_congr_left fun a ha => ?_
  have := List.mem_range.mp ha
  rw [belowU_app (by omega), getD_app this]
theorem entN_snoc (ms : List Nat) (x : Nat) : entN m ins (ms ++ [x]) = entN m ins ms ++ [m (belowU m ins ms ms.length) x] := by
  unfold entN
  rw [List.length_append, List.range_add, List.map_append]
  congr 1
  · refine List.map_congr_left fun a ha => ?_
    have := List.mem_range.mp ha
    rw [belowU_app (by omega), getD_app this]
  · simp only [List.length_singleton, List.range_one, List.map_cons, List.map_nil, Nat.add_zero]
    rw [belowU_app (Nat.le_refl _), getD_end]
theorem clear_app {es r : List Nat} {at_ e : Nat} (h : at_ ≤ es.length) : clear tb (es ++ r) at_ e = clear tb es at_ e := by
  unfold clear
  have : ∀ k ∈ List.range at_, (!decide ((es ++ r).getD k 0 = e) || decide (tb.getD k 0 = tb.getD at_ 0)) = (!decide (es.getD k 0 = e) || decide (tb.getD k 0 = tb.getD at_ 0)) := fun k hk => by
    have := List.mem_range.mp hk
    rw [getD_app (by omega)]
  rw [Bool.eq_iff_iff, List.all_eq_true, List.all_eq_true]
  exact ⟨fun h k hk => by rw [← this k hk]; exact h k hk, fun h k hk => by rw [this k hk]; exact h k hk⟩
theorem noCl_snoc {es : List Nat} {e : Nat} : noCl tb (es ++ [e]) = (noCl tb es && clear tb es es.length e) := by
  unfold noCl
  rw [List.length_append, List.length_singleton, List.range_succ, List.all_append]
  simp only [List.all_cons, List.all_nil, Bool.and_true]
  congr 1
  · rw [Bool.eq_iff_iff, List.all_eq_true, List.all_eq_true]
    have key : ∀ i ∈ List.range es.length, clear tb (es ++ [e]) i ((es ++ [e]).getD i 0) = clear tb es i (es.getD i 0) := fun i hi => by
      have := List.mem_range.mp hi
      rw [getD_app this, clear_app (by omega)]
    exact ⟨fun h k hk => by rw [← key k hk]; exact h k hk, fun h k hk => by rw [key k hk]; exact h k hk⟩
  · rw [getD_end, clear_app (Nat.le_refl _)]
theorem noCl_pre {es r : List Nat} (h : noCl tb (es ++ r) = true) : noCl tb es = true := by
  unfold noCl at h ⊢
  rw [List.all_eq_true] at h ⊢
  intro i hi
  have hi' := List.mem_range.mp hi
  have := h i (by rw [List.length_append]; exact List.mem_range.mpr (by omega))
  rwa [getD_app hi', clear_app (by omega)] at this
theorem flatMap_cond {α β : Type} (p : α → Bool) (f : α → List β) : ∀ xs : List α, (xs.filter p).flatMap f = xs.flatMap fun x => if p x = true then f x else []
  | [] => rfl
  | x :: xs => by
    rw [List.flatMap_cons, List.filter_cons]
    by_cases h : p x = true
    · rw [if_pos h, if_pos h, List.flatMap_cons, flatMap_cond p f xs]
    · rw [if_neg h, if_neg h, flatMap_cond p f xs]; rfl
theorem flatMap_congrL {α β : Type} {f g : α → List β} : ∀ {xs : List α}, (∀ x ∈ xs, f x = g x) → xs.flatMap f = xs.flatMap g := fun {xs} h => by
  rw [List.flatMap_def, List.flatMap_def, List.map_congr_left h]
theorem dfs_eq (hl : cs.length = ins.length) : ∀ (d : Nat) (ms : List Nat), ms.length + d = ins.length → noCl tb (entN m ins ms) = true →
    dfs m ins cs tb d (ms, entN m ins ms) = ((prodL (cs.drop ms.length)).map fun t => entN m ins (ms ++ t)).filter (noCl tb)
  | 0, ms, h, hc => by
    rw [List.drop_eq_nil_of_le (by omega)]
    show [entN m ins ms] = _
    simp [prodL, hc]
  | d + 1, ms, h, hc => by
    have hlt : ms.length < cs.length := by omega
    have hdr : cs.drop ms.length = cs.getD ms.length [] :: cs.drop (ms.length + 1) := by
      rw [List.drop_eq_getElem_cons hlt, List.getD_eq_getElem?_getD, List.getElem?_eq_getElem hlt]; rfl
    rw [hdr]
    show (kids m ins cs tb (ms, entN m ins ms)).flatMap (dfs m ins cs tb d) = _
    unfold kids
    simp only [entN_len]
    rw [List.flatMap_map, flatMap_cond]
    show _ = (((cs.getD ms.length []).flatMap fun x => (prodL (cs.drop (ms.length + 1))).map (x :: ·)).map fun t => entN m ins (ms ++ t)).filter (noCl tb)
    rw [List.map_flatMap, List.filter_flatMap]
    refine flatMap_congrL fun x hx => ?_
    have hs := noCl_snoc (tb := tb) (es := entN m ins ms) (e := m (belowU m ins ms ms.length) x)
    rw [hc, Bool.true_and, entN_len, ← entN_snoc] at hs
    rw [List.map_map]
    have ea : (fun t => entN m ins (ms ++ t)) ∘ (fun x_1 => x :: x_1) = fun t => entN m ins ((ms ++ [x]) ++ t) := by
      funext t
      simp
    rw [ea]
    by_cases hk : clear tb (entN m ins ms) ms.length (m (belowU m ins ms ms.length) x) = true
    · rw [if_pos hk, ← entN_snoc]
      rw [hk] at hs
      rw [dfs_eq hl d (ms ++ [x]) (by rw [List.length_append, List.length_singleton]; omega) hs, List.length_append, List.length_singleton]
    · rw [if_neg hk]
      symm
      rw [List.filter_eq_nil_iff]
      intro z hz q
      obtain ⟨t, _, rfl⟩ := List.mem_map.mp hz
      obtain ⟨r, er⟩ := entN_app (m := m) (ins := ins) (ms ++ [x]) t
      rw [er] at q
      exact hk (hs ▸ noCl_pre q)
theorem srch_eq (hl : cs.length = ins.length) (hp : ∀ c ∈ cs, 0 < c.length) : srch m ins cs tb = ((List.range (pN cs)).map fun k => entN m ins (membN cs k)).filter (noCl tb) := by
  have := dfs_eq (m := m) (tb := tb) hl ins.length [] (by simp) rfl
  unfold srch
  rw [show (([], []) : Br) = ([], entN m ins []) from rfl, this]
  rw [List.length_nil, List.drop_zero, ← memb_all hp, List.map_map]
  rfl
/-- the numbers of the charts that decide -/
def dueN (m : Nat → Nat → Nat) (ins : List (List Int)) (cs : List (List Nat)) (tb : List Int) : List (Nat × List Nat) := ((List.range (pN cs)).filter fun k => noCl tb (entN m ins (membN cs k))).map fun k => (k, entN m ins (membN cs k))
theorem due_srch (hl : cs.length = ins.length) (hp : ∀ c ∈ cs, 0 < c.length) : (dueN m ins cs tb).map (·.2) = srch m ins cs tb := by
  rw [srch_eq hl hp]
  unfold dueN
  rw [List.filter_map, List.map_map]
  rfl
end
end DL
namespace DL
/-! ### coefficients and numbers -/
section
variable {n : Nat} {m : Nat → Nat → Nat} {ins : List (List Int)} {cs : List (List Nat)} {tb : List Int}
theorem Grp.inv_l (g : Grp n m) {a : Nat} (h : a < n) : m (invN n m a) a = 0 := by
  have hb := g.invN_lt h
  have e := g.invN_eq h
  -- m (m b a) b = m b (m a b) = m b 0 = b = m 0 b
  have h1 : m (m (invN n m a) a) (invN n m a) = m 0 (invN n m a) := by
    rw [g.as _ _ _ hb h hb, e, g.r0 _ hb, g.l0 _ hb]
  exact g.canR hb (g.cl _ _ hb h) g.pos h1
theorem Grp.inv_can (g : Grp n m) {a x : Nat} (h : a < n) (hx : x < n) : m (invN n m a) (m a x) = x := by
  rw [← g.as _ _ _ (g.invN_lt h) h hx, g.inv_l h, g.l0 _ hx]
theorem foldl_filter {α β : Type} (p : α → Bool) (f : β → α → β) : ∀ (xs : List α) (a : β), (xs.filter p).foldl f a = xs.foldl (fun a x => if p x = true then f a x else a) a
  | [], a => rfl
  | x :: xs, a => by
    rw [List.filter_cons, List.foldl_cons]
    by_cases h : p x = true
    · rw [if_pos h, if_pos h, List.foldl_cons, foldl_filter p f xs]
    · rw [if_neg h, if_neg h, foldl_filter p f xs]
theorem below_eq (ms : List Nat) (at_ : Nat) : belowN m ins ms at_ = belowU m ins ms at_ := by
  unfold belowN belowU underL
  rw [foldl_filter]
  rfl
theorem belowUN_lt (g : Grp n m) {ms : List Nat} (hm : ∀ x ∈ ms, x < n) (at_ : Nat) : belowU m ins ms at_ < n := by
  rw [← below_eq]
  exact below_lt g hm _ _ g.pos
theorem rev_ind {α : Type} {p : List α → Prop} (h0 : p []) (hs : ∀ xs x, p xs → p (xs ++ [x])) : ∀ xs, p xs := fun xs => by
  have : ∀ ys : List α, p ys.reverse := fun ys => by
    induction ys with
    | nil => exact h0
    | cons y ys ih => rw [List.reverse_cons]; exact hs _ _ ih
  have := this xs.reverse
  rwa [List.reverse_reverse] at this
theorem coef_ent (g : Grp n m) : ∀ ms : List Nat, (∀ x ∈ ms, x < n) → coefN n m ins (entN m ins ms) = ms := by
  apply rev_ind
  · intro _; rfl
  · intro ms x ih h
    have hm : ∀ y ∈ ms, y < n := fun y hy => h y (List.mem_append_left _ hy)
    have hx : x < n := h x (List.mem_append_right _ List.mem_cons_self)
    rw [entN_snoc]
    unfold coefN
    rw [List.foldl_append]
    have ih' : (entN m ins ms).foldl (stepK n m ins) [] = ms := ih hm
    rw [ih']
    show ms ++ [m (invN n m (belowN m ins ms ms.length)) (m (belowU m ins ms ms.length) x)] = _
    rw [below_eq, g.inv_can (belowUN_lt g hm _) hx]
theorem entN_lt (g : Grp n m) {ms : List Nat} (hm : ∀ x ∈ ms, x < n) : ∀ x ∈ entN m ins ms, x < n := fun x hx => by
  obtain ⟨a, ha, rfl⟩ := List.mem_map.mp hx
  exact g.cl _ _ (belowUN_lt g hm _) (hm _ (List.mem_of_getElem? (getD_some 0 (List.mem_range.mp ha))))
theorem numN_fold (a : Nat) : ∀ (cs : List (List Nat)) (ms : List Nat), cs.length = ms.length → (cs.zip ms).foldl (fun a q => a * q.1.length + q.1.findIdx (fun z => z == q.2)) a = a * pN cs + numN cs ms
  | [], [], _ => by simp [pN_nil, numN]
  | c :: cs, x :: ms, h => by
    have hl : cs.length = ms.length := by simpa using h
    unfold numN
    rw [List.zip_cons_cons, List.foldl_cons, List.foldl_cons, numN_fold _ cs ms hl, numN_fold (0 * _ + _) cs ms hl, pN_cons]
    simp only [Nat.zero_mul, Nat.zero_add, Nat.add_mul, Nat.mul_assoc, Nat.add_assoc]
theorem numN_cons {c : List Nat} {x : Nat} {ms : List Nat} (h : cs.length = ms.length) : numN (c :: cs) (x :: ms) = c.findIdx (fun z => z == x) * pN cs + numN cs ms := by
  show ((c :: cs).zip (x :: ms)).foldl _ 0 = _
  rw [List.zip_cons_cons, List.foldl_cons, numN_fold _ cs ms h]
  simp
theorem findIdx_nd : ∀ {c : List Nat} {i : Nat}, c.Nodup → i < c.length → c.findIdx (fun z => z == c.getD i 0) = i
  | [], _, _, h => absurd h (Nat.not_lt_zero _)
  | y :: c, 0, _, _ => by simp [List.findIdx_cons]
  | y :: c, i + 1, hd, h => by
    obtain ⟨h1, h2⟩ := List.nodup_cons.mp hd
    have hi : i < c.length := by simpa using h
    rw [List.getD_cons_succ, List.findIdx_cons]
    have : (y == c.getD i 0) = false := beq_eq_false_iff_ne.mpr fun e => h1 (e ▸ List.mem_of_getElem? (getD_some 0 hi))
    rw [this, findIdx_nd h2 hi]
    rfl
theorem membN_len (cs : List (List Nat)) (num : Nat) : (membN cs num).length = cs.length := by
  induction cs with
  | nil => rfl
  | cons c cs ih => rw [membN_cons, List.length_cons, List.length_cons, ih]
theorem num_memb : ∀ {cs : List (List Nat)} {num : Nat}, (∀ c ∈ cs, 0 < c.length ∧ c.Nodup) → num < pN cs → numN cs (membN cs num) = num
  | [], num, _, h => by rw [pN_nil] at h; have : num = 0 := by omega
                        subst this; rfl
  | c :: cs, num, hc, h => by
    have hp := pN_pos fun d hd => (hc d (List.mem_cons_of_mem c hd)).1
    have h1 := (hc c List.mem_cons_self)
    rw [membN_cons, numN_cons (membN_len cs num).symm]
    rw [pN_cons] at h
    have h2 : num / pN cs < c.length := (Nat.div_lt_iff_lt_mul hp).mpr h
    rw [Nat.mod_eq_of_lt h2, findIdx_nd h1.2 h2, ← membN_mod cs num, num_memb (fun d hd => hc d (List.mem_cons_of_mem c hd)) (Nat.mod_lt _ hp)]
    exact Nat.div_add_mod' num (pN cs)
theorem memb_mem : ∀ {cs : List (List Nat)} {num : Nat}, (∀ c ∈ cs, 0 < c.length) → ∀ q ∈ cs.zip (membN cs num), q.2 ∈ q.1
  | [], _, _, q, hq => by simp at hq
  | c :: cs, num, hc, q, hq => by
    rw [membN_cons, List.zip_cons_cons] at hq
    rcases List.mem_cons.mp hq with e | hq
    · subst e
      exact List.mem_of_getElem? (getD_some 0 (Nat.mod_lt _ (hc c List.mem_cons_self)))
    · exact memb_mem (fun d hd => hc d (List.mem_cons_of_mem c hd)) q hq
/-- the choices of all charts, for the inputs ins -/
noncomputable def choA (n : Nat) (m : Nat → Nat → Nat) (c : Nat) (ins : List (List Int)) : List (List Nat) := ins.map fun s => subAt (rowL n m c) (wtN s)
theorem subAt_pos (g : Grp n m) {c k : Nat} (s : Still n m c) : 0 < (subAt (rowL n m c) k).length := by rw [subAt_low s]; exact low_pos g.pos _
theorem subAt_nd {c k : Nat} (s : Still n m c) : (subAt (rowL n m c) k).Nodup := by rw [subAt_low s]; exact low_nd n m _
theorem choN_pos (g : Grp n m) {c : Nat} (s : Still n m c) : ∀ q ∈ choN (rowL n m c) ins, 0 < q.length ∧ q.Nodup := fun q hq => by
  unfold choN at hq
  rcases List.mem_cons.mp hq with e | hq
  · subst e; exact ⟨by simp, by simp⟩
  · obtain ⟨x, _, rfl⟩ := List.mem_map.mp hq
    exact ⟨subAt_pos g s, subAt_nd s⟩
theorem membN_lt (g : Grp n m) {c : Nat} (s : Still n m c) (num : Nat) : ∀ x ∈ membN (choN (rowL n m c) ins) num, x < n := fun x hx =>
  (membN_ok (n := n) (fun q hq => (choN_pos g s q hq).1) (fun q hq => (choN_ok g).1 q hq) num).2 x hx
/-- the number of the chart with these entries -/
theorem num_ent (g : Grp n m) {c : Nat} (s : Still n m c) {v : List Int} {rest : List (List Int)} (hi : ins = v :: rest) {num : Nat} (h : num < pN (choN (rowL n m c) ins)) :
    numN (choA n m c ins) (coefN n m ins (entN m ins (membN (choN (rowL n m c) ins) num))) = num := by
  rw [coef_ent g _ (membN_lt g s num)]
  subst hi
  have e : choN (rowL n m c) (v :: rest) = [0] :: choA n m c rest := rfl
  rw [e] at h ⊢
  rw [pN_cons, List.length_singleton, Nat.one_mul] at h
  rw [membN_cons]
  show numN (subAt (rowL n m c) (wtN v) :: choA n m c rest) _ = _
  rw [numN_cons (membN_len _ _).symm]
  have h0 : ([0] : List Nat).getD (num / pN (choA n m c rest) % [0].length) 0 = 0 := by simp [Nat.mod_one]
  rw [h0]
  have h1 : (subAt (rowL n m c) (wtN v)).findIdx (fun z => z == 0) = 0 := by
    rw [subAt_low s]
    have hn : low n m (wtN v - 1) = (List.range n).filter fun x => decide (x ∈ low n m (wtN v - 1)) := low_filter _
    obtain ⟨k, rfl⟩ : ∃ k, n = k + 1 := ⟨n - 1, by have := g.pos; omega⟩
    rw [List.range_succ_eq_map, List.filter_cons, if_pos (decide_eq_true (low_zero (m := m) g.pos _))] at hn
    rw [hn]
    simp [List.findIdx_cons]
  rw [h1, Nat.zero_mul, Nat.zero_add]
  refine num_memb (fun q hq => ?_) h
  obtain ⟨x, _, rfl⟩ := List.mem_map.mp hq
  exact ⟨subAt_pos g s, subAt_nd s⟩
/-- its coefficients lie in their subgroups -/
theorem prog_ent (g : Grp n m) {c : Nat} (s : Still n m c) {v : List Int} {rest : List (List Int)} (hi : ins = v :: rest) {num : Nat} :
    ∀ q ∈ ins.zip (coefN n m ins (entN m ins (membN (choN (rowL n m c) ins) num))), q.2 ∈ subAt (rowL n m c) (wtN q.1) := by
  rw [coef_ent g _ (membN_lt g s num)]
  subst hi
  have e : choN (rowL n m c) (v :: rest) = [0] :: choA n m c rest := rfl
  rw [e, membN_cons, List.zip_cons_cons]
  intro q hq
  rcases List.mem_cons.mp hq with h | h
  · subst h
    rw [subAt_low s]
    have h0 : ([0] : List Nat).getD (num / pN (choA n m c rest) % [0].length) 0 = 0 := by simp [Nat.mod_one]
    rw [h0]
    exact low_zero g.pos _
  · have hp : ∀ q ∈ choA n m c rest, 0 < q.length := fun q hq => by
      obtain ⟨x, _, rfl⟩ := List.mem_map.mp hq
      exact subAt_pos g s
    have := memb_mem (num := num) hp (subAt (rowL n m c) (wtN q.1), q.2) ?_
    · exact this
    · unfold choA
      rw [List.zip_map_left]
      exact List.mem_map.mpr ⟨q, h, rfl⟩
end
end DL
namespace DL
/-! ### renumbering -/
structure Ren (n : Nat) (r p : Nat → Nat) : Prop where
  rl : ∀ i, i < n → r i < n
  pl : ∀ i, i < n → p i < n
  pr : ∀ i, i < n → p (r i) = i
  rp : ∀ i, i < n → r (p i) = i
  z : r 0 = 0
def renM (m : Nat → Nat → Nat) (r p : Nat → Nat) (a b : Nat) : Nat := p (m (r a) (r b))
section
variable {n : Nat} {m : Nat → Nat → Nat} {r p : Nat → Nat}
theorem Ren.inj (R : Ren n r p) {i j : Nat} (hi : i < n) (hj : j < n) (h : r i = r j) : i = j := by
  rw [← R.pr i hi, ← R.pr j hj, h]
theorem Ren.r_ren (R : Ren n r p) (g : Grp n m) {a b : Nat} (ha : a < n) (hb : b < n) : r (renM m r p a b) = m (r a) (r b) := R.rp _ (g.cl _ _ (R.rl a ha) (R.rl b hb))
theorem Ren.grp (R : Ren n r p) (g : Grp n m) : Grp n (renM m r p) := by
  have hp0 : p 0 = 0 := by have := R.pr 0 g.pos; rwa [R.z] at this
  have cl : ∀ a b, a < n → b < n → renM m r p a b < n := fun a b ha hb => R.pl _ (g.cl _ _ (R.rl a ha) (R.rl b hb))
  refine ⟨g.pos, cl, fun a ha => ?_, fun a ha => ?_, fun a b c ha hb hc => ?_, fun a ha => ?_⟩
  · show p (m (r 0) (r a)) = a
    rw [R.z, g.l0 _ (R.rl a ha), R.pr a ha]
  · show p (m (r a) (r 0)) = a
    rw [R.z, g.r0 _ (R.rl a ha), R.pr a ha]
  · show p (m (r (renM m r p a b)) (r c)) = p (m (r a) (r (renM m r p b c)))
    rw [R.r_ren g ha hb, R.r_ren g hb hc, g.as _ _ _ (R.rl a ha) (R.rl b hb) (R.rl c hc)]
  · obtain ⟨b, hb, e⟩ := g.iv (r a) (R.rl a ha)
    refine ⟨p b, R.pl b hb, ?_⟩
    show p (m (r a) (r (p b))) = 0
    rw [R.rp b hb, e, hp0]
theorem Ren.inv (R : Ren n r p) (g : Grp n m) {a : Nat} (ha : a < n) : r (invN n (renM m r p) a) = invN n m (r a) := by
  have g' := R.grp g
  have h1 := g'.invN_eq ha
  have h2 : r (renM m r p a (invN n (renM m r p) a)) = r 0 := by rw [h1]
  rw [R.r_ren g ha (g'.invN_lt ha), R.z] at h2
  exact g.canL (R.rl a ha) (R.rl _ (g'.invN_lt ha)) (g.invN_lt (R.rl a ha)) (h2.trans (g.invN_eq (R.rl a ha)).symm)
theorem Ren.comm (R : Ren n r p) (g : Grp n m) {a b : Nat} (ha : a < n) (hb : b < n) : r (commN n (renM m r p) a b) = commN n m (r a) (r b) := by
  have g' := R.grp g
  unfold commN
  rw [R.r_ren g (g'.invN_lt (g'.cl _ _ hb ha)) (g'.cl _ _ ha hb), R.inv g (g'.cl _ _ hb ha), R.r_ren g hb ha, R.r_ren g ha hb]
theorem Ren.reach (R : Ren n r p) (g : Grp n m) {S S' : List Nat} (hS' : ∀ s ∈ S', s < n) (h : ∀ s ∈ S', r s ∈ S) {x : Nat} (hx : Reach (renM m r p) S' x) : Reach m S (r x) := by
  induction hx with
  | zero => rw [R.z]; exact .zero
  | @step x s hx hs ih =>
    rw [R.r_ren g (hx.lt (R.grp g) hS') (hS' s hs)]
    exact .step ih (h s hs)
theorem Ren.back (R : Ren n r p) (g : Grp n m) : Ren n p r ∧ ∀ a b, a < n → b < n → renM (renM m r p) p r a b = m a b := by
  have hp0 : p 0 = 0 := by have := R.pr 0 g.pos; rwa [R.z] at this
  refine ⟨⟨R.pl, R.rl, R.rp, R.pr, hp0⟩, fun a b ha hb => ?_⟩
  show r (p (m (r (p a)) (r (p b)))) = _
  rw [R.rp a ha, R.rp b hb, R.rp _ (g.cl _ _ ha hb)]
theorem Reach.congr {m' : Nat → Nat → Nat} (g : Grp n m) {S : List Nat} (hS : ∀ s ∈ S, s < n) (e : ∀ a b, a < n → b < n → m' a b = m a b) {x : Nat} (h : Reach m S x) : Reach m' S x := by
  induction h with
  | zero => exact .zero
  | @step x s hx hs ih =>
    rw [← e x s (hx.lt g hS) (hS s hs)]
    exact .step ih hs
theorem Ren.low (R : Ren n r p) (g : Grp n m) : ∀ (k : Nat) {x : Nat}, x < n → (x ∈ low n (renM m r p) k ↔ r x ∈ low n m k)
  | 0, x, hx => ⟨fun _ => List.mem_range.mpr (R.rl x hx), fun _ => List.mem_range.mpr hx⟩
  | k + 1, x, hx => by
    have g' := R.grp g
    rw [low_succ, low_succ, mem_clo, mem_clo]
    have hG : ∀ s, s < n → (s ∈ lowG n (renM m r p) k ↔ r s ∈ lowG n m k) := fun s hs => by
      rw [mem_lowG, mem_lowG]
      constructor
      · rintro ⟨_, a, ha, b, hb, e⟩
        have hbn := low_lt hb
        refine ⟨R.rl s hs, r a, R.rl a ha, r b, (R.low g k hbn).mp hb, ?_⟩
        rw [← R.comm g ha hbn, e]
      · rintro ⟨_, a, ha, b, hb, e⟩
        have hbn := low_lt hb
        refine ⟨hs, p a, R.pl a ha, p b, (R.low g k (R.pl b hbn)).mpr (by rw [R.rp b hbn]; exact hb), ?_⟩
        refine R.inj (g'.comm_lt (R.pl a ha) (R.pl b hbn)) hs ?_
        rw [R.comm g (R.pl a ha) (R.pl b hbn), R.rp a ha, R.rp b hbn, e]
    constructor
    · rintro ⟨_, h⟩
      exact ⟨R.rl x hx, R.reach g (fun s hs => (mem_lowG.mp hs).1) (fun s hs => (hG s (mem_lowG.mp hs).1).mp hs) h⟩
    · rintro ⟨_, h⟩
      refine ⟨hx, ?_⟩
      obtain ⟨R', e⟩ := R.back g
      have h1 : Reach (renM (renM m r p) p r) (lowG n m k) (r x) := h.congr g (fun s hs => (mem_lowG.mp hs).1) e
      have h2 := R'.reach g' (S := lowG n (renM m r p) k) (fun s hs => (mem_lowG.mp hs).1) (fun s hs => (hG _ (R.pl s (mem_lowG.mp hs).1)).mpr (by rw [R.rp s (mem_lowG.mp hs).1]; exact hs)) h1
      rwa [R.pr x hx] at h2
theorem Ren.low_len (R : Ren n r p) (g : Grp n m) (k : Nat) : (DL.low n (renM m r p) k).length = (DL.low n m k).length := by
  apply Nat.le_antisymm
  · have := sub_len (nodup_mapOn (f := r) (fun x hx y hy e => R.inj (low_lt hx) (low_lt hy) e) (low_nd n (renM m r p) k)) (bs := DL.low n m k) fun z hz => by
      obtain ⟨x, hx, rfl⟩ := List.mem_map.mp hz
      exact (R.low g k (low_lt hx)).mp hx
    rwa [List.length_map] at this
  · have := sub_len (nodup_mapOn (f := p) (fun x hx y hy e => by rw [← R.rp x (low_lt hx), ← R.rp y (low_lt hy), e]) (low_nd n m k)) (bs := DL.low n (renM m r p) k) fun z hz => by
      obtain ⟨x, hx, rfl⟩ := List.mem_map.mp hz
      exact (R.low g k (R.pl x (low_lt hx))).mpr (by rw [R.rp x (low_lt hx)]; exact hx)
    rwa [List.length_map] at this
/-! ### the law's renumbering -/
def swapL (xs : List Nat) (i j : Nat) : List Nat := (xs.set i (xs.getD j 0)).set j (xs.getD i 0)
def rankS (nums : List Nat) (xs : List Nat) (i : Nat) : List Nat := swapL xs (1 + i) (1 + nums.getD ((1 + i) % nums.length) 0 % (1 + i))
def rankN (nums : List Nat) (n : Nat) : List Nat := (List.range (n - 1)).foldl (rankS nums) (List.range n)
def placeN (rk : List Nat) (n : Nat) : List Nat := (List.range n).foldl (fun p k => p.set (rk.getD k 0) k) (List.replicate n 0)
structure RkOk (n : Nat) (xs : List Nat) : Prop where
  len : xs.length = n
  lt : ∀ i, i < n → xs.getD i 0 < n
  inj : ∀ i j, i < n → j < n → xs.getD i 0 = xs.getD j 0 → i = j
  z : xs.getD 0 0 = 0
theorem getD_set {xs : List Nat} {i j v : Nat} (h : i < xs.length) : (xs.set i v).getD j 0 = if i = j then v else xs.getD j 0 := by
  rw [List.getD_eq_getElem?_getD, List.getD_eq_getElem?_getD]
  by_cases e : i = j
  · subst e; rw [List.getElem?_set_self h, if_pos rfl]; rfl
  · rw [List.getElem?_set_ne e, if_neg e]
def tau (i j k : Nat) : Nat := if k = j then i else if k = i then j else k
theorem swap_at {xs : List Nat} {i j k : Nat} (hi : i < xs.length) (hj : j < xs.length) : (swapL xs i j).getD k 0 = xs.getD (tau i j k) 0 := by
  unfold swapL tau
  rw [getD_set (by rw [List.length_set]; exact hj), getD_set hi]
  by_cases h1 : k = j
  · rw [if_pos h1.symm, if_pos h1]
  · rw [if_neg (fun e => h1 e.symm), if_neg h1]
    by_cases h2 : k = i
    · rw [if_pos h2.symm, if_pos h2]
    · rw [if_neg (fun e => h2 e.symm), if_neg h2]
theorem RkOk.swap {xs : List Nat} (h : RkOk n xs) {i j : Nat} (hi : i < n) (hj : j < n) (hi0 : 0 < i) (hj0 : 0 < j) : RkOk n (swapL xs i j) := by
  have hi' : i < xs.length := by rw [h.len]; exact hi
  have hj' : j < xs.length := by rw [h.len]; exact hj
  have ht : ∀ k, k < n → tau i j k < n := fun k hk => by unfold tau; split; exact hi; split; exact hj; exact hk
  refine ⟨by unfold swapL; rw [List.length_set, List.length_set, h.len], fun k hk => by rw [swap_at hi' hj']; exact h.lt _ (ht k hk), fun k l hk hl e => ?_, ?_⟩
  · rw [swap_at hi' hj', swap_at hi' hj'] at e
    have := h.inj _ _ (ht k hk) (ht l hl) e
    unfold tau at this
    split at this <;> split at this <;> (try split at this) <;> (try split at this) <;> omega
  · rw [swap_at hi' hj']
    unfold tau
    rw [if_neg (by omega), if_neg (by omega)]
    exact h.z
theorem range_rk : RkOk n (List.range n) := by
  have hg : ∀ i, i < n → (List.range n).getD i 0 = i := fun i hi => by simp [List.getD_eq_getElem?_getD, hi]
  refine ⟨List.length_range, fun i hi => by rw [hg i hi]; exact hi, fun i j hi hj e => by rwa [hg i hi, hg j hj] at e, ?_⟩
  cases n with
  | zero => rfl
  | succ n => exact hg 0 (by omega)
theorem foldl_inv {α β : Type} {f : β → α → β} {p : β → Prop} : ∀ {xs : List α} {b : β}, p b → (∀ x ∈ xs, ∀ b, p b → p (f b x)) → p (xs.foldl f b)
  | [], _, h, _ => h
  | x :: xs, b, h, hs => foldl_inv (xs := xs) (hs x List.mem_cons_self b h) fun y hy => hs y (List.mem_cons_of_mem _ hy)
theorem rank_ok (nums : List Nat) (n : Nat) : RkOk n (rankN nums n) := by
  unfold rankN
  refine foldl_inv range_rk fun i hi xs h => ?_
  have := List.mem_range.mp hi
  have h2 := Nat.mod_lt (nums.getD ((1 + i) % nums.length) 0) (show 0 < 1 + i by omega)
  exact h.swap (by omega) (by omega) (by omega) (by omega)
theorem RkOk.mem {xs : List Nat} (h : RkOk n xs) {x : Nat} (hx : x < n) : ∃ k, k < n ∧ xs.getD k 0 = x := by
  obtain ⟨k, hk, e⟩ := onto_of (f := fun k => xs.getD k 0) (as := List.range n) List.nodup_range (fun i hi j hj e => h.inj i j (List.mem_range.mp hi) (List.mem_range.mp hj) e) (fun i hi => List.mem_range.mpr (h.lt i (List.mem_range.mp hi))) (List.mem_range.mpr hx)
  exact ⟨k, List.mem_range.mp hk, e⟩
theorem place_at {xs : List Nat} (h : RkOk n xs) : ∀ t, t ≤ n → ((List.range t).foldl (fun p k => p.set (xs.getD k 0) k) (List.replicate n 0)).length = n ∧ ∀ k, k < t → ((List.range t).foldl (fun p k => p.set (xs.getD k 0) k) (List.replicate n 0)).getD (xs.getD k 0) 0 = k
  | 0, _ => ⟨by simp, fun k hk => by omega⟩
  | t + 1, ht => by
    obtain ⟨h1, h2⟩ := place_at h t (by omega)
    rw [List.range_succ, List.foldl_append]
    generalize (List.range t).foldl (fun p k => p.set (xs.getD k 0) k) (List.replicate n 0) = q at h1 h2
    refine ⟨by show (q.set _ _).length = n; rw [List.length_set, h1], fun k hk => ?_⟩
    show (q.set (xs.getD t 0) t).getD (xs.getD k 0) 0 = k
    rw [getD_set (by rw [h1]; exact h.lt t (by omega))]
    by_cases e : k = t
    · subst e; rw [if_pos rfl]
    · rw [if_neg (fun q => e (h.inj k t (by omega) (by omega) q.symm))]
      exact h2 k (by omega)
theorem place_ren {xs : List Nat} (h : RkOk n xs) (hn : 0 < n) : Ren n (fun i => xs.getD i 0) (fun i => (placeN xs n).getD i 0) := by
  obtain ⟨h1, h2⟩ := place_at h n (Nat.le_refl _)
  have hp : ∀ k, k < n → (placeN xs n).getD (xs.getD k 0) 0 = k := h2
  refine ⟨h.lt, fun i hi => ?_, hp, fun i hi => ?_, h.z⟩
  · obtain ⟨k, hk, e⟩ := h.mem hi
    show (placeN xs n).getD i 0 < n
    rw [← e, hp k hk]; exact hk
  · obtain ⟨k, hk, e⟩ := h.mem hi
    show xs.getD ((placeN xs n).getD i 0) 0 = i
    rw [← e, hp k hk]
end
end DL
namespace DL
/-! ### the groups of the menu -/
def movL : Nat → List (List Nat)
  | 0 => [[0]]
  | 1 => [[0, 1], [1, 0]]
  | 2 => [[0, 1, 2], [1, 2, 0], [2, 0, 1]]
  | 3 => [[0, 1, 2, 3], [1, 2, 3, 0], [2, 3, 0, 1], [3, 0, 1, 2]]
  | 4 => [[0, 1, 2, 3], [0, 1, 3, 2], [1, 0, 2, 3], [1, 0, 3, 2]]
  | 5 => [[0, 1, 2, 3, 4], [1, 2, 3, 4, 0], [2, 3, 4, 0, 1], [3, 4, 0, 1, 2], [4, 0, 1, 2, 3]]
  | 6 => [[0, 1, 2], [0, 2, 1], [1, 0, 2], [1, 2, 0], [2, 0, 1], [2, 1, 0]]
  | 7 => [[0, 1, 2, 3, 4], [0, 1, 2, 4, 3], [1, 2, 0, 3, 4], [1, 2, 0, 4, 3], [2, 0, 1, 3, 4], [2, 0, 1, 4, 3]]
  | 8 => [[0, 1, 2, 3], [0, 3, 2, 1], [1, 0, 3, 2], [1, 2, 3, 0], [2, 1, 0, 3], [2, 3, 0, 1], [3, 0, 1, 2], [3, 2, 1, 0]]
  | 9 => [[0, 1, 2, 3, 4, 5, 6, 7], [1, 0, 3, 2, 5, 4, 7, 6], [2, 3, 1, 0, 7, 6, 4, 5], [3, 2, 0, 1, 6, 7, 5, 4], [4, 5, 6, 7, 1, 0, 3, 2], [5, 4, 7, 6, 0, 1, 2, 3], [6, 7, 5, 4, 2, 3, 1, 0], [7, 6, 4, 5, 3, 2, 0, 1]]
  | 10 => [[0, 1, 2, 3, 4, 5], [0, 1, 2, 3, 5, 4], [1, 2, 3, 0, 4, 5], [1, 2, 3, 0, 5, 4], [2, 3, 0, 1, 4, 5], [2, 3, 0, 1, 5, 4], [3, 0, 1, 2, 4, 5], [3, 0, 1, 2, 5, 4]]
  | 11 => [[0, 1, 2, 3, 4, 5], [0, 1, 2, 3, 5, 4], [0, 1, 3, 2, 4, 5], [0, 1, 3, 2, 5, 4], [1, 0, 2, 3, 4, 5], [1, 0, 2, 3, 5, 4], [1, 0, 3, 2, 4, 5], [1, 0, 3, 2, 5, 4]]
  | 12 => [[0, 1, 2, 3, 4, 5, 6, 7], [1, 2, 3, 4, 5, 6, 7, 0], [2, 3, 4, 5, 6, 7, 0, 1], [3, 4, 5, 6, 7, 0, 1, 2], [4, 5, 6, 7, 0, 1, 2, 3], [5, 6, 7, 0, 1, 2, 3, 4], [6, 7, 0, 1, 2, 3, 4, 5], [7, 0, 1, 2, 3, 4, 5, 6]]
  | 13 => [[0, 1, 2, 3, 4, 5], [0, 1, 2, 4, 5, 3], [0, 1, 2, 5, 3, 4], [1, 2, 0, 3, 4, 5], [1, 2, 0, 4, 5, 3], [1, 2, 0, 5, 3, 4], [2, 0, 1, 3, 4, 5], [2, 0, 1, 4, 5, 3], [2, 0, 1, 5, 3, 4]]
  | 14 => [[0, 1, 2, 3, 4], [0, 4, 3, 2, 1], [1, 0, 4, 3, 2], [1, 2, 3, 4, 0], [2, 1, 0, 4, 3], [2, 3, 4, 0, 1], [3, 2, 1, 0, 4], [3, 4, 0, 1, 2], [4, 0, 1, 2, 3], [4, 3, 2, 1, 0]]
  | 15 => [[0, 1, 2, 3], [0, 2, 3, 1], [0, 3, 1, 2], [1, 0, 3, 2], [1, 2, 0, 3], [1, 3, 2, 0], [2, 0, 1, 3], [2, 1, 3, 0], [2, 3, 0, 1], [3, 0, 2, 1], [3, 1, 0, 2], [3, 2, 1, 0]]
  | 18 => [[0, 1, 2, 3, 4, 5, 6, 7], [0, 7, 6, 5, 4, 3, 2, 1], [1, 0, 7, 6, 5, 4, 3, 2], [1, 2, 3, 4, 5, 6, 7, 0], [2, 1, 0, 7, 6, 5, 4, 3], [2, 3, 4, 5, 6, 7, 0, 1], [3, 2, 1, 0, 7, 6, 5, 4], [3, 4, 5, 6, 7, 0, 1, 2], [4, 3, 2, 1, 0, 7, 6, 5], [4, 5, 6, 7, 0, 1, 2, 3], [5, 4, 3, 2, 1, 0, 7, 6], [5, 6, 7, 0, 1, 2, 3, 4], [6, 5, 4, 3, 2, 1, 0, 7], [6, 7, 0, 1, 2, 3, 4, 5], [7, 0, 1, 2, 3, 4, 5, 6], [7, 6, 5, 4, 3, 2, 1, 0]]
  | _ => [[0]]
def tabL : Nat → List (List Nat)
  | 0 => [[0]]
  | 1 => [[0, 1], [1, 0]]
  | 2 => [[0, 1, 2], [1, 2, 0], [2, 0, 1]]
  | 3 => [[0, 1, 2, 3], [1, 2, 3, 0], [2, 3, 0, 1], [3, 0, 1, 2]]
  | 4 => [[0, 1, 2, 3], [1, 0, 3, 2], [2, 3, 0, 1], [3, 2, 1, 0]]
  | 5 => [[0, 1, 2, 3, 4], [1, 2, 3, 4, 0], [2, 3, 4, 0, 1], [3, 4, 0, 1, 2], [4, 0, 1, 2, 3]]
  | 6 => [[0, 1, 2, 3, 4, 5], [1, 0, 3, 2, 5, 4], [2, 4, 0, 5, 1, 3], [3, 5, 1, 4, 0, 2], [4, 2, 5, 0, 3, 1], [5, 3, 4, 1, 2, 0]]
  | 7 => [[0, 1, 2, 3, 4, 5], [1, 0, 3, 2, 5, 4], [2, 3, 4, 5, 0, 1], [3, 2, 5, 4, 1, 0], [4, 5, 0, 1, 2, 3], [5, 4, 1, 0, 3, 2]]
  | 8 => [[0, 1, 2, 3, 4, 5, 6, 7], [1, 0, 3, 2, 5, 4, 7, 6], [2, 6, 0, 4, 3, 7, 1, 5], [3, 7, 1, 5, 2, 6, 0, 4], [4, 5, 6, 7, 0, 1, 2, 3], [5, 4, 7, 6, 1, 0, 3, 2], [6, 2, 4, 0, 7, 3, 5, 1], [7, 3, 5, 1, 6, 2, 4, 0]]
  | 9 => [[0, 1, 2, 3, 4, 5, 6, 7], [1, 0, 3, 2, 5, 4, 7, 6], [2, 3, 1, 0, 6, 7, 5, 4], [3, 2, 0, 1, 7, 6, 4, 5], [4, 5, 7, 6, 1, 0, 2, 3], [5, 4, 6, 7, 0, 1, 3, 2], [6, 7, 4, 5, 3, 2, 1, 0], [7, 6, 5, 4, 2, 3, 0, 1]]
  | 10 => [[0, 1, 2, 3, 4, 5, 6, 7], [1, 0, 3, 2, 5, 4, 7, 6], [2, 3, 4, 5, 6, 7, 0, 1], [3, 2, 5, 4, 7, 6, 1, 0], [4, 5, 6, 7, 0, 1, 2, 3], [5, 4, 7, 6, 1, 0, 3, 2], [6, 7, 0, 1, 2, 3, 4, 5], [7, 6, 1, 0, 3, 2, 5, 4]]
  | 11 => [[0, 1, 2, 3, 4, 5, 6, 7], [1, 0, 3, 2, 5, 4, 7, 6], [2, 3, 0, 1, 6, 7, 4, 5], [3, 2, 1, 0, 7, 6, 5, 4], [4, 5, 6, 7, 0, 1, 2, 3], [5, 4, 7, 6, 1, 0, 3, 2], [6, 7, 4, 5, 2, 3, 0, 1], [7, 6, 5, 4, 3, 2, 1, 0]]
  | 12 => [[0, 1, 2, 3, 4, 5, 6, 7], [1, 2, 3, 4, 5, 6, 7, 0], [2, 3, 4, 5, 6, 7, 0, 1], [3, 4, 5, 6, 7, 0, 1, 2], [4, 5, 6, 7, 0, 1, 2, 3], [5, 6, 7, 0, 1, 2, 3, 4], [6, 7, 0, 1, 2, 3, 4, 5], [7, 0, 1, 2, 3, 4, 5, 6]]
  | 13 => [[0, 1, 2, 3, 4, 5, 6, 7, 8], [1, 2, 0, 4, 5, 3, 7, 8, 6], [2, 0, 1, 5, 3, 4, 8, 6, 7], [3, 4, 5, 6, 7, 8, 0, 1, 2], [4, 5, 3, 7, 8, 6, 1, 2, 0], [5, 3, 4, 8, 6, 7, 2, 0, 1], [6, 7, 8, 0, 1, 2, 3, 4, 5], [7, 8, 6, 1, 2, 0, 4, 5, 3], [8, 6, 7, 2, 0, 1, 5, 3, 4]]
  | 14 => [[0, 1, 2, 3, 4, 5, 6, 7, 8, 9], [1, 0, 3, 2, 5, 4, 7, 6, 9, 8], [2, 8, 0, 4, 3, 6, 5, 9, 1, 7], [3, 9, 1, 5, 2, 7, 4, 8, 0, 6], [4, 7, 8, 6, 0, 9, 3, 1, 2, 5], [5, 6, 9, 7, 1, 8, 2, 0, 3, 4], [6, 5, 7, 9, 8, 1, 0, 2, 4, 3], [7, 4, 6, 8, 9, 0, 1, 3, 5, 2], [8, 2, 4, 0, 6, 3, 9, 5, 7, 1], [9, 3, 5, 1, 7, 2, 8, 4, 6, 0]]
  | 15 => [[0, 1, 2, 3, 4, 5, 6, 7, 8, 9, 10, 11], [1, 2, 0, 5, 3, 4, 7, 8, 6, 11, 9, 10], [2, 0, 1, 4, 5, 3, 8, 6, 7, 10, 11, 9], [3, 6, 9, 0, 7, 10, 1, 4, 11, 2, 5, 8], [4, 8, 10, 2, 6, 11, 0, 5, 9, 1, 3, 7], [5, 7, 11, 1, 8, 9, 2, 3, 10, 0, 4, 6], [6, 9, 3, 10, 0, 7, 4, 11, 1, 8, 2, 5], [7, 11, 5, 9, 1, 8, 3, 10, 2, 6, 0, 4], [8, 10, 4, 11, 2, 6, 5, 9, 0, 7, 1, 3], [9, 3, 6, 7, 10, 0, 11, 1, 4, 5, 8, 2], [10, 4, 8, 6, 11, 2, 9, 0, 5, 3, 7, 1], [11, 5, 7, 8, 9, 1, 10, 2, 3, 4, 6, 0]]
  | 18 => [[0, 1, 2, 3, 4, 5, 6, 7, 8, 9, 10, 11, 12, 13, 14, 15], [1, 0, 3, 2, 5, 4, 7, 6, 9, 8, 11, 10, 13, 12, 15, 14], [2, 14, 0, 4, 3, 6, 5, 8, 7, 10, 9, 12, 11, 15, 1, 13], [3, 15, 1, 5, 2, 7, 4, 9, 6, 11, 8, 13, 10, 14, 0, 12], [4, 13, 14, 6, 0, 8, 3, 10, 5, 12, 7, 15, 9, 1, 2, 11], [5, 12, 15, 7, 1, 9, 2, 11, 4, 13, 6, 14, 8, 0, 3, 10], [6, 11, 13, 8, 14, 10, 0, 12, 3, 15, 5, 1, 7, 2, 4, 9], [7, 10, 12, 9, 15, 11, 1, 13, 2, 14, 4, 0, 6, 3, 5, 8], [8, 9, 11, 10, 13, 12, 14, 15, 0, 1, 3, 2, 5, 4, 6, 7], [9, 8, 10, 11, 12, 13, 15, 14, 1, 0, 2, 3, 4, 5, 7, 6], [10, 7, 9, 12, 11, 15, 13, 1, 14, 2, 0, 4, 3, 6, 8, 5], [11, 6, 8, 13, 10, 14, 12, 0, 15, 3, 1, 5, 2, 7, 9, 4], [12, 5, 7, 15, 9, 1, 11, 2, 13, 4, 14, 6, 0, 8, 10, 3], [13, 4, 6, 14, 8, 0, 10, 3, 12, 5, 15, 7, 1, 9, 11, 2], [14, 2, 4, 0, 6, 3, 8, 5, 10, 7, 12, 9, 15, 11, 13, 1], [15, 3, 5, 1, 7, 2, 9, 4, 11, 6, 13, 8, 14, 10, 12, 0]]
  | _ => [[0]]
def genL : Nat → List (List Nat)
  | 0 => [[0]]
  | 1 => [[1, 0]]
  | 2 => [[1, 2, 0]]
  | 3 => [[1, 2, 3, 0]]
  | 4 => [[1, 0, 2, 3], [0, 1, 3, 2]]
  | 5 => [[1, 2, 3, 4, 0]]
  | 6 => [[1, 2, 0], [1, 0, 2]]
  | 7 => [[1, 2, 0, 3, 4], [0, 1, 2, 4, 3]]
  | 8 => [[1, 2, 3, 0], [0, 3, 2, 1]]
  | 9 => [[2, 3, 1, 0, 7, 6, 4, 5], [4, 5, 6, 7, 1, 0, 3, 2]]
  | 10 => [[1, 2, 3, 0, 4, 5], [0, 1, 2, 3, 5, 4]]
  | 11 => [[1, 0, 2, 3, 4, 5], [0, 1, 3, 2, 4, 5], [0, 1, 2, 3, 5, 4]]
  | 12 => [[1, 2, 3, 4, 5, 6, 7, 0]]
  | 13 => [[1, 2, 0, 3, 4, 5], [0, 1, 2, 4, 5, 3]]
  | 14 => [[1, 2, 3, 4, 0], [0, 4, 3, 2, 1]]
  | 15 => [[1, 2, 0, 3], [1, 0, 3, 2]]
  | 18 => [[1, 2, 3, 4, 5, 6, 7, 0], [0, 7, 6, 5, 4, 3, 2, 1]]
  | _ => [[0]]
def grN (c : Nat) : Nat := (tabL c).length
def grM (c a b : Nat) : Nat := ((tabL c).getD a []).getD b 0
/-- the choices of the menu that are taken -/
def chL : List Nat := [0, 1, 2, 3, 4, 5, 6, 7, 8, 9, 10, 11, 12, 13, 14, 15, 18]
def chkG (n : Nat) (m : Nat → Nat → Nat) : Bool :=
  decide (0 < n) && ((List.range n).all fun a => (List.range n).all fun b => decide (m a b < n) && (List.range n).all fun c => decide (m (m a b) c = m a (m b c))) &&
    (List.range n).all fun a => decide (m 0 a = a) && decide (m a 0 = a) && (List.range n).any fun b => decide (m a b = 0)
theorem grp_of {n : Nat} {m : Nat → Nat → Nat} (h : chkG n m = true) : Grp n m := by
  unfold chkG at h
  simp only [Bool.and_eq_true, List.all_eq_true, List.any_eq_true, decide_eq_true_eq, List.mem_range] at h
  obtain ⟨⟨h0, h1⟩, h2⟩ := h
  exact ⟨h0, fun a b ha hb => (h1 a ha b hb).1, fun a ha => (h2 a ha).1.1, fun a ha => (h2 a ha).1.2, fun a b c ha hb hc => (h1 a ha b hb).2 c hc, fun a ha => (h2 a ha).2⟩
theorem gr_all : chL.all (fun c => chkG (grN c) (grM c)) = true := by decide +kernel
theorem gr_grp {c : Nat} (h : c ∈ chL) : Grp (grN c) (grM c) := grp_of (List.all_eq_true.mp gr_all c h)
theorem gr_few {c : Nat} (h : c ∈ chL) : grN c ≤ 16 := by
  have : chL.all (fun c => decide (grN c ≤ 16)) = true := by decide +kernel
  exact of_decide_eq_true (List.all_eq_true.mp this c h)
/-! what is known of single groups -/
section
variable {n : Nat} {m : Nat → Nat → Nat}
theorem low_one_of (g : Grp n m) {a b : Nat} (ha : a < n) (hb : b < n) : commN n m a b ∈ low n m 1 := by
  rw [low_succ, mem_clo]
  have hc := g.comm_lt ha hb
  refine ⟨hc, ?_⟩
  have : Reach m (lowG n m 0) (m 0 (commN n m a b)) := .step .zero (mem_lowG.mpr ⟨hc, a, ha, b, List.mem_range.mpr hb, rfl⟩)
  rwa [g.l0 _ hc] at this
theorem low_one_ge (g : Grp n m) {L : List Nat} (hd : L.Nodup) (h : ∀ x ∈ L, ∃ a, a < n ∧ ∃ b, b < n ∧ commN n m a b = x) : L.length ≤ (low n m 1).length :=
  sub_len hd fun x hx => by
    obtain ⟨a, ha, b, hb, rfl⟩ := h x hx
    exact low_one_of g ha hb
theorem reach_in {S L : List Nat} (h0 : 0 ∈ L) (hs : ∀ x ∈ L, ∀ s ∈ S, m x s ∈ L) {x : Nat} (h : Reach m S x) : x ∈ L := by
  induction h with
  | zero => exact h0
  | step _ hs' ih => exact hs _ ih _ hs'
theorem low_one_le {L : List Nat} (h0 : 0 ∈ L) (h : ∀ x ∈ L, ∀ a, a < n → ∀ b, b < n → m x (commN n m a b) ∈ L) : (low n m 1).length ≤ L.length :=
  sub_len (low_nd n m 1) fun x hx => by
    rw [low_succ, mem_clo] at hx
    refine reach_in h0 (fun y hy s hs => ?_) hx.2
    obtain ⟨_, a, ha, b, hb, rfl⟩ := mem_lowG.mp hs
    exact h y hy a ha b (List.mem_range.mp hb)
def chkGe (n : Nat) (m : Nat → Nat → Nat) (L : List Nat) : Bool := decide L.Nodup && L.all fun x => (List.range n).any fun a => (List.range n).any fun b => decide (commN n m a b = x)
theorem ge_of (g : Grp n m) {L : List Nat} (h : chkGe n m L = true) : L.length ≤ (low n m 1).length := by
  unfold chkGe at h
  simp only [Bool.and_eq_true, List.all_eq_true, List.any_eq_true, decide_eq_true_eq, List.mem_range] at h
  exact low_one_ge g h.1 h.2
def chkLe (n : Nat) (m : Nat → Nat → Nat) (L : List Nat) : Bool := decide (0 ∈ L) && L.all fun x => (List.range n).all fun a => (List.range n).all fun b => decide (m x (commN n m a b) ∈ L)
theorem le_of {L : List Nat} (h : chkLe n m L = true) : (low n m 1).length ≤ L.length := by
  unfold chkLe at h
  simp only [Bool.and_eq_true, List.all_eq_true, decide_eq_true_eq, List.mem_range] at h
  exact low_one_le h.1 h.2
end
def comL (c : Nat) : List Nat := ((List.range (grN c)).flatMap fun a => (List.range (grN c)).map fun b => commN (grN c) (grM c) a b).eraseDups
theorem ge8 : 2 ≤ (low (grN 8) (grM 8) 1).length := ge_of (L := (comL 8).take 2) (gr_grp (by decide)) (by decide +kernel)
theorem ge9 : 2 ≤ (low (grN 9) (grM 9) 1).length := ge_of (L := (comL 9).take 2) (gr_grp (by decide)) (by decide +kernel)
theorem ge6 : 3 ≤ (low (grN 6) (grM 6) 1).length := ge_of (L := (comL 6).take 3) (gr_grp (by decide)) (by decide +kernel)
theorem ge14 : 2 ≤ (low (grN 14) (grM 14) 1).length := ge_of (L := (comL 14).take 2) (gr_grp (by decide)) (by decide +kernel)
theorem le18 : (low (grN 18) (grM 18) 1).length ≤ 4 := le_of (L := comL 18) (by decide +kernel)
/-! commuting groups -/
theorem cyc_grp {n : Nat} (h : 0 < n) : Grp n (cycM n) := by
  refine ⟨h, fun a b _ _ => Nat.mod_lt _ h, fun a ha => ?_, fun a ha => ?_, fun a b c _ _ _ => ?_, fun a ha => ?_⟩
  · show (0 + a) % n = a; rw [Nat.zero_add, Nat.mod_eq_of_lt ha]
  · show (a + 0) % n = a; rw [Nat.add_zero, Nat.mod_eq_of_lt ha]
  · show ((a + b) % n + c) % n = (a + (b + c) % n) % n
    rw [Nat.mod_add_mod, Nat.add_mod_mod, Nat.add_assoc]
  · cases a with
    | zero => exact ⟨0, h, by show (0 + 0) % n = 0; simp⟩
    | succ a => exact ⟨n - (a + 1), by omega, by show (a + 1 + (n - (a + 1))) % n = 0; rw [show a + 1 + (n - (a + 1)) = n by omega, Nat.mod_self]⟩
theorem comm_one {n : Nat} {m : Nat → Nat → Nat} (g : Grp n m) (hc : ∀ a b, a < n → b < n → m a b = m b a) (k : Nat) : (low n m (k + 1)).length = 1 := by
  have h1 : ∀ x ∈ low n m (k + 1), x ∈ [0] := fun x hx => by
    rw [low_succ, mem_clo] at hx
    refine reach_in (by simp) (fun y hy s hs => ?_) hx.2
    obtain ⟨_, a, ha, b, hb, rfl⟩ := mem_lowG.mp hs
    have hb' := low_lt hb
    rw [List.mem_singleton.mp hy]
    have : commN n m a b = 0 := by
      unfold commN
      rw [hc b a hb' ha, g.inv_l (g.cl _ _ ha hb')]
    rw [this, g.l0 _ g.pos]
    simp
  have := sub_len (low_nd n m (k + 1)) h1
  have h2 := low_pos (m := m) g.pos (k + 1)
  simp at this
  omega
theorem cyc_one {n : Nat} (h : 0 < n) (k : Nat) : (low n (cycM n) (k + 1)).length = 1 := comm_one (cyc_grp h) (fun a b _ _ => by show (a + b) % n = (b + a) % n; rw [Nat.add_comm]) k
end DL
namespace DL
/-! ### how the menu's groups are made -/
def compN (mv a : List Nat) : List Nat := a.map fun x => mv.getD x 0
def stepC1 (a : List Nat) (fnd : List (List Nat)) (mv : List Nat) : List (List Nat) := if compN mv a ∈ fnd then fnd else fnd ++ [compN mv a]
def stepC (gens : List (List Nat)) (fnd : List (List Nat)) (k : Nat) : List (List Nat) := if k < fnd.length then gens.foldl (stepC1 (fnd.getD k [])) fnd else fnd
def closeF (gens : List (List Nat)) : List (List Nat) := (List.range 60).foldl (stepC gens) [List.range (gens.getD 0 []).length]
def codeK : List Nat → Nat
  | [] => 0
  | d :: r => d * 16 ^ r.length + codeK r
def posM (mv : List (List Nat)) (i j : Nat) : Nat := mv.findIdx fun z => z == compN (mv.getD j []) (mv.getD i [])
def ptsN (c : Nat) : Nat := ((genL c).getD 0 []).length
def shapedB (p : Nat) (rows : List (List Nat)) : Bool := rows.all fun r => decide (r.length = p) && r.all fun x => decide (x < p)
def chkM (c : Nat) : Bool :=
  decide (0 < (genL c).length) && decide (0 < ptsN c) && decide (ptsN c ≤ 8) && shapedB (ptsN c) (genL c) && shapedB (ptsN c) (movL c) &&
  decide ((movL c).Perm (closeF (genL c))) && decide (((movL c).map codeK).Pairwise (· < ·)) &&
  ((movL c).all fun a => (movL c).all fun b => decide (compN b a ∈ movL c)) &&
  decide (((List.range (movL c).length).map fun i => (List.range (movL c).length).map (posM (movL c) i)) = tabL c) &&
  decide ((closeF (genL c)).length ≤ 60) && decide ((movL c).length = grN c) && (tabL c).all fun r => decide (r.length = grN c)
set_option maxHeartbeats 4000000 in
theorem chk_all : chL.all chkM = true := by decide +kernel
structure Menu (c : Nat) : Prop where
  g0 : 0 < (genL c).length
  p0 : 0 < ptsN c
  p8 : ptsN c ≤ 8
  gs : ∀ r ∈ genL c, r.length = ptsN c ∧ ∀ x ∈ r, x < ptsN c
  ms : ∀ r ∈ movL c, r.length = ptsN c ∧ ∀ x ∈ r, x < ptsN c
  pm : (movL c).Perm (closeF (genL c))
  pw : ((movL c).map codeK).Pairwise (· < ·)
  cl : ∀ a ∈ movL c, ∀ b ∈ movL c, compN b a ∈ movL c
  tb : ((List.range (movL c).length).map fun i => (List.range (movL c).length).map (posM (movL c) i)) = tabL c
  few : (closeF (genL c)).length ≤ 60
  len : (movL c).length = grN c
  sq : ∀ r ∈ tabL c, r.length = grN c
theorem menu_of {c : Nat} (h : c ∈ chL) : Menu c := by
  have := List.all_eq_true.mp chk_all c h
  unfold chkM shapedB at this
  simp only [Bool.and_eq_true, List.all_eq_true, decide_eq_true_eq] at this
  obtain ⟨⟨⟨⟨⟨⟨⟨⟨⟨⟨⟨a1, a2⟩, a3⟩, a4⟩, a5⟩, a6⟩, a7⟩, a8⟩, a9⟩, a10⟩, a11⟩, a12⟩ := this
  exact ⟨a1, a2, a3, a4, a5, a6, a7, a8, a9, a10, a11, a12⟩
/-- the table that _law_table makes -/
theorem menu_tab {c : Nat} (h : c ∈ chL) : ((List.range (movL c).length).map fun i => (List.range (movL c).length).map (posM (movL c) i)) = (List.range (grN c)).map fun a => (List.range (grN c)).map (grM c a) := by
  have M := menu_of h
  rw [M.tb]
  have hl : (tabL c).length = grN c := rfl
  apply List.ext_getElem
  · simp [hl]
  · intro i h1 h2
    rw [List.getElem_map, List.getElem_range]
    have hr := M.sq _ (List.getElem_mem h1)
    apply List.ext_getElem
    · simp [hr]
    · intro j h3 h4
      rw [List.getElem_map, List.getElem_range]
      unfold grM
      simp [List.getD_eq_getElem?_getD, List.getElem?_eq_getElem h1, List.getElem?_eq_getElem h3]
theorem codeK_inj {rows : List (List Nat)} (h : (rows.map codeK).Pairwise (· < ·)) : rows.Nodup := by
  rw [List.pairwise_map] at h
  exact h.imp fun {a b} q e => by rw [e] at q; omega
end DL
namespace DL
/-! ### the shapes -/
def shL : List (List Nat) := [[], [2], [3], [4], [2, 2], [2, 3], [2, 4], [3, 2], [3, 3], [3, 4], [4, 2], [4, 3], [4, 4], [2, 2, 2], [2, 2, 3], [2, 2, 4], [2, 3, 2], [2, 4, 2], [3, 2, 2], [4, 2, 2], [2, 2, 2, 2]]
def litI : List Nat → List (List Int)
  | [] => [[]]
  | [2] => [[0], [1]]
  | [3] => [[0], [1], [2]]
  | [4] => [[0], [1], [2], [3]]
  | [2, 2] => [[0, 0], [0, 1], [1, 0], [1, 1]]
  | [2, 3] => [[0, 0], [0, 1], [0, 2], [1, 0], [1, 1], [1, 2]]
  | [2, 4] => [[0, 0], [0, 1], [0, 2], [0, 3], [1, 0], [1, 1], [1, 2], [1, 3]]
  | [3, 2] => [[0, 0], [0, 1], [1, 0], [2, 0], [1, 1], [2, 1]]
  | [3, 3] => [[0, 0], [0, 1], [0, 2], [1, 0], [2, 0], [1, 1], [1, 2], [2, 1], [2, 2]]
  | [3, 4] => [[0, 0], [0, 1], [0, 2], [0, 3], [1, 0], [2, 0], [1, 1], [1, 2], [1, 3], [2, 1], [2, 2], [2, 3]]
  | [4, 2] => [[0, 0], [0, 1], [1, 0], [2, 0], [3, 0], [1, 1], [2, 1], [3, 1]]
  | [4, 3] => [[0, 0], [0, 1], [0, 2], [1, 0], [2, 0], [3, 0], [1, 1], [1, 2], [2, 1], [2, 2], [3, 1], [3, 2]]
  | [4, 4] => [[0, 0], [0, 1], [0, 2], [0, 3], [1, 0], [2, 0], [3, 0], [1, 1], [1, 2], [1, 3], [2, 1], [2, 2], [2, 3], [3, 1], [3, 2], [3, 3]]
  | [2, 2, 2] => [[0, 0, 0], [0, 0, 1], [0, 1, 0], [1, 0, 0], [0, 1, 1], [1, 0, 1], [1, 1, 0], [1, 1, 1]]
  | [2, 2, 3] => [[0, 0, 0], [0, 0, 1], [0, 0, 2], [0, 1, 0], [1, 0, 0], [0, 1, 1], [0, 1, 2], [1, 0, 1], [1, 0, 2], [1, 1, 0], [1, 1, 1], [1, 1, 2]]
  | [2, 2, 4] => [[0, 0, 0], [0, 0, 1], [0, 0, 2], [0, 0, 3], [0, 1, 0], [1, 0, 0], [0, 1, 1], [0, 1, 2], [0, 1, 3], [1, 0, 1], [1, 0, 2], [1, 0, 3], [1, 1, 0], [1, 1, 1], [1, 1, 2], [1, 1, 3]]
  | [2, 3, 2] => [[0, 0, 0], [0, 0, 1], [0, 1, 0], [0, 2, 0], [1, 0, 0], [0, 1, 1], [0, 2, 1], [1, 0, 1], [1, 1, 0], [1, 2, 0], [1, 1, 1], [1, 2, 1]]
  | [2, 4, 2] => [[0, 0, 0], [0, 0, 1], [0, 1, 0], [0, 2, 0], [0, 3, 0], [1, 0, 0], [0, 1, 1], [0, 2, 1], [0, 3, 1], [1, 0, 1], [1, 1, 0], [1, 2, 0], [1, 3, 0], [1, 1, 1], [1, 2, 1], [1, 3, 1]]
  | [3, 2, 2] => [[0, 0, 0], [0, 0, 1], [0, 1, 0], [1, 0, 0], [2, 0, 0], [0, 1, 1], [1, 0, 1], [1, 1, 0], [2, 0, 1], [2, 1, 0], [1, 1, 1], [2, 1, 1]]
  | [4, 2, 2] => [[0, 0, 0], [0, 0, 1], [0, 1, 0], [1, 0, 0], [2, 0, 0], [3, 0, 0], [0, 1, 1], [1, 0, 1], [1, 1, 0], [2, 0, 1], [2, 1, 0], [3, 0, 1], [3, 1, 0], [1, 1, 1], [2, 1, 1], [3, 1, 1]]
  | [2, 2, 2, 2] => [[0, 0, 0, 0], [0, 0, 0, 1], [0, 0, 1, 0], [0, 1, 0, 0], [1, 0, 0, 0], [0, 0, 1, 1], [0, 1, 0, 1], [0, 1, 1, 0], [1, 0, 0, 1], [1, 0, 1, 0], [1, 1, 0, 0], [0, 1, 1, 1], [1, 0, 1, 1], [1, 1, 0, 1], [1, 1, 1, 0], [1, 1, 1, 1]]
  | _ => [[]]
/-- one input by its number, the first place first -/
def digN : List Nat → Nat → List Int
  | [], _ => []
  | k :: ks, r => ((r % k : Nat) : Int) :: digN ks (r / k)
def gridN (sh : List Nat) : List (List Int) := (List.range (prodN sh)).map (digN sh)
/-- the order of the inputs -/
def inLt (a b : List Int) : Bool := decide (wtN a < wtN b) || (decide (wtN a = wtN b) && decide (a < b))
def chkS (sh : List Nat) : Bool :=
  shOk sh && decide ((litI sh).Perm (gridN sh)) && decide ((litI sh).Perm (genP sh.length sh)) && decide ((litI sh).Pairwise fun a b => inLt a b = true) &&
  ((List.range 5).all fun i => decide ((genP sh.length (sh.take i)).length < 10000) && (genP sh.length (sh.take i)).all fun r => decide (r.length ≤ 100)) && decide (sh.length ≤ 4) &&
  decide ((litI sh).length = prodN sh) && decide (0 < prodN sh) && decide (prodN sh ≤ 16) && ((litI sh).all fun s => decide (s.length = sh.length) && decide (wtN s ≤ 4)) && decide ((litI sh).head? = some (List.replicate sh.length 0)) && decide (sh.dropLast ∈ shL) &&
  ([2, 3, 4].all fun k => !decide (prodN sh * k ≤ 16) || decide (sh ++ [k] ∈ shL))
set_option maxHeartbeats 4000000 in
theorem chkS_all : shL.all chkS = true := by decide +kernel
structure Shp (sh : List Nat) : Prop where
  ok : shOk sh = true
  pg : (litI sh).Perm (gridN sh)
  pp : (litI sh).Perm (genP sh.length sh)
  pw : (litI sh).Pairwise fun a b => inLt a b = true
  sz : ∀ i, (genP sh.length (sh.take i)).length < 10000 ∧ ∀ r ∈ genP sh.length (sh.take i), r.length ≤ 100
  l4 : sh.length ≤ 4
  len : (litI sh).length = prodN sh
  pos : 0 < prodN sh
  few : prodN sh ≤ 16
  each : ∀ s ∈ litI sh, s.length = sh.length ∧ wtN s ≤ 4
  head : (litI sh).head? = some (List.replicate sh.length 0)
  cut : sh.dropLast ∈ shL
  more : ∀ k, 2 ≤ k → k ≤ 4 → prodN sh * k ≤ 16 → sh ++ [k] ∈ shL
theorem shp_of {sh : List Nat} (h : sh ∈ shL) : Shp sh := by
  have := List.all_eq_true.mp chkS_all sh h
  unfold chkS at this
  simp only [Bool.and_eq_true, List.all_eq_true, decide_eq_true_eq, List.mem_range, Bool.or_eq_true, Bool.not_eq_true', decide_eq_false_iff_not] at this
  obtain ⟨⟨⟨⟨⟨⟨⟨⟨⟨⟨⟨⟨a1, a2⟩, a3⟩, a4⟩, a5⟩, a6⟩, a7⟩, a8⟩, a9⟩, a10⟩, a11⟩, a12⟩, a13⟩ := this
  refine ⟨a1, a2, a3, a4, fun i => ?_, a6, a7, a8, a9, a10, a11, a12, fun k h1 h2 h3 => ?_⟩
  · by_cases hi : i < 5
    · exact a5 i hi
    · have := a5 4 (by omega)
      rw [List.take_of_length_le (by omega)] at this ⊢
      exact this
  · rcases a13 k (by
      have : k = 2 ∨ k = 3 ∨ k = 4 := by omega
      rcases this with h | h | h <;> subst h <;> simp) with q | q
    · exact absurd h3 q
    · exact q
/-! the law's shapes -/
def manyN (x : Nat) : Nat := if x % 4 = 1 then 2 + x / 4 % 3 else 2
def wideS (nums : List Nat) (most : Nat) (p : List Nat × Nat) (k : Nat) : List Nat × Nat := if p.2 * manyN (nums.getD (1 + k) 0) ≤ most then (p.1 ++ [manyN (nums.getD (1 + k) 0)], p.2 * manyN (nums.getD (1 + k) 0)) else p
def wideN (nums : List Nat) (most : Nat) : List Nat := ((List.range (nums.getD 0 0 % 8)).foldl (wideS nums most) ([], 1)).1
theorem many_of (x : Nat) : 2 ≤ manyN x ∧ manyN x ≤ 4 := by unfold manyN; split <;> omega
theorem prodN_snoc (sh : List Nat) (k : Nat) : prodN (sh ++ [k]) = prodN sh * k := by unfold prodN; rw [List.foldl_append]; rfl
theorem wide_in (nums : List Nat) : wideN nums 16 ∈ shL := by
  unfold wideN
  have := foldl_inv (f := wideS nums 16) (p := fun p : List Nat × Nat => p.1 ∈ shL ∧ p.2 = prodN p.1) (xs := List.range (nums.getD 0 0 % 8)) (b := ([], 1)) ⟨by simp [shL], rfl⟩ fun k _ p h => by
    unfold wideS
    obtain ⟨h1, h2⟩ := many_of (nums.getD (1 + k) 0)
    split
    · rename_i hle
      refine ⟨(shp_of h.1).more _ h1 h2 (by rw [← h.2]; exact hle), ?_⟩
      rw [prodN_snoc, h.2]
    · exact h
  exact this.1
/-! places left out until there are few -/
def cutS (cnt : List Nat → Nat) (sh : List Nat) : List Nat := if 128 < cnt sh then sh.dropLast else sh
def cutN (cnt : List Nat → Nat) : Nat → List Nat → List Nat
  | 0, sh => sh
  | k + 1, sh => cutN cnt k (cutS cnt sh)
theorem cut_in (cnt : List Nat → Nat) : ∀ (k : Nat) {sh : List Nat}, sh ∈ shL → cutN cnt k sh ∈ shL
  | 0, _, h => h
  | k + 1, sh, h => cut_in cnt k (by unfold cutS; split; exact (shp_of h).cut; exact h)
theorem cut_few (cnt : List Nat → Nat) (h1 : cnt [] ≤ 128) : ∀ (k : Nat) (sh : List Nat), sh.length ≤ k → cnt (cutN cnt k sh) ≤ 128
  | 0, sh, h => by
    have e : sh = [] := List.eq_nil_of_length_eq_zero (by omega)
    subst e; exact h1
  | k + 1, sh, h => by
    by_cases hs : cnt sh ≤ 128
    · have : ∀ j, cutN cnt j sh = sh := fun j => by
        induction j with
        | zero => rfl
        | succ j ih => show cutN cnt j (cutS cnt sh) = sh; unfold cutS; rw [if_neg (by omega), ih]
      rw [this]; exact hs
    · show cnt (cutN cnt k (cutS cnt sh)) ≤ 128
      unfold cutS
      rw [if_pos (by omega)]
      exact cut_few cnt h1 k _ (by rw [List.length_dropLast]; omega)
end DL
set_option maxHeartbeats 4000000
namespace DL
open PySem PySem.Spec PyProof.Rows L2
/-! ### a def's own dict whose keys are tuples of ints -/
abbrev keyI (ns : List Int) : List Key := ns.map Sum.inl
theorem kV_ints (ns : List Int) : (keyI ns).map kV = ns.map V.int := by rw [List.map_map]; rfl
structure Dk (E : Cfg) (Z H : Hp) (d : Addr) (kvs : List (List Key × V)) : Prop where
  h : H d = some (.dT kvs)
  z : Z d = none
  f1 : Frsh E.B d
  f2 : Frsh E.B0 d
def lkD (E : Cfg) (Z : Hp) (d : Addr) (kvs : List (List Key × V)) : Cfg := ⟨E.T, Z, upd E.B0 d (.dT kvs), upd E.B d (.dT kvs)⟩
section
variable {K : PySem.W.Frag} {E : Cfg} {T : List (Addr × Str)} {Z H Z' H' Z1 H1 : Hp} {σ σ1 : L2.St} {ρ ρ1 : List Sl} {d : Addr} {kvs kvs' : List (List Key × V)}
theorem Dk.grow (k : Dk E Z H d kvs) (g : Gr T Z H Z' H') : Dk E Z' H' d kvs := by
  refine ⟨g.h _ _ k.h (fun _ z => nomatch z), ?_, k.f1, k.f2⟩
  cases q : Z' d with
  | none => rfl
  | some o =>
    rcases g.fr d (by rw [q]; exact fun z => nomatch z) with w | w
    · exact absurd k.z w
    · obtain ⟨ps, z⟩ := w _ k.h
      cases z
theorem lk_ext {B : Hp} (h : LamX.ExtN B H) (hd : H d = some (.dT kvs)) : LamX.ExtN (upd B d (.dT kvs)) H := fun b u e n => by
  by_cases z : b = d
  · subst z; rw [upd_same] at e; rw [hd]; exact e
  · rw [upd_ne z] at e; exact h b u e n
theorem lk_fr {B : Hp} {l : Addr} (h : Frsh B l) (hn : l ≠ d) : Frsh (upd B d (.dT kvs)) l := fun o e => by
  rw [upd_ne hn] at e; exact h o e
theorem un_ext {B : Hp} (f : Frsh B d) (h : LamX.ExtN (upd B d (.dT kvs)) H) : LamX.ExtN B H := fun b u e n => h b u (by
  rw [upd_ne (f.ne e n)]; exact e) n
theorem un_fr {B : Hp} {l : Addr} (h : Frsh (upd B d (.dT kvs)) l) : l ≠ d ∧ Frsh B l := by
  have nd : l ≠ d := fun z => by
    subst z
    obtain ⟨ps, z⟩ := h _ upd_same
    cases z
  exact ⟨nd, fun o e => h o (by rw [upd_ne nd]; exact e)⟩
theorem st_lockD (S : St1 K E Z H σ ρ) (k : Dk E Z H d kvs) : St1 K (lkD E Z d kvs) Z H σ ρ := by
  refine ⟨⟨S.s.zh, lk_ext S.s.bh k.h, lk_ext S.s.b0 k.h, S.s.tb, fun x h => .inl h, Ex.refl _, S.s.nz, S.s.len, fun i sl h => ?_, S.s.ap⟩, S.t⟩
  have w := S.s.at_ i sl h
  cases sl with
  | no => trivial
  | val d => exact w
  | raw v => exact w
  | own ds =>
    obtain ⟨l, xs, e, hl, zl, f1, f2, r⟩ := w
    have nd : l ≠ d := ne_of hl k.h (fun z => nomatch z)
    exact ⟨l, xs, e, hl, zl, lk_fr f1 nd, lk_fr f2 nd, r⟩
theorem st_unlockD (S0 : St1 K E Z H σ ρ) (k : Dk E Z H d kvs) (S : St1 K (lkD E Z d kvs) Z1 H1 σ1 ρ1) : St1 K E Z1 H1 σ1 ρ1 ∧ Dk E Z1 H1 d kvs := by
  refine ⟨⟨⟨S.s.zh, un_ext k.f1 S.s.bh, un_ext k.f2 S.s.b0, S.s.tb, fun x h => ?_, S0.s.z0.trans S.s.z0, S.s.nz, S.s.len, fun i sl h => ?_, S.s.ap⟩, S.t⟩, ⟨S.s.bh d _ upd_same (fun _ z => nomatch z), ?_, k.f1, k.f2⟩⟩
  · rcases S.s.fr x h with q | q
    · exact S0.s.fr x q
    · exact .inr (un_fr q).2
  · have w := S.s.at_ i sl h
    cases sl with
    | no => trivial
    | val d => exact w
    | raw v => exact w
    | own ds =>
      obtain ⟨l, xs, e, hl, zl, f1, f2, r⟩ := w
      exact ⟨l, xs, e, hl, zl, (un_fr f1).2, (un_fr f2).2, r⟩
  · cases q : Z1 d with
    | none => rfl
    | some o =>
      rcases S.s.fr d (by rw [q]; exact fun z => nomatch z) with w | w
      · exact absurd k.z w
      · exact absurd rfl (un_fr w).1
theorem ret_unlockD {v : V} {dd : D} (S0 : St1 K E Z H σ ρ) (k : Dk E Z H d kvs) (R : RetOk K (lkD E Z d kvs) v Z1 H1 dd) : RetOk K E v Z1 H1 dd :=
  ⟨R.r, R.zh, S0.s.z0.trans R.z0, un_ext k.f2 R.b0, un_ext k.f1 R.bh, R.tb, fun x h => by
    rcases R.fr x h with q | q
    · exact S0.s.fr x q
    · exact .inr (un_fr q).2, R.nz⟩
theorem xw_lockD {X : Cx} {xn : Addr → Prop} (k : Dk E Z H d kvs) (W : XW X E xn) : XW X (lkD E Z d kvs) xn := by
  obtain ⟨W, t, w⟩ := W
  exact ⟨W, t, fun C σ H' x h1 h2 h3 => w C σ H' x (un_ext k.f2 h1) (un_ext k.f1 h2) h3⟩
/-- the dict is lent, as if nobody would change it any more -/
theorem St1.lendD (S : St1 K E Z H σ ρ) (k : Dk E Z H d kvs) {i : Nat} (h : ρ[i]? = some (.raw (.ref d))) : St1 K E (upd Z d (.dT kvs)) H σ (ρ.set i (.val (.dct kvs))) := by
  have ez : Ex Z (upd Z d (.dT kvs)) := Ex.new k.z
  have hi : i < ρ.length := (List.getElem?_eq_some_iff.mp h).1
  have hs : σ[i]? = some (some (.ref d)) := S.s.at_ i _ h
  have key : ∀ (j : Nat) (ds' : List D), (ρ.set i (.val (.dct kvs)))[j]? = some (.own ds') → ρ[j]? = some (.own ds') := fun j ds' q => by
    by_cases hj : i = j
    · subst hj; rw [List.getElem?_set_self hi] at q; cases q
    · rw [List.getElem?_set_ne hj] at q; exact q
  refine ⟨⟨fun a o e => ?_, S.s.bh, S.s.b0, S.s.tb, fun a e => ?_, S.s.z0.trans ez, S.s.nz.upd (fun _ z => nomatch z), by simpa using S.s.len, fun j s q => ?_, fun j k ds' es' l' hjk q1 q2 q3 => ?_⟩, S.t⟩
  · by_cases hb : a = d
    · subst hb; rw [upd_same] at e; cases e; exact k.h
    · rw [upd_ne hb] at e; exact S.s.zh a o e
  · by_cases hb : a = d
    · subst hb; exact .inr k.f2
    · rw [upd_ne hb] at e; exact S.s.fr a e
  · by_cases hj : i = j
    · subst hj
      rw [List.getElem?_set_self hi] at q; cases q
      exact ⟨_, hs, .dct upd_same⟩
    · rw [List.getElem?_set_ne hj] at q
      have w := S.s.at_ j s q
      cases s with
      | no => trivial
      | val d => obtain ⟨v, e, rv⟩ := w; exact ⟨v, e, rv.mono ez⟩
      | raw v => exact w
      | own es' =>
        obtain ⟨l2, xs2, c1, c2, c3, c4, c5, c6⟩ := w
        refine ⟨l2, xs2, c1, c2, ?_, c4, c5, c6.mono ez⟩
        rw [upd_ne (ne_of c2 k.h (fun z => nomatch z))]; exact c3
  · exact S.s.ap j _ ds' es' l' hjk (key j _ q1) (key _ _ q2) q3
/-- the dict is written -/
theorem St1.wrD (S : St1 K E Z H σ ρ) (k : Dk E Z H d kvs) : St1 K E Z (upd H d (.dT kvs')) σ ρ ∧ Dk E Z (upd H d (.dT kvs')) d kvs' := by
  have ext : ∀ {B : Hp}, LamX.ExtN B H → Frsh B d → LamX.ExtN B (upd H d (.dT kvs')) := fun {B} e f b o q n => by
    rw [upd_ne (f.ne q n)]; exact e b o q n
  refine ⟨⟨⟨S.s.zh.mut k.z, ext S.s.bh k.f1, ext S.s.b0 k.f2, ?_, S.s.fr, S.s.z0, S.s.nz, S.s.len, fun j s q => ?_, S.s.ap⟩, S.t⟩, ⟨upd_same, k.z, k.f1, k.f2⟩⟩
  · intro p hp
    obtain ⟨ps, a1, a2, a3⟩ := S.s.tb p hp
    refine ⟨ps, by rw [upd_ne (ne_of a1 k.h (by intro z; cases z))]; exact a1, a2, fun pos cv hc => ?_⟩
    obtain ⟨c, b1, b2⟩ := a3 pos cv hc
    exact ⟨c, b1, by rw [upd_ne (ne_of b2 k.h (by unfold LamX.CodeO; intro z; cases z))]; exact b2⟩
  · have w := S.s.at_ j s q
    cases s with
    | no => trivial
    | val d => exact w
    | raw v => exact w
    | own es' =>
      obtain ⟨l2, xs2, c1, c2, c3, c4, c5, c6⟩ := w
      exact ⟨l2, xs2, c1, by rw [upd_ne (ne_of c2 k.h (fun z => nomatch z))]; exact c2, c3, c4, c5, c6⟩
end
/-! ### statements beside such a dict -/
structure PoK where
  nx : List (List Key × V) → List Sl → Prop
  rt : D → Prop
  xn : Addr → Prop := fun _ => False
def ndsK (K : PySem.W.Frag) (E : Cfg) (d : Addr) (P : PoK) : Ends where
  nx := fun σ H => ∃ Z ρ kvs, St1 K E Z H σ ρ ∧ Dk E Z H d kvs ∧ P.nx kvs ρ
  rt := fun v H => ∃ Z dd, RetOk K E v Z H dd ∧ P.rt dd
def DSk (X : Cx) (d : Addr) (kvs : List (List Key × V)) (st : Stmt) (ρ : List Sl) (P : PoK) : Prop := ∀ E Z H σ, St1 X.K E Z H σ ρ → Dk E Z H d kvs → XW X E P.xn → WS X st (ndsK X.K E d P) σ H
def DSks (X : Cx) (d : Addr) (kvs : List (List Key × V)) (sts : List Stmt) (ρ : List Sl) (P : PoK) : Prop := ∀ E Z H σ, St1 X.K E Z H σ ρ → Dk E Z H d kvs → XW X E P.xn → WSs X sts (ndsK X.K E d P) σ H
section
variable {X : Cx} {e a b c o tg iter : Expr} {es : List Expr} {st : Stmt} {sts body orelse : List Stmt} {ρ : List Sl} {da dv : D} {pos p px : Pos} {x : Str} {P : PoK} {d : Addr} {kvs : List (List Key × V)}
theorem dsk_lift (h : DS X st ρ { nx := P.nx kvs, rt := P.rt, xn := P.xn }) : DSk X d kvs st ρ P := fun E Z H σ S k W pins s I => by
  refine thn (h (lkD E Z d kvs) Z H σ (st_lockD S k) (xw_lockD k W) pins s I) fun f s1 q => ?_
  cases f with
  | next => obtain ⟨σ', H', I', Z', ρ', S', hk⟩ := q; obtain ⟨a, b⟩ := st_unlockD S k S'; exact ⟨σ', H', I', Z', ρ', kvs, a, b, hk⟩
  | ret v => obtain ⟨u, σ', H', I', r, Z', dd, R, hk⟩ := q; exact ⟨u, σ', H', I', r, Z', dd, ret_unlockD S k R, hk⟩
  | brk => obtain ⟨_, _, _, _, _, _, z⟩ := q; exact z.elim
  | cont => obtain ⟨_, _, _, _, _, _, z⟩ := q; exact z.elim
theorem dsks_nil (h : P.nx kvs ρ) : DSks X d kvs [] ρ P := fun E Z H σ S k W => wss_pss pss_nil ⟨Z, ρ, kvs, S, k, h⟩
theorem dsks_cons (h : DSk X d kvs st ρ { P with nx := fun kvs' ρ' => DSks X d kvs' sts ρ' P }) : DSks X d kvs (st :: sts) ρ P := fun E Z H σ S k W => by
  intro pins s I
  refine wpAny_execs_cons (thn (h E Z H σ S k W pins s I) fun f s1 q => ?_)
  cases f with
  | next =>
    obtain ⟨σ', H', I', Z', ρ', kvs', S', k', h'⟩ := q
    exact h' E Z' H' σ' S' k' W pins s1 I'
  | ret v => exact q
  | brk => exact q
  | cont => exact q
theorem dsks_one (h : DSk X d kvs st ρ P) : DSks X d kvs [st] ρ P := fun E Z H σ S k W => wss_pss (pss_one ps_ws) (h E Z H σ S k W)
/-- from here on the dict is read alone -/
theorem dsks_freeze (j : Nat) (h : DSs X sts (ρ.set j (.val (.dct kvs))) { nx := fun _ => False, rt := P.rt, xn := P.xn }) (hj : ρ[j]? = some (.raw (.ref d)) := by rfl) : DSks X d kvs sts ρ P := fun E Z H σ S k W pins s I =>
  thn (h E _ H σ (S.lendD k hj) W pins s I) fun f s1 q => by
    cases f with
    | next => obtain ⟨_, _, _, _, _, _, z⟩ := q; exact z.elim
    | ret v => exact q
    | brk => obtain ⟨_, _, _, _, _, _, z⟩ := q; exact z.elim
    | cont => obtain ⟨_, _, _, _, _, _, z⟩ := q; exact z.elim
theorem dsk_if {k : Bool} (j : Nat) (hc : DT X c (ρ.set j (.val (.dct kvs))) k) (h1 : k = true → DSks X d kvs body ρ P) (h2 : k = false → DSks X d kvs orelse ρ P) (hj : ρ[j]? = some (.raw (.ref d)) := by rfl) : DSk X d kvs (.If c body orelse pos) ρ P := fun E Z H σ S dk W =>
  ws_ps (ps_if pt_wt pss_wss pss_wss) (hc E _ H σ (S.lendD dk hj) _ fun Z1 H1 g1 => by
    have g : G X.K Z H Z H1 := ⟨Ex.refl _, g1.h, (Ex.new dk.z).trans (g1.z.trans g1.zh), g1.tb, fun a w => .inl w, id⟩
    cases k with
    | true => exact iteT (h1 rfl E Z H1 σ (S.grow g) (dk.grow g) W)
    | false => exact iteF (h2 rfl E Z H1 σ (S.grow g) (dk.grow g) W))
/-- d[k] = e -/
theorem dsk_put (j : Nat) {ns : List Int} {vv : V} (hu : X.A.units + 1 < cLine) (he : DE X e ρ dv) (hv : ∀ Z v, Rep X.K Z v dv → v = vv) (hb : DE X b ρ (.tupk (ns.map .int))) (hz : kvs.length < sizeLine) (h : P.nx (putK kvs (keyI ns) vv) ρ) (hj : ρ[j]? = some (.raw (.ref d)) := by rfl) (hN : X.N[j]? = some x := by rfl) (hvis : Vis X.env.scope x := by first | exact Or.inl rfl | exact Or.inr (Or.inl rfl) | exact Or.inr (Or.inr rfl))
    (hd : (x == ("__debug__" : Str)) = false := by decide) (hcd : (x == ("__classdict__" : Str)) = false := by decide)
    (hs : swapsWith e (some (.Subscript (.Name x px) b p)) pos.line X.env = pure false := by rfl) : DSk X d kvs (.Assign [.Subscript (.Name x px) b p] e pos) ρ P := fun E Z H σ S dk W => by
  have e1 : σ[j]? = some (some (.ref d)) := S.s.at_ j _ hj
  refine ws_ps (ps_dput hu (pe_var hN hvis hd hcd) pe_we pe_we hs) (he E Z H σ S _ fun v Z1 H1 g1 r1 => ⟨_, e1, hb E Z1 H1 σ (S.grow g1) _ fun u Z2 H2 g2 r2 => ?_⟩)
  have k2 := (dk.grow g1).grow g2
  have S2 := (S.grow g1).grow g2
  have ev := hv _ _ r1
  subst ev
  cases r2 with
  | tupk hz2 rl =>
    rw [rl.ints] at hz2
    obtain ⟨S3, k3⟩ := S2.wrD (kvs' := putK kvs (keyI ns) v) k2
    exact ⟨d, _, rfl, DPut.t (k := keyI ns) k2.h (by rw [kV_ints]; exact S2.s.zh _ _ hz2) hz, Z2, ρ, _, S3, k3, h⟩
theorem dsk_for {α : Type} (xs : List α) (c : α → D) (js : List Nat) (sp : α → List D) (hp : PassesOwn (model X.prog X.w) X.A X.env X.xe) (hi : DI X tg iter ρ (xs.map c)) (hg : ∀ x ∈ xs, DG X tg js (c x) (sp x)) (I : Nat → List (List Key × V) → List Sl → Prop) (h0 : I 0 kvs ρ)
    (hs : ∀ i x kvs' ρ', xs[i]? = some x → I i kvs' ρ' → DSks X d kvs' body (setD ρ' js (sp x)) { nx := I (i + 1), rt := P.rt, xn := P.xn }) (hd : ∀ kvs' ρ', I xs.length kvs' ρ' → P.nx kvs' ρ')
    (hc : X.calm = true := by rfl) (hf : ∀ x, foldedSetIterable iter X.env x = pure x := by intro _; rfl) : DSk X d kvs (.For tg iter body [] pos) ρ P := fun E Z H σ S dk W =>
  ws_ps (ps_for hp hc pi_wi pg_wg pss_wss hf) (hi E Z H σ S _ fun J Gd Y Z1 H1 g1 w1 => by
    have wl : (xs.map c).length = xs.length := List.length_map ..
    refine for_it w1.w (fun i σ' H' => ∃ Z' ρ' kvs', Ex Z1 Z' ∧ St1 X.K E Z' H' σ' ρ' ∧ Dk E Z' H' d kvs' ∧ I i kvs' ρ') ⟨Z1, ρ, kvs, Ex.refl _, S.grow g1, dk.grow g1, h0⟩ (fun i σ' H' _ ⟨Z', ρ', _, z', S', _⟩ => w1.g Z' H' z' S'.zh) ?_ ?_
    · rintro i x σ' H' H2 hlt ⟨Z', ρ', kvs', z', S', dk', hI⟩ y
      rw [wl] at hlt
      have hx : xs[i]? = some xs[i] := List.getElem?_eq_getElem hlt
      obtain ⟨Z2, g2, r2⟩ := w1.y i (c xs[i]) H' x H2 Z' (by rw [List.getElem?_map, hx]; rfl) z' S'.zh (by rw [← S'.t]; exact S'.s.tb) y
      refine hg xs[i] (List.getElem_mem hlt) Z2 H2 σ' x g2.zh r2 _ fun us ru => ?_
      have S3 := (S'.grow g2).puts (js := js) ru
      have dk3 := dk'.grow g2
      intro pins s I'
      have S4 : St1 X.K { E with Z0 := Z2, B0 := E.B0 } Z2 H2 (setS σ' js us) (setD ρ' js (sp xs[i])) := ⟨⟨S3.s.zh, S3.s.bh, S3.s.b0, S3.s.tb, fun a h => .inl h, Ex.refl _, S3.s.nz, S3.s.len, fun j s h => by
        have w := S3.s.at_ j s h
        cases s with
        | no => trivial
        | val d => exact w
        | raw v => exact w
        | own ds => exact w, S3.s.ap⟩, S3.t⟩
      have dk4 : Dk { E with Z0 := Z2, B0 := E.B0 } Z2 H2 d kvs' := ⟨dk3.h, dk3.z, dk3.f1, dk3.f2⟩
      have back : ∀ {Z5 H5 : Hp} {σ5 : L2.St} {ρ5 : List Sl}, St1 X.K { E with Z0 := Z2, B0 := E.B0 } Z5 H5 σ5 ρ5 → St1 X.K E Z5 H5 σ5 ρ5 := fun {Z5 H5 σ5 ρ5} S5 => ⟨⟨S5.s.zh, S5.s.bh, S5.s.b0, S5.s.tb, fun a h => by
        rcases S5.s.fr a h with q | q
        · exact S3.s.fr a q
        · exact .inr q, S3.s.z0.trans S5.s.z0, S5.s.nz, S5.s.len, fun j s h => by
        have w := S5.s.at_ j s h
        cases s with
        | no => trivial
        | val d => exact w
        | raw v => exact w
        | own ds => exact w, S5.s.ap⟩, S5.t⟩
      refine thn (hs i xs[i] kvs' ρ' hx hI { E with Z0 := Z2, B0 := E.B0 } Z2 H2 _ S4 dk4 W pins s I') fun f s1 q => ?_
      cases f with
      | next => obtain ⟨σ5, H5, I5, Z5, ρ5, kvs5, S5, k5, h5⟩ := q; exact ⟨σ5, H5, I5, Z5, ρ5, kvs5, z'.trans (g2.z.trans S5.s.z0), back S5, ⟨k5.h, k5.z, k5.f1, k5.f2⟩, h5⟩
      | cont => obtain ⟨_, _, _, z⟩ := q; exact z.elim
      | brk => obtain ⟨_, _, _, z⟩ := q; exact z.elim
      | ret v =>
        obtain ⟨u, σ5, H5, I5, r5, Z5, dd, R5, h5⟩ := q
        exact ⟨u, σ5, H5, I5, r5, Z5, dd, ⟨R5.r, R5.zh, S3.s.z0.trans R5.z0, R5.b0, R5.bh, R5.tb, fun a h => by
          rcases R5.fr a h with q | q
          · exact S3.s.fr a q
          · exact .inr q, R5.nz⟩, h5⟩
    · rintro σ' H' ⟨Z', ρ', kvs', z', S', dk', hI⟩
      rw [wl] at hI
      exact ⟨Z', ρ', kvs', S', dk', hd kvs' ρ' hI⟩)
/-- an expression that makes such a dict -/
def DN (X : Cx) (e : Expr) (ρ : List Sl) (kvs : List (List Key × V)) : Prop := ∀ E Z H σ, St1 X.K E Z H σ ρ → ∀ Q : VK, (∀ d Z' H', G X.K Z H Z' H' → Frsh H d → Z' d = none → H' d = some (.dT kvs) → Q (.ref d) H') → WE X e σ H Q
theorem dss_dict (i : Nat) {P0 : Po} {pos' : Pos} (hN : X.N.Nodup) (he : DN X e ρ kvs) (h : ∀ d, DSks X d kvs sts (ρ.set i (.raw (.ref d))) { nx := fun _ _ => False, rt := P0.rt, xn := P0.xn }) (hi : X.N[i]? = some x := by rfl) (hx : Loc X.env.scope x := by first | exact .inl rfl | exact .inr rfl) (hs : swapsWith e (some (.Name x pos')) pos.line X.env = pure false := by rfl)
    (hf : X.fn x = true ∨ X.env.scope.names.lookup x = some .local := by first | exact .inl rfl | exact .inr rfl) : DSs X (.Assign [.Name x pos'] e pos :: sts) ρ P0 := fun E Z H σ S W => by
  intro pins s I
  have first : WS X (.Assign [.Name x pos'] e pos) { nx := fun σ' H' => ∃ d Z', St1 X.K E Z' H' σ' (ρ.set i (.raw (.ref d))) ∧ Dk E Z' H' d kvs, rt := fun _ _ => False } σ H :=
    ws_ps (ps_set hN hi hx pe_we hs hf) (he E Z H σ S _ fun d Z1 H1 g1 hd zd hh => ⟨d, Z1, ⟨(S.grow g1).s.putR i, S.t⟩, ⟨hh, zd, hd.back S.s.bh, hd.back S.s.b0⟩⟩)
  refine wpAny_execs_cons (thn (first pins s I) fun f s1 q => ?_)
  cases f with
  | next =>
    obtain ⟨σ', H', I', d, Z', S', k'⟩ := q
    refine thn (h d E Z' H' σ' S' k' W pins s1 I') fun f s2 q => ?_
    cases f with
    | next => obtain ⟨_, _, _, _, _, _, _, _, z⟩ := q; exact z.elim
    | ret v => exact q
    | brk => obtain ⟨_, _, _, z⟩ := q; exact z.elim
    | cont => obtain ⟨_, _, _, z⟩ := q; exact z.elim
  | ret v => obtain ⟨_, _, _, _, _, z⟩ := q; exact z.elim
  | brk => obtain ⟨_, _, _, z⟩ := q; exact z.elim
  | cont => obtain ⟨_, _, _, z⟩ := q; exact z.elim
theorem dn_empty : DN X (.Dict [] [] pos) ρ [] := fun E Z H σ S Q q => we_pe pe_dnewT fun d hd => q d Z _ (S.same.newH hd) (Frsh.none hd) (by
  cases h : Z d with
  | none => rfl
  | some u => rw [S.s.zh d u h] at hd; cases hd) upd_same
end
end DL
set_option maxHeartbeats 4000000
namespace DL
open PySem PySem.Spec PyProof.Rows L2
/-! ### such a dict read; the tuples that are its keys -/
abbrev kN (xs : List Nat) : D := .tupk (xs.map nI)
theorem kN_ints (xs : List Nat) : kN xs = .tupk ((xs.map Int.ofNat).map .int) := by simp [nI]
theorem wd_k (ds : List D) : Wd (.tupk ds) (.tup ds) := .tupk (WdL.refl ds)
def tDisp1 (tk tv : TE) : TE := fun σ H Q => ∀ p, H p = none → tPairs [(tk, tv)] σ (upd H p (.dT [])) fun ps H2 => H2 p = some (.dT []) ∧ ∃ b ks y, ps = [(.ref b, y)] ∧ H2 b = some (.tup (ks.map kV)) ∧ Q (.ref p) (upd H2 p (.dT [(ks, y)]))
theorem vv_one {x y : V} {ws : List (Value × Value)} (r : VV [(x, y)] ws) : ∃ a b, ws = [(a, b)] ∧ RelV x a ∧ RelV y b := by
  cases r with
  | cons h t =>
    cases t
    exact ⟨_, _, rfl, h.1, h.2⟩
theorem dt_one {P : Program} {w : World} {H : Hp} {h' : Heap} {p b : Addr} {ks : List Key} {y : V} {v : Value} (hd : (p == sysModules) = false) (eb : H b = some (.tup (ks.map kV))) (e : H p = some (.dT [])) (r : RelV y v) (dd : h'.DictOfH (tupleKind (mixKind P w)) p [(ks, b, v)]) : ObjOk P w (upd H p (.dT [(ks, y)])) h' p (.dT [(ks, y)]) := by
  obtain ⟨q, es, ep, hq, h2, h3, h4, _, h5⟩ := dd
  refine ⟨by rw [sizeLine_eq]; show 1 ≤ 16777216; omega, hd, [(ks, b, v)], .cons ⟨rfl, ?_, r⟩ .nil, q, es, ep, hq, h2, h3, h4, h5⟩
  show upd H p _ b = _
  rw [upd_ne (ne_of eb e (fun z => nomatch z))]
  exact eb
theorem pe_disp1 {X : Cx} {k v : Expr} {pos : Pos} {tk tv : TE} (hu : X.A.units + 1 < cLine) (hk : PE X k tk) (hv : PE X v tv) : PE X (.Dict [some k] [v] pos) (tDisp1 tk tv) := by
  refine ⟨fun pins s σ H Q I q => ?_⟩
  have hn := I.hok.fresh (Nat.le_refl s.heap.objs.size)
  have I1 := I.laid (a := s.heap.objs.size) (o := .dT []) (h' := s.heap.push { cls := .type "dict", data := .dict #[] }) (t' := s.toks) (fun _ _ q => Heap.get?_push_of_some _ q) (Nat.le_refl _) (dt_empty s.heap I.big)
  have hsh := zip_pairTrees [some k] [v] X.env pos rfl rfl
  rw [arm_eval_Dict, hsh, dictDisplay_pairs (pairTrees [some k] [v] X.env pos) (by intro z; cases z) (by show 1 < 17; omega)]
  refine wpAny_bind (wpAny_standAt (wpAny_bind (wpAny_subDictH (knd := tupleKind (mixKind X.prog X.w)) (Q := fun d s' => wpAny (model X.prog X.w) X.A (pure (Value.ref d)) (EP X pins σ Q) X.xe s') (Nat.lt_of_succ_lt hu) (by show 1 ≤ 15; omega) ?_)))
  refine thn ((pps_cons hk hv pps_nil).run pins _ σ _ _ I1 (q _ hn)) fun ws s2 ⟨ps, H2, I2, rel, e, b, ks, y, ep, eb, q2⟩ => ?_
  subst ep
  obtain ⟨w2a, w2b, rfl, h1, h2⟩ := vv_one rel
  cases (show w2a = Value.ref b from h1)
  obtain ⟨z, hd, xs, r0, dd⟩ := L2.dt_of I2.hok e
  have ex : xs = [] := by cases r0; rfl
  subst ex
  refine ⟨[(ks, b, w2b)], ⟨rfl, rfl, key_of I2.hok eb, trivial⟩, dd, fun h' tk' dd' hs => wpAny_pure ⟨.ref s.heap.objs.size, _, d_write (t' := tk') I2 (by rw [e]; exact True.intro) hs ?_ ?_, rfl, q2⟩⟩
  · obtain ⟨q, es, ep, hq, _⟩ := dd'
    exact ⟨q, hq⟩
  · exact dt_one hd eb e h2 dd'
section
variable {X : Cx} {e a b c o k v : Expr} {es : List Expr} {ρ : List Sl} {d da dv : D} {ds : List D} {pos p apos p2 q2 : Pos} {x m : Str} {kvs : List (List Key × V)} {n : Nat}
/-- {k: v} -/
theorem dn_one {ns : List Int} {vv : V} (hu : X.A.units + 1 < cLine) (hk : DE X k ρ (.tupk (ns.map .int))) (hv : DE X v ρ dv) (hvv : ∀ Z v, Rep X.K Z v dv → v = vv) : DN X (.Dict [some k] [v] pos) ρ [(keyI ns, vv)] := fun E Z H σ S Q q =>
  we_pe (pe_disp1 hu pe_we pe_we) fun p hp => by
    have zp : Z p = none := by
      cases h : Z p with
      | none => rfl
      | some u => rw [S.zh p u h] at hp; cases hp
    have g0 : G X.K Z H Z (upd H p (.dT [])) := S.same.newH hp
    refine hk E Z _ σ (S.grow g0) _ fun y Z1 H1 g1 r1 => hv E Z1 H1 σ ((S.grow g0).grow g1) _ fun w Z2 H2 g2 r2 => ?_
    have gg := g1.trans g2
    have h2 : H2 p = some (.dT []) := gg.h _ _ upd_same fun _ z => nomatch z
    have z2 : Z2 p = none := by
      cases h : Z2 p with
      | none => rfl
      | some u =>
        rcases gg.fr p (by rw [h]; exact fun z => nomatch z) with w' | w'
        · exact absurd zp w'
        · obtain ⟨ps, z⟩ := w' _ upd_same
          cases z
    have ew := hvv _ _ r2
    subst ew
    cases r1 with
    | tupk hz rl =>
      rw [rl.ints] at hz
      refine ⟨h2, _, keyI ns, w, rfl, by rw [kV_ints]; exact gg.zh _ _ (g2.z _ _ hz), q p Z2 _ ?_ (Frsh.none hp) z2 upd_same⟩
      have g := g0.trans gg
      refine ⟨g.z, fun b u e n => ?_, g.zh.mut z2, ?_, g.fr, g.nz⟩
      · rw [upd_ne (ne_of_none e hp)]; exact g.h b u e n
      · intro p' hp'
        obtain ⟨ps, a1, a2, a3⟩ := g.tb p' hp'
        refine ⟨ps, by rw [upd_ne (ne_of a1 h2 (by intro z; cases z))]; exact a1, a2, fun pos cv hc => ?_⟩
        obtain ⟨c, b1, b2⟩ := a3 pos cv hc
        exact ⟨c, b1, by rw [upd_ne (ne_of b2 h2 (by unfold LamX.CodeO; intro z; cases z))]; exact b2⟩
/-- k not in d -/
def rDnin : R2 := fun x y H Q => ∃ a o, y = .ref a ∧ DGet H a x o ∧ Q (.bl (!o.isSome)) H
theorem op_dnin (hu : X.A.units + 1 < cLine) : OpR X (compareOp .NotIn) rDnin := fun pins s σ H x y v u Q I rx ry h => by
  obtain ⟨a, o, rfl, g, q⟩ := h
  cases (show u = Value.ref a from ry)
  exact d_notIn hu I g rx fun s' I' => ⟨.bl (!o.isSome), H, I', rfl, q⟩
theorem dt_ninD {ns : List Int} (hu : X.A.units + 1 < cLine) (ha : DE X a ρ (.tupk (ns.map .int))) (hb : DE X b ρ (.dct kvs)) (hm : behindInMarks .NotIn b = false := by rfl) : DT X (.Compare a [.NotIn] [b] pos) ρ (!(valV kvs (keyI ns)).isSome) :=
  dt_cmp (op_dnin hu) (fun x y Z H zh tb rx ry Q q => by
    cases rx with
    | tupk hz rl =>
      rw [rl.ints] at hz
      cases ry with
      | dct hd => exact ⟨_, _, rfl, DGet.t (k := keyI ns) (zh _ _ hd) (by rw [kV_ints]; exact zh _ _ hz), q _ Z H (Gr.refl zh tb) .bl⟩) ha hb hm
/-- d[k] -/
theorem de_dget {ns : List Int} {vv : V} (hu : X.A.units + 1 < cLine) (ho : DE X o ρ (.dct kvs)) (hk : DE X k ρ (.tupk (ns.map .int))) (hv : valV kvs (keyI ns) = some vv) (hr : ∀ Z, Rep X.K Z vv d) (hs : NoSl k := by intro _ _; rfl) : DE X (.Subscript o k pos) ρ d := fun E Z H σ S Q q =>
  we_pe (pe_dget hu pe_we pe_we hs) (ho E Z H σ S _ fun y Z1 H1 g1 r1 => hk E Z1 H1 σ (S.grow g1) _ fun w Z2 H2 g2 r2 => by
    cases r2 with
    | tupk hz rl =>
      rw [rl.ints] at hz
      cases r1 with
      | dct hd => exact ⟨_, vv, rfl, hv ▸ DGet.t (k := keyI ns) (g2.zh _ _ (g2.z _ _ hd)) (by rw [kV_ints]; exact g2.zh _ _ hz), q _ Z2 H2 (g1.trans g2) (hr Z2)⟩)
theorem de_tupkL (ha : DA X (e :: es) ρ [.lst ds]) (hm : X.mg "tuple" = none) (hg : Gl X "tuple" := by rfl) (he : starEach (e :: es) X.env = (false, eval e X.env) :: starEach es X.env := by rfl) (hpl : (backTo pos (starEach es X.env)).any (·.1) = false := by rfl) : DE X (.Call (.Name "tuple" p) (e :: es) [] pos) ρ (.tupk ds) :=
  de_callTy call_tuple_of (fun vs Z H zh tb r Q q => by
    obtain ⟨v, rfl, r1⟩ := rc_one r
    cases r1 with
    | lst hz rl => exact ⟨_, _, rfl, .inl ⟨SqL.of (zh _ _ hz), fun l hl => q _ _ _ ((Gr.refl zh tb).new hl) (.tupk upd_same (rl.mono (Ex.new (zh.free hl))))⟩⟩) hm ha (by decide +kernel) hg (by decide) (by decide) he hpl
theorem de_tupkR (ha : DE X a ρ (nI n)) (hn : n ≤ 16777216) (hm : X.mg "tuple" = none) (hm2 : X.mg "range" = none) (hc : X.calm = true := by rfl) (hg : Gl X "tuple" := by rfl) (hg2 : Gl X "range" := by rfl) (na : starEach [a] X.env = (false, eval a X.env) :: starEach [] X.env := by rfl)
    (na2 : starEach [.Call (.Name "range" p2) [a] [] q2] X.env = (false, eval (.Call (.Name "range" p2) [a] [] q2) X.env) :: starEach [] X.env := by rfl) : DE X (.Call (.Name "tuple" p) [.Call (.Name "range" p2) [a] [] q2] [] pos) ρ (kN (List.range n)) := fun E Z H σ S Q q =>
  we_pe (pe_tupRg hc hg hm (prg_1 hg2 hm2 pe_we na) na2) (ha E Z H σ S _ fun v Z1 H1 g1 r1 => by
    cases r1
    refine ⟨_, rfl, RgOk.of_le (by omega) (by omega) (by omega) (by omega), fun p hp => ?_⟩
    exact q _ _ _ (g1.new hp) (.tupk upd_same (by rw [rgV_nat]; exact repN _)))
end
end DL
set_option maxHeartbeats 4000000
namespace DL
open PySem PySem.Spec PyProof.Rows L2
/-! ### sorted of tuples -/
theorem code_eq : ∀ r : List Nat, TS.code 16 (r.map Int.ofNat) = (codeK r : Nat)
  | [] => rfl
  | d :: r => by
    show (d : Int) * 16 ^ (r.map Int.ofNat).length + TS.code 16 (r.map Int.ofNat) = ((d * 16 ^ r.length + codeK r : Nat) : Int)
    rw [code_eq r, List.length_map]
    simp
section
variable {K : PySem.W.Frag} {Z : Hp} {α : Type} {c : α → D}
theorem RepL.perm {ys xs : List V} (p : ys.Perm xs) : ∀ {rows : List α}, RepL K Z xs (rows.map c) → ∃ rows' : List α, rows'.Perm rows ∧ RepL K Z ys (rows'.map c) := by
  induction p with
  | nil => intro rows r; exact ⟨rows, .refl _, r⟩
  | @cons x l1 l2 p ih =>
    intro rows r
    cases rows with
    | nil => cases r
    | cons a rows =>
      cases r with
      | cons h r =>
        obtain ⟨rows', p', r'⟩ := ih r
        exact ⟨a :: rows', p'.cons a, .cons h r'⟩
  | @swap x y l =>
    intro rows r
    match rows, r with
    | a :: b :: rows, .cons h1 (.cons h2 r) => exact ⟨b :: a :: rows, .swap a b rows, .cons h2 (.cons h1 r)⟩
  | trans p1 p2 ih1 ih2 =>
    intro rows r
    obtain ⟨r1, q1, s1⟩ := ih2 r
    obtain ⟨r2, q2, s2⟩ := ih1 s1
    exact ⟨r2, q2.trans q1, s2⟩
theorem RepL.pair {R : V → V → Prop} {T : α → α → Prop} (h : ∀ v w a b, Rep K Z v (c a) → Rep K Z w (c b) → R v w → T a b) : ∀ {ys : List V} {rows : List α}, RepL K Z ys (rows.map c) → ys.Pairwise R → rows.Pairwise T
  | [], [], _, _ => .nil
  | v :: ys, a :: rows, .cons h1 r, p => by
    obtain ⟨p1, p2⟩ := List.pairwise_cons.mp p
    refine List.pairwise_cons.mpr ⟨fun b hb => ?_, RepL.pair h r p2⟩
    obtain ⟨j, hj, e⟩ := List.getElem_of_mem hb
    obtain ⟨w, hw, rw_⟩ := r.get (i := j) (d := c b) (by rw [List.getElem?_map, List.getElem?_eq_getElem hj, e]; rfl)
    exact h v w a b h1 rw_ (p1 w (List.mem_of_getElem? hw))
end
theorem lt_inj {rows : List (List Nat)} (h : (rows.map codeK).Pairwise (· < ·)) : ∀ a ∈ rows, ∀ b ∈ rows, codeK a = codeK b → a = b := by
  rw [List.pairwise_map] at h
  intro a ha b hb e
  obtain ⟨i, hi, rfl⟩ := List.getElem_of_mem ha
  obtain ⟨j, hj, rfl⟩ := List.getElem_of_mem hb
  rcases Nat.lt_trichotomy i j with q | q | q
  · have := List.pairwise_iff_getElem.mp h i j hi hj q
    omega
  · subst q; rfl
  · have := List.pairwise_iff_getElem.mp h j i hj hi q
    omega
section
variable {X : Cx} {e a b c o k v : Expr} {es : List Expr} {ρ : List Sl} {d da dv : D} {ds : List D} {pos p apos cpos p2 p3 q2 : Pos} {x m : Str} {n : Nat}
theorem do_sortT {rows srt : List (List Nat)} {dd : Nat} (hd : 1 ≤ dd) (hB : ∀ r ∈ rows, r.length = dd ∧ ∀ x ∈ r, x < 16) (hp : srt.Perm rows) (hs : (srt.map codeK).Pairwise (· < ·)) (h64 : rows.length < 64) (ha : DA X (e :: es) ρ [lF kN rows]) (hm : X.mg "sorted" = none) (hg : Gl X "sorted" := by rfl) (he : starEach (e :: es) X.env = (false, eval e X.env) :: starEach es X.env := by rfl) (hpl : (backTo pos (starEach es X.env)).any (·.1) = false := by rfl) : DO X (.Call (.Name "sorted" p) (e :: es) [] pos) ρ (srt.map kN) :=
  do_callB (cr_sortT (d := dd) (B := 16) hd) (fun vs Z H zh tb r Q q => by
    obtain ⟨v, rfl, r1⟩ := rc_one r
    cases r1 with
    | lst hz rl =>
      rename_i aa xs
      have tI : ∀ {v : V} {r : List Nat}, Rep X.K Z v (kN r) → TupI X.K H v (r.map Int.ofNat) := fun {v r} q => by
        cases q with
        | tupk h1 h2 =>
          rw [show r.map nI = (r.map Int.ofNat).map D.int by rw [List.map_map]; rfl] at h2
          rw [h2.ints] at h1
          exact ⟨_, rfl, .inl (.inl (zh _ _ h1))⟩
      refine ⟨aa, xs, rfl, SqL.of (zh _ _ hz), by rw [rl.length, List.length_map]; exact h64, fun x hx => ?_, fun ys l hp' hs' hl => ?_⟩
      · obtain ⟨j, hj, e⟩ := List.getElem_of_mem hx
        obtain ⟨d, hd', rep⟩ := rl.get' (i := j) (v := x) (by rw [List.getElem?_eq_getElem hj, e])
        rw [List.getElem?_map] at hd'
        obtain ⟨r, hr, rfl⟩ := Option.map_eq_some_iff.mp hd'
        obtain ⟨b1, b2⟩ := hB r (List.mem_of_getElem? hr)
        refine ⟨_, tI rep, by rw [List.length_map]; exact b1, fun m hm => ?_⟩
        obtain ⟨y, hy, rfl⟩ := List.mem_map.mp hm
        have := b2 y hy
        show 0 ≤ (y : Int) ∧ (y : Int) < 16
        omega
      · obtain ⟨rows', p1, r'⟩ := RepL.perm hp' rl
        have pw : rows'.Pairwise fun a b => codeK a ≤ codeK b := RepL.pair (fun v w a b h1 h2 h3 => by
          have := h3 _ _ (tI h1) (tI h2)
          rw [code_eq, code_eq] at this
          omega) r' hs'
        have sw : srt.Pairwise fun a b => codeK a ≤ codeK b := by
          have := hs
          rw [List.pairwise_map] at this
          exact this.imp fun h => Nat.le_of_lt h
        have hps := p1.trans hp.symm
        have e : rows' = srt := List.Perm.eq_of_pairwise (fun a b ha hb h h' => lt_inj hs a (hps.mem_iff.mp ha) b hb (Nat.le_antisymm h h')) pw sw hps
        subst e
        exact q l _ hl r') hm ha (by decide +kernel) hg (by decide) (by decide) he hpl
/-! ### xs.index(k) -/
theorem eqV_int (i j : Int) : eqV (.int i) (.int j) = decide (i = j) := by
  simp only [eqV]
  by_cases h : i = j
  · subst h; simp
  · simp [h]
theorem de_indexL {xs : List Nat} {n : Nat} (ho : DE X o ρ (lN xs)) (he : DE X e ρ (nI n)) (hk : n ∈ xs)
    (hbase : attributeBase o "index" X.env (eval o X.env) = eval o X.env := by rfl)
    (hfew : ((backTo cpos (starEach (e :: []) X.env)).all (fun x => !x.1) && (backToKw cpos (keywordEach [] X.env)).all (fun x => x.1.isSome)
      && decide ((e :: []).length + ([] : List Keyword).length + (if ([] : List Keyword).isEmpty then 0 else 1) < 30)) = true := by rfl)
    (hline : (apos.endLine == cpos.line) = true := by rfl) (hs : starEach (e :: []) X.env = (false, eval e X.env) :: starEach [] X.env := by rfl) (hplain : (backTo cpos (starEach [] X.env)).any (·.1) = false := by rfl) :
    DE X (.Call (.Attribute o "index" apos) [e] [] cpos) ρ (nI (xs.findIdx fun z => z == n)) := fun E Z H σ S Q q => by
  refine we_pe (pe_bm PySem.F.plainAttrs_list PySem.F.slot_list_index PySem.F.type_list_index mt_index pe_we (pa_cons pe_we pa_nil hs) hbase hfew hline hs hplain) (ho E Z H σ S _ fun v Z1 H1 g1 r1 => ?_)
  cases r1 with
  | lst hz rl =>
    rename_i a us
    rw [show xs.map nI = (xs.map Int.ofNat).map D.int by rw [List.map_map]; rfl] at rl
    rw [rl.ints] at hz
    refine ⟨.inl ⟨rfl, _, SqL.of (g1.zh _ _ hz)⟩, he E Z1 H1 σ (S.grow g1) _ fun w Z2 H2 g2 r2 => ?_⟩
    cases r2
    have hlt : xs.findIdx (fun z => z == n) < xs.length := List.findIdx_lt_length_of_exists ⟨n, hk, by simp⟩
    have hat : xs[xs.findIdx fun z => z == n]? = some n := by
      rw [List.getElem?_eq_getElem hlt]
      have := List.findIdx_getElem (xs := xs) (p := fun z => z == n) (w := hlt)
      simpa using this
    refine ⟨a, (xs.map Int.ofNat).map V.int, .int (n : Nat), xs.findIdx fun z => z == n, .int (n : Nat), rfl, rfl, SqL.of (g2.zh _ _ (g2.z _ _ hz)), rfl, flat_ints _, ?_, ?_, fun m z' hm hz' => ?_, q _ Z2 H2 (g1.trans g2) .int⟩
    · rw [List.getElem?_map, List.getElem?_map, hat]; exact rfl
    · rw [eqV_int]; exact decide_eq_true rfl
    · rw [List.getElem?_map, List.getElem?_map] at hz'
      obtain ⟨y, hy, rfl⟩ := Option.map_eq_some_iff.mp hz'
      obtain ⟨y2, hy2, rfl⟩ := Option.map_eq_some_iff.mp hy
      rw [eqV_int]
      refine decide_eq_false fun e => ?_
      obtain ⟨h1, h2⟩ := List.getElem?_eq_some_iff.mp hy2
      have := List.not_of_lt_findIdx (xs := xs) (p := fun z => z == n) hm
      rw [h2] at this
      have e' : y2 = n := by
        have : (y2 : Int) = n := e
        omega
      simp [e'] at this
/-! ### isinstance -/
theorem de_isi {T t : String} {tn : Str} {r : Bool} (hx : DE X a ρ d) (ht : ∀ v Z H, Ex Z H → Rep X.K Z v d → TyX X.K H v (.type t)) (hk : kitB t T = some r) (hm : X.mg "isinstance" = none) (hmT : X.mg tn = none) (hvT : bootBuiltins tn = some (.type T) := by decide +kernel) (hg : Gl X "isinstance" := by rfl) (hgT : Gl X tn := by rfl) (hnT : tn ≠ "__name__" := by decide) (hdT : (tn == ("__debug__" : Str)) = false := by decide)
    (he : starEach [a, .Name tn p2] X.env = (false, eval a X.env) :: starEach [.Name tn p2] X.env := by rfl) (he2 : starEach [.Name tn p2] X.env = (false, eval (.Name tn p2) X.env) :: starEach [] X.env := by rfl) (hpl : (backTo pos (starEach [.Name tn p2] X.env)).any (·.1) = false := by rfl) :
    DE X (.Call (.Name "isinstance" p) [a, .Name tn p2] [] pos) ρ (.bl r) := fun E Z H σ S Q q =>
  we_pe (pe_callB call_isi hg hm (by decide +kernel) (pa_cons pe_we (pa_cons (pe_bltn (v := .ty T) hgT hmT hvT rfl hnT hdT) pa_nil he2) he) (by decide) (by decide) he hpl)
    (hx E Z H σ S _ fun v Z1 H1 g1 r1 => ⟨v, .ty T, .type t, .type T, r, rfl, .ty T, ht v Z1 H1 g1.zh r1, kit_ty hk, q _ Z1 H1 g1 .bl⟩)
theorem ty_int {K : PySem.W.Frag} {i : Int} : ∀ v Z H, Ex Z H → Rep K Z v (.int i) → TyX K H v (.type "int") := fun v Z H zh r => by cases r; exact .base (.int i)
theorem ty_non {K : PySem.W.Frag} : ∀ v Z H, Ex Z H → Rep K Z v .non → TyX K H v (.type "NoneType") := fun v Z H zh r => by cases r; exact .base .non
theorem ty_tup {K : PySem.W.Frag} {ds : List D} : ∀ v Z H, Ex Z H → Rep K Z v (.tup ds) → TyX K H v (.type "tuple") := fun v Z H zh r => by
  cases r with
  | tup h _ =>
    rcases h with h | ⟨o, h⟩
    · exact .base (.tup (zh _ _ h))
    · exact .fTuple (zh _ _ h)
end
end DL
set_option maxHeartbeats 4000000
namespace DL
open PySem PySem.Spec PyProof.Rows L2
/-! ### written data -/
mutual
def litD : Expr → Option D
  | .Constant (.int i) _ _ => some (.int i)
  | .List es _ => match litDs es with
    | some ds => if ds.length ≤ 16777216 then some (.lst ds) else none
    | none => none
  | .Tuple es _ _ => match litDs es with
    | some ds => if ds.length ≤ 16777216 then some (.tup ds) else none
    | none => none
  | _ => none
def litDs : List Expr → Option (List D)
  | [] => some []
  | e :: es => match litD e, litDs es with
    | some d, some ds => some (d :: ds)
    | _, _ => none
end
theorem star_lit {e : Expr} {es : List Expr} {env : Env} {d : D} (h : litD e = some d) : starEach (e :: es) env = (false, eval e env) :: starEach es env := by
  cases e <;> first | rfl | (unfold litD at h; cases h)
mutual
theorem lit_ok {X : Cx} {ρ : List Sl} : ∀ (e : Expr) {d : D}, litD e = some d → DE X e ρ d
  | .Constant c j pos, d, h => by
    cases c <;> first | (unfold litD at h; cases h; exact de_int) | (unfold litD at h; cases h)
  | .List es pos, d, h => by
    unfold litD at h
    cases hds : litDs es with
    | none => rw [hds] at h; cases h
    | some ds =>
      rw [hds] at h
      by_cases hz : ds.length ≤ 16777216
      · simp only [if_pos hz] at h
        cases h
        exact de_of_do (do_lstl (lits_ok es hds) hz)
      · simp only [if_neg hz] at h
        cases h
  | .Tuple es x pos, d, h => by
    unfold litD at h
    cases hds : litDs es with
    | none => rw [hds] at h; cases h
    | some ds =>
      rw [hds] at h
      by_cases hz : ds.length ≤ 16777216
      · simp only [if_pos hz] at h
        cases h
        exact de_tupl (lits_ok es hds) hz
      · simp only [if_neg hz] at h
        cases h
  | .BoolOp _ _ _, d, h => by unfold litD at h; cases h
  | .NamedExpr _ _ _, d, h => by unfold litD at h; cases h
  | .BinOp _ _ _ _, d, h => by unfold litD at h; cases h
  | .UnaryOp _ _ _, d, h => by unfold litD at h; cases h
  | .Lambda _ _ _ _, d, h => by unfold litD at h; cases h
  | .IfExp _ _ _ _, d, h => by unfold litD at h; cases h
  | .Dict _ _ _, d, h => by unfold litD at h; cases h
  | .Set _ _ _, d, h => by unfold litD at h; cases h
  | .ListComp _ _ _ _, d, h => by unfold litD at h; cases h
  | .SetComp _ _ _ _, d, h => by unfold litD at h; cases h
  | .DictComp _ _ _ _ _, d, h => by unfold litD at h; cases h
  | .GeneratorExp _ _ _ _, d, h => by unfold litD at h; cases h
  | .Await _ _, d, h => by unfold litD at h; cases h
  | .Yield _ _, d, h => by unfold litD at h; cases h
  | .YieldFrom _ _, d, h => by unfold litD at h; cases h
  | .Compare _ _ _ _, d, h => by unfold litD at h; cases h
  | .Call _ _ _ _, d, h => by unfold litD at h; cases h
  | .FormattedValue _ _ _ _, d, h => by unfold litD at h; cases h
  | .JoinedStr _ _, d, h => by unfold litD at h; cases h
  | .Attribute _ _ _, d, h => by unfold litD at h; cases h
  | .Subscript _ _ _, d, h => by unfold litD at h; cases h
  | .Starred _ _, d, h => by unfold litD at h; cases h
  | .Name _ _, d, h => by unfold litD at h; cases h
  | .Slice _ _ _ _, d, h => by unfold litD at h; cases h
theorem lits_ok {X : Cx} {ρ : List Sl} : ∀ (es : List Expr) {ds : List D}, litDs es = some ds → DA X es ρ ds
  | [], ds, h => by unfold litDs at h; cases h; exact da_nil
  | e :: es, ds, h => by
    unfold litDs at h
    cases h1 : litD e with
    | none => rw [h1] at h; cases h
    | some d =>
      cases h2 : litDs es with
      | none => rw [h1, h2] at h; cases h
      | some ds' =>
        rw [h1, h2] at h
        cases h
        exact da_cons (lit_ok e h1) (lits_ok es h2) (star_lit h1)
end
end DL
namespace DL
open PySem PySem.Spec PyProof.Rows L2
/-! ### a goal that is not looked into -/
structure Wr (p : Prop) : Prop where
  out : p
section
variable {X : Cx} {e : Expr} {ρ : List Sl} {d : D} {x : Str} {pos pos' : Pos} {P : Po}
theorem wds_set (i : Nat) (hN : X.N.Nodup) (he : Wr (DE X e ρ d)) (h : P.nx (ρ.set i (.val d))) (hi : X.N[i]? = some x := by rfl) (hx : Loc X.env.scope x := by first | exact .inl rfl | exact .inr rfl) (hs : swapsWith e (some (.Name x pos')) pos.line X.env = pure false := by kernel_rfl)
    (hf : X.fn x = true ∨ X.env.scope.names.lookup x = some .local := by first | exact .inl rfl | exact .inr rfl) : Wr (DS X (.Assign [.Name x pos'] e pos) ρ P) := ⟨ds_set i hN he.out h hi hx hs hf⟩
theorem wis {d' : D} (h : Wr (DE X e ρ d)) (k : d = d') : Wr (DE X e ρ d') := k ▸ h
theorem wcat {a b : Expr} {ds es : List D} (ha : DE X a ρ (.lst ds)) (hb : litD b = some (.lst es)) (hz : ds.length + es.length ≤ 16777216) : Wr (DE X (.BinOp a .Add b pos) ρ (.lst (ds ++ es))) := ⟨de_of_do (do_cat ha (lit_ok b hb) (by rw [sizeLine_eq]; exact hz))⟩
theorem dss_consW {st : Stmt} {sts : List Stmt} (h : Wr (DS X st ρ { P with nx := fun ρ' => DSs X sts ρ' P })) : DSs X (st :: sts) ρ P := dss_cons h.out
theorem wlit {e : Expr} {d : D} (h : litD e = some d) : Wr (DE X e ρ d) := ⟨lit_ok e h⟩
theorem wcall {k : Nat} {R : List D → Res → Prop} {es : List Expr} {ds : List D} {p : Pos} (F : DefOk X.prog X.w X.K X.mg X.base x k R) (hr : Room k X.A) (ha : Wr (DA X (e :: es) ρ ds)) (hR : R ds (.ok d)) (hg : Gl X x := by rfl) (hdb : (x == ("__debug__" : Str)) = false := by decide)
    (he : starEach (e :: es) X.env = (false, eval e X.env) :: starEach es X.env := by kernel_rfl) (hpl : (backTo pos (starEach es X.env)).any (·.1) = false := by kernel_rfl) : Wr (DE X (.Call (.Name x p) (e :: es) [] pos) ρ d) := ⟨de_call F hr ha.out hR hg hdb he hpl⟩
theorem wda_nil : Wr (DA X [] ρ []) := ⟨da_nil⟩
theorem wda_cons {es : List Expr} {ds : List D} (h : Wr (DE X e ρ d)) (h' : Wr (DA X es ρ ds)) (hs : starEach (e :: es) X.env = (false, eval e X.env) :: starEach es X.env := by kernel_rfl) : Wr (DA X (e :: es) ρ (d :: ds)) := ⟨da_cons h.out h'.out hs⟩
theorem wixLf {α : Type} {f : α → D} {xs : List α} {a b : Expr} {i : Nat} {y : α} (ha : Wr (DE X a ρ (.lst (xs.map f)))) (hb : DE X b ρ (.int (i : Nat))) (h : xs[i]? = some y) (hs : PlainIx b := by intro _ _; rfl) : Wr (DE X (.Subscript a b pos) ρ (f y)) := ⟨de_ixLf ha.out hb h hs⟩
end
end DL
set_option maxHeartbeats 4000000
namespace DL
open PySem PySem.Spec PyProof.Rows L2
/-! ### the menu -/
def mn0 : List (List (List Nat)) := [[[0]], [[1, 0]], [[1, 2, 0]], [[1, 2, 3, 0]], [[1, 0, 2, 3], [0, 1, 3, 2]], [[1, 2, 3, 4, 0]]]
def mn1 : List (List (List Nat)) := [[[1, 2, 0], [1, 0, 2]], [[1, 2, 0, 3, 4], [0, 1, 2, 4, 3]], [[1, 2, 3, 0], [0, 3, 2, 1]]]
def mn2 : List (List (List Nat)) := [[[2, 3, 1, 0, 7, 6, 4, 5], [4, 5, 6, 7, 1, 0, 3, 2]], [[1, 2, 3, 0, 4, 5], [0, 1, 2, 3, 5, 4]]]
def mn3 : List (List (List Nat)) := [[[1, 0, 2, 3, 4, 5], [0, 1, 3, 2, 4, 5], [0, 1, 2, 3, 5, 4]], [[1, 2, 3, 4, 5, 6, 7, 0]]]
def mn4 : List (List (List Nat)) := [[[1, 2, 0, 3, 4, 5], [0, 1, 2, 4, 5, 3]], [[1, 2, 3, 4, 0], [0, 4, 3, 2, 1]]]
def mn5 : List (List (List Nat)) := [[[1, 2, 0, 3], [1, 0, 3, 2]], [[1, 2, 0, 3, 4, 5, 6], [0, 2, 1, 4, 5, 6, 3]]]
def mn6 : List (List (List Nat)) := [[[1, 2, 0, 3, 4], [1, 0, 2, 3, 4], [0, 1, 2, 4, 3]], [[1, 2, 3, 4, 5, 6, 7, 0], [0, 7, 6, 5, 4, 3, 2, 1]]]
def mn7 : List (List (List Nat)) := [[[1, 2, 3, 4, 0], [0, 2, 4, 1, 3]], [[1, 2, 3, 4, 5, 6, 0], [0, 2, 4, 6, 1, 3, 5]]]
def mn8 : List (List (List Nat)) := [[[1, 2, 3, 0], [1, 0, 2, 3]]]
def mnA : List (List (List Nat)) := mn0 ++ mn1 ++ mn2 ++ mn3 ++ mn4 ++ mn5 ++ mn6 ++ mn7 ++ mn8
theorem mn_len : mnA.length = 22 := by decide +kernel
theorem mn_at {c : Nat} (h : c ∈ chL) : mnA[c % 22]? = some (genL c) := by
  have : chL.all (fun c => decide (mnA[c % 22]? = some (genL c))) = true := by decide +kernel
  exact of_decide_eq_true (List.all_eq_true.mp this c h)
abbrev gD3 (g : List (List (List Nat))) : D := .lst (g.map fun r => lF lN r)
theorem gD3_app (a b : List (List (List Nat))) : D.lst ((a.map fun r => lF lN r) ++ (b.map fun r => lF lN r)) = gD3 (a ++ b) := by rw [← List.map_append]
section
variable {P : Program} {w : World} {K : PySem.W.Frag} {mg : Str → Option Value} {base : Heap} {f CG CC CT C : Addr} {fd : FuncData} {k : Nat}
def R_lgens (ds : List D) (r : Res) : Prop := ∃ c : Nat, ds = [nI c] ∧ c ∈ chL ∧ r = .ok (lF lN (genL c))
abbrev s_lgens : Stmt := top 59
abbrev N_lgens : List Str := ["_law_choice", "_law_menu"]
theorem sc_lgens : FnScope N_lgens ["_law_choice"] (defScope s_lgens) := ⟨rfl, rfl, rfl, by decide +kernel, rfl, by decide +kernel, by decide +kernel⟩
theorem ok_lgens (T : Txt K mg) (F : FnP K "_law_generators" s_lgens f fd) (hm : mg "_law_generators" = some (.ref f)) : DefOk P w K mg base "_law_generators" (k + 1) R_lgens := by
  refine def_ok F hm sc_lgens (fun ds r ⟨_, e, _⟩ => by rw [e]; rfl) (fun _ _ _ _ _ _ us hl => match us, hl with | [_], _ => rfl) fun cdv A outer s H E hr ds r hR => ?_
  obtain ⟨c, rfl, hc, rfl⟩ := hR
  have nd := sc_lgens.nd
  have zl := sizeLine_eq
  refine dss_cons ?_
  refine Wr.out ?_
  refine wds_set 1 nd (d := gD3 mn0) (wlit (by kernel_rfl)) ?_
  refine dss_cons ?_
  refine Wr.out ?_
  refine wds_set 1 nd (d := gD3 (mn0 ++ mn1)) (wis (wcat (ds := (mn0).map fun r => lF lN r) (es := mn1.map fun r => lF lN r) (de_var 1) (by kernel_rfl) (by rw [List.length_map, List.length_map]; exact Nat.le_of_ble_eq_true rfl)) (gD3_app _ _)) ?_
  refine dss_cons ?_
  refine Wr.out ?_
  refine wds_set 1 nd (d := gD3 (mn0 ++ mn1 ++ mn2)) (wis (wcat (ds := (mn0 ++ mn1).map fun r => lF lN r) (es := mn2.map fun r => lF lN r) (de_var 1) (by kernel_rfl) (by rw [List.length_map, List.length_map]; exact Nat.le_of_ble_eq_true rfl)) (gD3_app _ _)) ?_
  refine dss_cons ?_
  refine Wr.out ?_
  refine wds_set 1 nd (d := gD3 (mn0 ++ mn1 ++ mn2 ++ mn3)) (wis (wcat (ds := (mn0 ++ mn1 ++ mn2).map fun r => lF lN r) (es := mn3.map fun r => lF lN r) (de_var 1) (by kernel_rfl) (by rw [List.length_map, List.length_map]; exact Nat.le_of_ble_eq_true rfl)) (gD3_app _ _)) ?_
  refine dss_cons ?_
  refine Wr.out ?_
  refine wds_set 1 nd (d := gD3 (mn0 ++ mn1 ++ mn2 ++ mn3 ++ mn4)) (wis (wcat (ds := (mn0 ++ mn1 ++ mn2 ++ mn3).map fun r => lF lN r) (es := mn4.map fun r => lF lN r) (de_var 1) (by kernel_rfl) (by rw [List.length_map, List.length_map]; exact Nat.le_of_ble_eq_true rfl)) (gD3_app _ _)) ?_
  refine dss_cons ?_
  refine Wr.out ?_
  refine wds_set 1 nd (d := gD3 (mn0 ++ mn1 ++ mn2 ++ mn3 ++ mn4 ++ mn5)) (wis (wcat (ds := (mn0 ++ mn1 ++ mn2 ++ mn3 ++ mn4).map fun r => lF lN r) (es := mn5.map fun r => lF lN r) (de_var 1) (by kernel_rfl) (by rw [List.length_map, List.length_map]; exact Nat.le_of_ble_eq_true rfl)) (gD3_app _ _)) ?_
  refine dss_cons ?_
  refine Wr.out ?_
  refine wds_set 1 nd (d := gD3 (mn0 ++ mn1 ++ mn2 ++ mn3 ++ mn4 ++ mn5 ++ mn6)) (wis (wcat (ds := (mn0 ++ mn1 ++ mn2 ++ mn3 ++ mn4 ++ mn5).map fun r => lF lN r) (es := mn6.map fun r => lF lN r) (de_var 1) (by kernel_rfl) (by rw [List.length_map, List.length_map]; exact Nat.le_of_ble_eq_true rfl)) (gD3_app _ _)) ?_
  refine dss_cons ?_
  refine Wr.out ?_
  refine wds_set 1 nd (d := gD3 (mn0 ++ mn1 ++ mn2 ++ mn3 ++ mn4 ++ mn5 ++ mn6 ++ mn7)) (wis (wcat (ds := (mn0 ++ mn1 ++ mn2 ++ mn3 ++ mn4 ++ mn5 ++ mn6).map fun r => lF lN r) (es := mn7.map fun r => lF lN r) (de_var 1) (by kernel_rfl) (by rw [List.length_map, List.length_map]; exact Nat.le_of_ble_eq_true rfl)) (gD3_app _ _)) ?_
  refine dss_cons ?_
  refine Wr.out ?_
  refine wds_set 1 nd (d := gD3 (mn0 ++ mn1 ++ mn2 ++ mn3 ++ mn4 ++ mn5 ++ mn6 ++ mn7 ++ mn8)) (wis (wcat (ds := (mn0 ++ mn1 ++ mn2 ++ mn3 ++ mn4 ++ mn5 ++ mn6 ++ mn7).map fun r => lF lN r) (es := mn8.map fun r => lF lN r) (de_var 1) (by kernel_rfl) (by rw [List.length_map, List.length_map]; exact Nat.le_of_ble_eq_true rfl)) (gD3_app _ _)) ?_
  refine dss_one (ds_ret (de_ixLf (f := fun r => lF lN r) (xs := mnA) (i := c % 22) (de_var 1) (DE.is (de_mod (de_intc (da_cons (de_var 0) da_nil) T.nInt) (de_lenL (ds := mnA.map fun r => lF lN r) (de_var 1) T.nLen) (by rw [List.length_map, mn_len]; omega)) ?_) (mn_at hc)) rfl)
  rw [List.length_map, mn_len]
  rfl
end
end DL
set_option maxHeartbeats 4000000
namespace DL
open PySem PySem.Spec PyProof.Rows L2
/-! ### close -/
def kOf (q : List Nat) : List Key := keyI (q.map Int.ofNat)
def kvOf (fnd : List (List Nat)) : List (List Key × V) := fnd.map fun r => (kOf r, V.bl true)
theorem kOf_inj {a b : List Nat} : kOf a = kOf b ↔ a = b := by
  constructor
  · intro h
    unfold kOf keyI at h
    have h1 := (List.map_inj_right (f := Sum.inl (β := Str)) (fun x y e => Sum.inl.inj e)).mp h
    exact ofNat_inj.mp h1
  · intro h; rw [h]
theorem kv_in (fnd : List (List Nat)) (q : List Nat) : (valV (kvOf fnd) (kOf q)).isSome = decide (q ∈ fnd) := by
  rw [← valV_any]
  unfold kvOf
  rw [List.any_map, Bool.eq_iff_iff, List.any_eq_true, decide_eq_true_eq]
  constructor
  · rintro ⟨r, hr, e⟩
    have := of_decide_eq_true e
    exact (kOf_inj.mp this) ▸ hr
  · intro h
    exact ⟨q, h, decide_eq_true rfl⟩
theorem kv_put {fnd : List (List Nat)} {q : List Nat} (h : q ∉ fnd) : putK (kvOf fnd) (kOf q) (.bl true) = kvOf (fnd ++ [q]) := by
  have : valV (kvOf fnd) (kOf q) = none := by
    have := kv_in fnd q
    rw [decide_eq_false h] at this
    exact Option.not_isSome_iff_eq_none.mp (by rw [this]; exact Bool.false_ne_true)
  rw [putK_new _ this]
  unfold kvOf
  rw [List.map_append]; rfl
structure RowsP (p B : Nat) (fnd : List (List Nat)) : Prop where
  r : ∀ r ∈ fnd, r.length = p ∧ ∀ x ∈ r, x < p
  len : fnd.length ≤ B
theorem comp_row {p : Nat} {mv a : List Nat} (hm : mv.length = p ∧ ∀ x ∈ mv, x < p) (ha : a.length = p ∧ ∀ x ∈ a, x < p) : (compN mv a).length = p ∧ ∀ x ∈ compN mv a, x < p := by
  unfold compN
  refine ⟨by rw [List.length_map, ha.1], fun x hx => ?_⟩
  obtain ⟨y, hy, rfl⟩ := List.mem_map.mp hx
  exact hm.2 _ (List.mem_of_getElem? (getD_some 0 (by rw [hm.1]; exact ha.2 y hy)))
theorem RowsP.step {p B : Nat} {fnd : List (List Nat)} (h : RowsP p B fnd) {a mv : List Nat} (hm : mv.length = p ∧ ∀ x ∈ mv, x < p) (ha : a.length = p ∧ ∀ x ∈ a, x < p) : RowsP p (B + 1) (stepC1 a fnd mv) := by
  unfold stepC1
  split
  · exact ⟨h.r, by have := h.len; omega⟩
  · refine ⟨fun r hr => ?_, by rw [List.length_append]; have := h.len; show fnd.length + 1 ≤ _; omega⟩
    rcases List.mem_append.mp hr with q | q
    · exact h.r r q
    · rw [List.mem_singleton.mp q]; exact comp_row hm ha
theorem stepC1_pre {a mv : List Nat} {fnd : List (List Nat)} {k : Nat} (h : k < fnd.length) : k < (stepC1 a fnd mv).length ∧ (stepC1 a fnd mv).getD k [] = fnd.getD k [] := by
  unfold stepC1
  split
  · exact ⟨h, rfl⟩
  · exact ⟨by rw [List.length_append]; omega, getD_app h⟩
theorem take_foldl {α β : Type} (f : β → α → β) (z : β) {xs : List α} {i : Nat} {x : α} (h : xs[i]? = some x) : (xs.take (i + 1)).foldl f z = f ((xs.take i).foldl f z) x := by
  rw [List.take_add_one, h, List.foldl_append]; rfl
section
variable {P : Program} {w : World} {K : PySem.W.Frag} {mg : Str → Option Value} {base : Heap} {f CG CC CT C : Addr} {fd : FuncData} {k : Nat}
def R_lclose (ds : List D) (r : Res) : Prop := ∃ (gens srt : List (List Nat)) (p : Nat), ds = [lF lN gens] ∧ 0 < gens.length ∧ gens.length ≤ 1000 ∧ 0 < p ∧ p ≤ 16 ∧ (∀ g ∈ gens, g.length = p ∧ ∀ x ∈ g, x < p) ∧ srt.Perm (closeF gens) ∧ (srt.map codeK).Pairwise (· < ·) ∧ (closeF gens).length ≤ 60 ∧ r = .ok (lF kN srt)
abbrev s_lclose : Stmt := top 60
abbrev N_lclose : List Str := ["_law_generators_here", "_law_one", "_law_found", "_law_known", "_law_k", "_law_move", "_law_made", "_law_x"]
theorem sc_lclose : FnScope N_lclose ["_law_generators_here"] (defScope s_lclose) := ⟨rfl, rfl, rfl, by decide +kernel, rfl, by decide +kernel, by decide +kernel⟩
theorem ok_lclose (T : Txt K mg) (F : FnP K "_law_close" s_lclose f fd) (hm : mg "_law_close" = some (.ref f)) : DefOk P w K mg base "_law_close" (k + 1) R_lclose := by
  refine def_ok F hm sc_lclose (fun ds r ⟨_, _, _, e, _⟩ => by rw [e]; rfl) (fun _ _ _ _ _ _ us hl => match us, hl with | [_], _ => rfl) fun cdv A outer s H E hr ds r hR => ?_
  obtain ⟨gens, srt, p, rfl, hg0, hg1, hp0, hp1, hg, hpm, hpw, hfew, rfl⟩ := hR
  have nd := sc_lclose.nd
  have zl := sizeLine_eq
  have hu := hu_of hr
  have h0 : gens[0]? = some (gens.getD 0 []) := getD_some [] hg0
  have hgp := hg _ (List.mem_of_getElem? h0)
  refine dss_cons (ds_set 1 nd (d := kN (List.range p)) (de_tupkR (n := p) (DE.is (de_lenL (ds := (gens.getD 0 []).map nI) (de_ixLf (f := lN) (xs := gens) (i := 0) (de_var 0) de_int h0) T.nLen) (by rw [List.length_map, hgp.1])) (by omega) T.nTuple T.nRange) ?_)
  refine dss_cons (ds_setO 2 nd (do_lstl (da_cons (de_var 1) da_nil)) ?_)
  refine dss_dict 3 nd (dn_one (ns := (List.range p).map Int.ofNat) (vv := .bl true) hu (DE.is (de_var 1) (kN_ints _)) de_bl (fun Z v r => by cases r; rfl)) fun d => ?_
  have hone : RowsP p 1 [List.range p] := ⟨fun r hr => by rw [List.mem_singleton.mp hr]; exact ⟨List.length_range, fun x hx => List.mem_range.mp hx⟩, by simp⟩
  have hB : gens.length ≤ 1000 := hg1
  refine dsks_cons (dsk_for (List.range 60) nI [4] (fun k => [nI k]) (passes_of rfl) (di_rng (n := 60) de_int T.nRange (by omega)) (fun _ _ => dg_name 4 nd) (fun i kvs ρ' => ∃ fnd s1 s2 s3 s4, fnd = ((List.range 60).take i).foldl (stepC gens) [List.range p] ∧ RowsP p (1 + i * gens.length) fnd ∧ kvs = kvOf fnd ∧ ρ' = [.val (lF lN gens), .val (kN (List.range p)), .own (fnd.map kN), .raw (.ref d), s1, s2, s3, s4]) ?_ ?_ ?_)
  · exact ⟨_, _, _, _, _, rfl, by simpa using hone, rfl, rfl⟩
  · rintro i x kvs ρ' hx ⟨fnd, s1, s2, s3, s4, efnd, rp, rfl, rfl⟩
    obtain ⟨hi1, hi2⟩ := List.getElem?_eq_some_iff.mp hx
    have ex : x = i := by simpa using hi2.symm
    subst ex
    have hi60 : x < 60 := by simpa using hi1
    have efn := take_foldl (stepC gens) [List.range p] hx
    rw [← efnd] at efn
    have hbig : 1 + x * gens.length + gens.length ≤ 70000 := by
      have : x * gens.length ≤ 60 * 1000 := Nat.mul_le_mul (by omega) hg1
      omega
    refine dsks_one (dsk_if (k := decide (x < fnd.length)) 3 (dt_lend (ds := fnd.map kN) 2 (DT.is (dt_cmp op_lt rd_lt (de_var 4) (de_lenL (ds := fnd.map kN) (de_var 2) T.nLen) (nomark _)) (by rw [List.length_map]; exact dec_lt _ _))) (fun hk => ?_) fun hk => ?_)
    · have hxf := of_decide_eq_true hk
      have ha0 : fnd[x]? = some (fnd.getD x []) := getD_some [] hxf
      have har := rp.r _ (List.mem_of_getElem? ha0)
      refine dsks_one (dsk_for gens lN [5] (fun g => [lN g]) (passes_of rfl) (di_list (de_var 0)) (fun _ _ => dg_name 5 nd) (fun j kvs ρ' => ∃ fn2 s2 s3 s4, fn2 = (gens.take j).foldl (stepC1 (fnd.getD x [])) fnd ∧ RowsP p (1 + x * gens.length + j) fn2 ∧ (x < fn2.length ∧ fn2.getD x [] = fnd.getD x []) ∧ kvs = kvOf fn2 ∧ ρ' = [.val (lF lN gens), .val (kN (List.range p)), .own (fn2.map kN), .raw (.ref d), .val (nI x), s2, s3, s4]) ?_ ?_ ?_)
      · exact ⟨fnd, s2, s3, s4, rfl, rp, ⟨hxf, rfl⟩, rfl, rfl⟩
      · rintro j mv kvs ρ' hmv ⟨fn2, t2, t3, t4, e2, rp2, ⟨hx2, hx3⟩, rfl, rfl⟩
        have hmr := hg mv (List.mem_of_getElem? hmv)
        have hj : j < gens.length := (List.getElem?_eq_some_iff.mp hmv).1
        have e3 := take_foldl (stepC1 (fnd.getD x [])) fnd hmv
        rw [← e2] at e3
        have hl2 : fn2.length < 70000 := by have := rp2.len; omega
        refine dsks_cons (dsk_lift (ds_set 6 nd (d := kN (compN mv (fnd.getD x []))) (DE.is (de_tupkL (da_cons (de_of_do (do_lc0 (fnd.getD x []) nI [7] (fun a => [nI a]) (fun a => nI (mv.getD a 0)) [("_law_x", 7)] nd (blkOk_by (N := N_lclose) (sc := defScope s_lclose) (by decide +kernel)) (di_tup (DE.weak (de_ixO (ds := fn2.map kN) 2 (k := (x : Nat)) (de_var 4) (atI_nat (by rw [List.getElem?_map, getD_some [] hx2, hx3]; rfl))) (wd_k _))) ?_ ?_ ?_)) da_nil) T.nTuple) ?_) ?_))
        · rw [har.1]; omega
        · exact fun _ _ _ _ _ z _ => dg_name 7 nd
        · exact fun _ _ _ _ _ z hz => de_ixLf (f := nI) (xs := mv) (i := z) (de_var 5) (de_var 7) (getD_some 0 (by rw [hmr.1]; exact har.2 z hz))
        · show D.tupk _ = D.tupk (List.map nI (List.map _ _)); rw [List.map_map]; rfl
        · refine dsks_one (dsk_if (k := !decide (compN mv (fnd.getD x []) ∈ fn2)) 3 (DT.is (dt_ninD (ns := (compN mv (fnd.getD x [])).map Int.ofNat) hu (DE.is (de_var 6) (kN_ints _)) (de_var 3)) (by rw [← kv_in]; rfl)) (fun hk => ?_) fun hk => ?_)
          · have hnin : compN mv (fnd.getD x []) ∉ fn2 := by
              intro q
              rw [decide_eq_true q] at hk
              cases hk
            refine dsks_cons (dsk_put (ns := (compN mv (fnd.getD x [])).map Int.ofNat) (vv := .bl true) 3 hu de_bl (fun Z v r => by cases r; rfl) (DE.is (de_var 6) (kN_ints _)) (by unfold kvOf; rw [List.length_map]; omega) ?_)
            refine dsks_one (dsk_lift (ds_append (ds := fn2.map kN) (d := kN (compN mv (fnd.getD x []))) 2 (de_var 6) (by rw [List.length_map]; omega) ?_))
            refine ⟨stepC1 (fnd.getD x []) fn2 mv, .val (lN mv), .val (kN (compN mv (fnd.getD x []))), t4, e3.symm, ?_, ?_, ?_, ?_⟩
            · exact rp2.step hmr har
            · have := stepC1_pre (a := fnd.getD x []) (mv := mv) hx2
              exact ⟨this.1, this.2.trans hx3⟩
            · show putK (kvOf fn2) (kOf _) _ = _
              rw [kv_put hnin]
              unfold stepC1
              rw [if_neg hnin]
            · unfold stepC1
              rw [if_neg hnin, List.map_append]
              rfl
          · have hin : compN mv (fnd.getD x []) ∈ fn2 := by
              apply Classical.byContradiction
              intro q
              rw [decide_eq_false q] at hk
              cases hk
            refine dsks_nil ⟨stepC1 (fnd.getD x []) fn2 mv, .val (lN mv), .val (kN (compN mv (fnd.getD x []))), t4, e3.symm, rp2.step hmr har, ?_, ?_, ?_⟩
            · have := stepC1_pre (a := fnd.getD x []) (mv := mv) hx2
              exact ⟨this.1, this.2.trans hx3⟩
            · unfold stepC1; rw [if_pos hin]
            · unfold stepC1; rw [if_pos hin]; rfl
      · rintro kvs ρ' ⟨fn2, t2, t3, t4, e2, rp2, _, rfl, rfl⟩
        rw [List.take_length] at e2
        refine ⟨fn2, _, _, _, _, ?_, ?_, rfl, rfl⟩
        · rw [efn, e2]; unfold stepC; rw [if_pos hxf]
        · rw [Nat.add_mul, Nat.one_mul]; rw [show 1 + (x * gens.length + gens.length) = 1 + x * gens.length + gens.length by omega]; exact rp2
    · have hxf := of_decide_eq_false hk
      refine dsks_nil ⟨fnd, .val (nI x), s2, s3, s4, ?_, ⟨rp.r, ?_⟩, rfl, rfl⟩
      · rw [efn]; unfold stepC; rw [if_neg hxf]
      · have := rp.len
        rw [Nat.add_mul, Nat.one_mul]; omega
  · rintro kvs ρ' ⟨fnd, s1, s2, s3, s4, efnd, rp, rfl, rfl⟩
    have efin : fnd = closeF gens := by
      rw [efnd, List.take_of_length_le (by rw [List.length_range]; exact Nat.le_refl _)]
      unfold closeF
      rw [hgp.1]
    refine dsks_freeze 3 (dss_freeze (ds := fnd.map kN) 2 (dss_one (ds_ret (de_of_do (do_sortT (rows := fnd) (srt := srt) (dd := p) hp0 (fun r hr => ?_) (by rw [efin]; exact hpm) hpw (by rw [efin]; omega) (da_cons (de_var 2) da_nil) T.nSorted)) rfl)))
    obtain ⟨h1, h2⟩ := rp.r r hr
    exact ⟨h1, fun x hx => by have := h2 x hx; omega⟩
end
end DL
set_option maxHeartbeats 4000000
namespace DL
open PySem PySem.Spec PyProof.Rows L2
/-! ### table -/
def kvP (moves : List (List Nat)) (i : Nat) : List (List Key × V) := (List.range i).map fun j => (kOf (moves.getD j []), V.int (j : Nat))
theorem nd_at {moves : List (List Nat)} (h : moves.Nodup) {i j : Nat} (hi : i < moves.length) (hj : j < moves.length) (e : moves.getD i [] = moves.getD j []) : i = j := by
  rw [List.getD_eq_getElem?_getD, List.getD_eq_getElem?_getD, List.getElem?_eq_getElem hi, List.getElem?_eq_getElem hj] at e
  rcases Nat.lt_trichotomy i j with q | q | q
  · exact absurd e (List.pairwise_iff_getElem.mp h i j hi hj q)
  · exact q
  · exact absurd e.symm (List.pairwise_iff_getElem.mp h j i hj hi q)
theorem kvP_succ (moves : List (List Nat)) (i : Nat) : kvP moves (i + 1) = kvP moves i ++ [(kOf (moves.getD i []), V.int (i : Nat))] := by
  unfold kvP
  rw [List.range_succ, List.map_append]; rfl
theorem kvP_val {moves : List (List Nat)} (h : moves.Nodup) : ∀ i, i ≤ moves.length → ∀ j, j < moves.length → valV (kvP moves i) (kOf (moves.getD j [])) = if j < i then some (V.int (j : Nat)) else none
  | 0, _, j, hj => by rw [if_neg (Nat.not_lt_zero j)]; rfl
  | i + 1, hi, j, hj => by
    have hn := kvP_val h i (by omega) i (by omega)
    rw [if_neg (Nat.lt_irrefl i)] at hn
    rw [kvP_succ, valV_snoc _ _ _ _ hn]
    by_cases e : j = i
    · subst e; rw [if_pos rfl, if_pos (by omega)]
    · rw [if_neg (fun q => e (nd_at h hj (by omega) (kOf_inj.mp q))), kvP_val h i (by omega) j hj]
      by_cases q : j < i
      · rw [if_pos q, if_pos (by omega)]
      · rw [if_neg q, if_neg (by omega)]
theorem kvP_put {moves : List (List Nat)} (h : moves.Nodup) {i : Nat} (hi : i < moves.length) : putK (kvP moves i) (kOf (moves.getD i [])) (V.int (i : Nat)) = kvP moves (i + 1) := by
  have hn := kvP_val h i (by omega) i hi
  rw [if_neg (Nat.lt_irrefl i)] at hn
  rw [putK_new _ hn, kvP_succ]
theorem kvP_at {moves : List (List Nat)} (h : moves.Nodup) {q : List Nat} (hq : q ∈ moves) : valV (kvP moves moves.length) (kOf q) = some (V.int ((moves.findIdx fun z => z == q : Nat) : Int)) := by
  have hlt : moves.findIdx (fun z => z == q) < moves.length := List.findIdx_lt_length_of_exists ⟨q, hq, by simp⟩
  have hg : moves.getD (moves.findIdx fun z => z == q) [] = q := by
    rw [List.getD_eq_getElem?_getD, List.getElem?_eq_getElem hlt]
    have := List.findIdx_getElem (xs := moves) (p := fun z => z == q) (w := hlt)
    simpa using this
  have := kvP_val h moves.length (Nat.le_refl _) _ hlt
  rw [hg, if_pos hlt] at this
  exact this
section
variable {P : Program} {w : World} {K : PySem.W.Frag} {mg : Str → Option Value} {base : Heap} {f CG CC CT C : Addr} {fd : FuncData} {k : Nat}
def R_ltable (ds : List D) (r : Res) : Prop := ∃ (moves : List (List Nat)) (p : Nat), ds = [lF kN moves] ∧ moves.Nodup ∧ moves.length ≤ 1000 ∧ p ≤ 1000 ∧ (∀ r ∈ moves, r.length = p ∧ ∀ x ∈ r, x < p) ∧ (∀ a ∈ moves, ∀ b ∈ moves, compN b a ∈ moves) ∧ r = .ok (.lst ((List.range moves.length).map fun i => lN ((List.range moves.length).map (posM moves i))))
abbrev s_ltable : Stmt := top 61
abbrev N_ltable : List Str := ["_law_moves", "_law_place", "_law_k", "_law_x", "_law_b", "_law_a"]
theorem sc_ltable : FnScope N_ltable ["_law_moves"] (defScope s_ltable) := ⟨rfl, rfl, rfl, by decide +kernel, rfl, by decide +kernel, by decide +kernel⟩
theorem map_at {β : Type} (moves : List (List Nat)) (f : List Nat → β) : (List.range moves.length).map (fun i => f (moves.getD i [])) = moves.map f := by
  apply List.ext_getElem
  · simp
  · intro i h1 h2
    have h3 : i < moves.length := by simpa using h1
    rw [List.getElem_map, List.getElem_map, List.getElem_range, List.getD_eq_getElem?_getD, List.getElem?_eq_getElem h3]
    rfl
theorem ok_ltable (T : Txt K mg) (F : FnP K "_law_table" s_ltable f fd) (hm : mg "_law_table" = some (.ref f)) : DefOk P w K mg base "_law_table" (k + 1) R_ltable := by
  refine def_ok F hm sc_ltable (fun ds r ⟨_, _, e, _⟩ => by rw [e]; rfl) (fun _ _ _ _ _ _ us hl => match us, hl with | [_], _ => rfl) fun cdv A outer s H E hr ds r hR => ?_
  obtain ⟨moves, p, rfl, hnd, hl, hp, hrow, hcl, rfl⟩ := hR
  have nd := sc_ltable.nd
  have zl := sizeLine_eq
  have hu := hu_of hr
  refine dss_dict 1 nd dn_empty fun d => ?_
  refine dsks_cons (dsk_for (List.range moves.length) nI [2] (fun k => [nI k]) (passes_of rfl) (DI.is (di_rng (n := moves.length) (DE.is (de_lenL (ds := moves.map kN) (de_var 0) T.nLen) (by rw [List.length_map])) T.nRange (by omega)) rfl) (fun _ _ => dg_name 2 nd) (fun i kvs ρ' => ∃ s1, kvs = kvP moves i ∧ ρ' = [.val (lF kN moves), .raw (.ref d), s1, .no, .no, .no]) ⟨_, rfl, rfl⟩ ?_ ?_)
  · rintro i x kvs ρ' hx ⟨s1, rfl, rfl⟩
    obtain ⟨hi1, hi2⟩ := List.getElem?_eq_some_iff.mp hx
    have ex : x = i := by simpa using hi2.symm
    subst ex
    have hxl : x < moves.length := by simpa using hi1
    refine dsks_one (dsk_put (ns := (moves.getD x []).map Int.ofNat) (vv := .int (x : Nat)) 1 hu (de_var 2) (fun Z v r => by cases r; rfl) (DE.is (de_ixLf (f := kN) (xs := moves) (i := x) (de_var 0) (de_var 2) (getD_some [] hxl)) (kN_ints _)) (by unfold kvP; rw [List.length_map, List.length_range]; omega) ⟨.val (nI x), kvP_put hnd hxl, rfl⟩)
  · rintro kvs ρ' ⟨s1, rfl, rfl⟩
    rw [List.length_range]
    refine dsks_freeze 1 (dss_one (ds_ret (d := .lst (moves.map fun a => lN (moves.map fun b => moves.findIdx fun z => z == compN b a))) (de_of_do (do_lc0 moves kN [5] (fun a => [kN a]) (fun a => lN (moves.map fun b => moves.findIdx fun z => z == compN b a)) [("_law_a", 5), ("_law_b", 4), ("_law_x", 3)] nd (blkOk_by (by kernel_rfl)) (di_list (de_var 0)) ?_ ?_ ?_)) ?_))
    · omega
    · exact fun _ _ _ _ _ z _ => dg_name 5 nd
    · intro _ _ _ _ _ a ha
      refine DE.is (de_of_do (do_lc0 moves kN [4] (fun b => [kN b]) (fun b => nI (moves.findIdx fun z => z == compN b a)) [("_law_b", 4), ("_law_x", 3)] nd (blkOk_by (by kernel_rfl)) (di_list (de_var 0)) ?_ ?_ ?_)) (by show _ = D.lst (List.map nI (List.map _ _)); rw [List.map_map]; rfl)
      · omega
      · exact fun _ _ _ _ _ z _ => dg_name 4 nd
      · intro _ _ _ _ _ b hb
        have har := hrow a ha
        have hbr := hrow b hb
        refine de_dget (ns := (compN b a).map Int.ofNat) (vv := .int ((moves.findIdx fun z => z == compN b a : Nat) : Int)) hu (de_var 1) (DE.is (d := kN (compN b a)) (DE.is (de_tupkL (da_cons (de_of_do (do_lc0 a nI [3] (fun x => [nI x]) (fun x => nI (b.getD x 0)) [("_law_x", 3)] nd (blkOk_by (by kernel_rfl)) (di_tup (DE.weak (de_var 5) (wd_k _))) ?_ ?_ ?_)) da_nil) T.nTuple) ?_) (kN_ints _)) (kvP_at hnd (hcl a ha b hb)) (fun Z => .int)
        · rw [har.1]; omega
        · exact fun _ _ _ _ _ z _ => dg_name 3 nd
        · exact fun _ _ _ _ _ x hx => de_ixTf (f := nI) (xs := b) (i := x) (DE.weak (de_var 4) (wd_k _)) (de_var 3) (getD_some 0 (by rw [hbr.1]; exact har.2 x hx))
        · show D.tupk _ = D.tupk (List.map nI (List.map _ _)); rw [List.map_map]; rfl
    · show Res.ok _ = Res.ok _
      congr 2
      rw [← map_at moves]
      refine List.map_congr_left fun i hi => ?_
      show lN _ = lN _
      rw [← map_at moves]
      rfl
end
end DL
set_option maxHeartbeats 4000000
namespace DL
open PySem PySem.Spec PyProof.Rows L2
/-! ### renumbered -/
abbrev rkF (nums : List Nat) (n i : Nat) : Nat := (rankN nums n).getD i 0
abbrev plF (nums : List Nat) (n i : Nat) : Nat := (placeN (rankN nums n) n).getD i 0
theorem ren_of (nums : List Nat) {n : Nat} (h : 0 < n) : Ren n (rkF nums n) (plF nums n) := place_ren (rank_ok nums n) h
theorem rank_pre (nums : List Nat) (n i : Nat) (h : i ≤ n - 1) : RkOk n (((List.range (n - 1)).take i).foldl (rankS nums) (List.range n)) := by
  refine foldl_inv range_rk fun j hj xs q => ?_
  have := List.mem_range.mp (List.mem_of_mem_take hj)
  have h2 := Nat.mod_lt (nums.getD ((1 + j) % nums.length) 0) (show 0 < 1 + j by omega)
  exact q.swap (by omega) (by omega) (by omega) (by omega)
theorem ixN_nat {n j : Nat} (h : j < n) : ixN n ((j : Nat) : Int) = some j := by
  unfold ixN
  rw [if_pos (by omega), if_pos (by omega)]
  simp
section
variable {P : Program} {w : World} {K : PySem.W.Frag} {mg : Str → Option Value} {base : Heap} {f CG CC CT C : Addr} {fd : FuncData} {k : Nat}
def R_lrenum (ds : List D) (r : Res) : Prop := ∃ (n : Nat) (m : Nat → Nat → Nat) (nums : List Nat), ds = [lTab n m, lN nums] ∧ Grp n m ∧ n ≤ 1000 ∧ 0 < nums.length ∧ r = .ok (lTab n (renM m (rkF nums n) (plF nums n)))
abbrev s_lrenum : Stmt := top 62
abbrev N_lrenum : List Str := ["_law_table_here", "_law_numbers_here", "_law_ranked", "_law_k", "_law_other", "_law_held", "_law_place", "_law_b", "_law_a"]
theorem sc_lrenum : FnScope N_lrenum ["_law_table_here", "_law_numbers_here"] (defScope s_lrenum) := ⟨rfl, rfl, rfl, by decide +kernel, rfl, by decide +kernel, by decide +kernel⟩
theorem ok_lrenum (T : Txt K mg) (F : FnP K "_law_renumbered" s_lrenum f fd) (hm : mg "_law_renumbered" = some (.ref f)) : DefOk P w K mg base "_law_renumbered" (k + 1) R_lrenum := by
  refine def_ok F hm sc_lrenum (fun ds r ⟨_, _, _, e, _⟩ => by rw [e]; rfl) (fun _ _ _ _ _ _ us hl => match us, hl with | [_, _], _ => rfl) fun cdv A outer s H E hr ds r hR => ?_
  obtain ⟨n, m, nums, rfl, g, hn, hnum, rfl⟩ := hR
  have nd := sc_lrenum.nd
  have zl := sizeLine_eq
  have hpos := g.pos
  refine dss_cons (ds_setO 2 nd (do_listR (n := n) (DE.is (de_lenL (ds := (List.range n).map fun a => lN ((List.range n).map (m a))) (de_var 0) T.nLen) (by rw [List.length_map, List.length_range])) (by omega) T.nList T.nRange) ?_)
  refine dss_cons (ds_for (List.range (n - 1)) (fun i => nI (1 + i)) [3] (fun i => [nI (1 + i)]) (passes_of rfl) (DI.is (di_range2 (i := 1) (j := (n : Nat)) de_int (de_lend (ds := (List.range n).map nI) 2 rfl (DE.is (de_lenL (ds := (List.range n).map nI) (de_var 2) T.nLen) (by rw [List.length_map, List.length_range]))) T.nRange (by omega)) ?_) (fun _ _ => dg_name 3 nd) (fun i ρ' => ∃ xs s1 s2 s3, xs = ((List.range (n - 1)).take i).foldl (rankS nums) (List.range n) ∧ ρ' = [.val (lTab n m), .val (lN nums), .own (xs.map nI), s1, s2, s3, .no, .no, .no]) ⟨_, _, _, _, rfl, rfl⟩ ?_ ?_)
  · rw [show ((n : Int) - 1).toNat = n - 1 by omega]
    refine List.map_congr_left fun i _ => ?_
    show D.int _ = D.int _
    refine congrArg D.int ?_
    omega
  · rintro i x ρ' hx ⟨xs, s1, s2, s3, exs, rfl⟩
    obtain ⟨hi1, hi2⟩ := List.getElem?_eq_some_iff.mp hx
    have ex : x = i := by simpa using hi2.symm
    subst ex
    have hxn : x < n - 1 := by simpa using hi1
    have rk := rank_pre nums n x (by omega)
    rw [← exs] at rk
    have hl := rk.len
    have e3 := take_foldl (rankS nums) (List.range n) hx
    rw [← exs] at e3
    have hm1 := Nat.mod_lt (1 + x) hnum
    have hm2 := Nat.mod_lt (nums.getD ((1 + x) % nums.length) 0) (show 0 < 1 + x by omega)
    refine dss_cons (ds_set 4 nd (d := nI (1 + nums.getD ((1 + x) % nums.length) 0 % (1 + x))) (DE.is (de_add de_int (de_mod (de_intc (da_cons (de_ixLf (f := nI) (xs := nums) (i := (1 + x) % nums.length) (de_var 1) (DE.is (de_mod (de_var 3) (de_lenL (ds := nums.map nI) (de_var 1) T.nLen) (by rw [List.length_map]; omega)) (by rw [List.length_map]; rfl)) (getD_some 0 hm1)) da_nil) T.nInt) (de_var 3) (by omega))) ?_) ?_)
    · show D.int _ = D.int _
      refine congrArg D.int ?_
      show (1 : Int) + ((nums.getD ((1 + x) % nums.length) 0 : Nat) : Int) % ((1 + x : Nat) : Int) = _
      omega
    refine dss_cons (ds_set 5 nd (d := nI (xs.getD (1 + x) 0)) (de_ixO (ds := xs.map nI) 2 (k := ((1 + x : Nat) : Int)) (de_var 3) (atI_nat (by rw [List.getElem?_map, getD_some 0 (show 1 + x < xs.length by omega)]; rfl))) ?_)
    refine dss_cons (ds_setI (ds := xs.map nI) (d := nI (xs.getD (1 + nums.getD ((1 + x) % nums.length) 0 % (1 + x)) 0)) 2 (j := 1 + x) (de_ixO (ds := xs.map nI) 2 (k := ((1 + nums.getD ((1 + x) % nums.length) 0 % (1 + x) : Nat) : Int)) (de_var 4) (atI_nat (by rw [List.getElem?_map, getD_some 0 (show 1 + nums.getD ((1 + x) % nums.length) 0 % (1 + x) < xs.length by omega)]; rfl))) (de_var 3) (ixN_nat (by rw [List.length_map]; omega)) ?_)
    refine dss_one (ds_setI (ds := (xs.map nI).set (1 + x) (nI (xs.getD (1 + nums.getD ((1 + x) % nums.length) 0 % (1 + x)) 0))) (d := nI (xs.getD (1 + x) 0)) 2 (j := 1 + nums.getD ((1 + x) % nums.length) 0 % (1 + x)) (de_var 5) (de_var 4) (ixN_nat (by rw [List.length_set, List.length_map]; omega)) ⟨rankS nums xs x, .val (nI (1 + x)), .val (nI (1 + nums.getD ((1 + x) % nums.length) 0 % (1 + x))), .val (nI (xs.getD (1 + x) 0)), e3.symm, ?_⟩)
    show [_, _, Sl.own (((xs.map nI).set _ (nI _)).set _ (nI _)), _, _, _, _, _, _] = _
    rw [← List.map_set, ← List.map_set]
    rfl
  · rintro ρ' ⟨xs, s1, s2, s3, exs, rfl⟩
    rw [List.take_of_length_le (Nat.le_refl _)] at exs
    have exs' : xs = rankN nums n := exs
    clear exs
    subst exs'
    have rk := rank_ok nums n
    have hl := rk.len
    refine dss_freeze (ds := (rankN nums n).map nI) 2 ?_
    refine dss_cons (ds_setO (ds := (List.replicate n 0).map nI) 6 nd (DO.is (do_lc0 (rankN nums n) nI [3] (fun a => [nI a]) (fun _ => nI 0) [("_law_k", 3)] nd (blkOk_by (N := N_lrenum) (sc := defScope s_lrenum) (by decide +kernel)) (di_list (de_var 2)) ?_ ?_ ?_) ?_) ?_)
    · omega
    · exact fun _ _ _ _ _ z _ => dg_name 3 nd
    · exact fun _ _ _ _ _ z _ => de_int
    · rw [List.map_const', List.map_replicate, hl]
    refine dss_cons (ds_for (List.range n) nI [3] (fun k => [nI k]) (passes_of rfl) (DI.is (di_rng (n := n) (DE.is (de_lenL (ds := (rankN nums n).map nI) (de_var 2) T.nLen) (by rw [List.length_map, hl])) T.nRange (by omega)) rfl) (fun _ _ => dg_name 3 nd) (fun i ρ' => ∃ s1, ρ' = [.val (lTab n m), .val (lN nums), .val (lN (rankN nums n)), s1, s2, s3, .own (((List.range i).foldl (fun p k => p.set ((rankN nums n).getD k 0) k) (List.replicate n 0)).map nI), .no, .no]) ⟨_, rfl⟩ ?_ ?_)
    · rintro i x ρ' hx ⟨s1, rfl⟩
      obtain ⟨hi1, hi2⟩ := List.getElem?_eq_some_iff.mp hx
      have ex : x = i := by simpa using hi2.symm
      subst ex
      have hxn : x < n := by simpa using hi1
      obtain ⟨p1, _⟩ := place_at rk x (by omega)
      refine dss_one (ds_setI (ds := ((List.range x).foldl (fun p k => p.set ((rankN nums n).getD k 0) k) (List.replicate n 0)).map nI) (d := nI x) 6 (j := (rankN nums n).getD x 0) (de_var 3) (de_ixLf (f := nI) (xs := rankN nums n) (i := x) (de_var 2) (de_var 3) (getD_some 0 (by omega))) (ixN_nat (by rw [List.length_map, p1]; exact rk.lt x hxn)) ⟨.val (nI x), ?_⟩)
      rw [List.range_succ, List.foldl_append]
      show [_, _, _, _, _, _, Sl.own ((List.map nI _).set _ (nI _)), _, _] = _
      rw [← List.map_set]
      rfl
    · rintro ρ' ⟨s1, rfl⟩
      rw [List.length_range]
      have p1 := (place_at rk n (Nat.le_refl _)).1
      refine dss_freeze (ds := (placeN (rankN nums n) n).map nI) 6 ?_
      refine dss_one (ds_ret (d := .lst ((rankN nums n).map fun a => lN ((rankN nums n).map fun b => (placeN (rankN nums n) n).getD (m a b) 0))) (de_of_do (do_lc0 (rankN nums n) nI [8] (fun a => [nI a]) (fun a => lN ((rankN nums n).map fun b => (placeN (rankN nums n) n).getD (m a b) 0)) [("_law_a", 8), ("_law_b", 7)] nd (blkOk_by (by kernel_rfl)) (di_list (de_var 2)) ?_ ?_ ?_)) ?_)
      · omega
      · exact fun _ _ _ _ _ z _ => dg_name 8 nd
      · intro _ _ _ _ _ a ha
        have han : a < n := by
          obtain ⟨i, hi, e⟩ := List.getElem_of_mem ha
          have := rk.lt i (by omega)
          rw [List.getD_eq_getElem?_getD, List.getElem?_eq_getElem hi] at this
          rw [← e]; exact this
        refine DE.is (de_of_do (do_lc0 (rankN nums n) nI [7] (fun b => [nI b]) (fun b => nI ((placeN (rankN nums n) n).getD (m a b) 0)) [("_law_b", 7)] nd (blkOk_by (by kernel_rfl)) (di_list (de_var 2)) ?_ ?_ ?_)) (by show _ = D.lst (List.map nI (List.map _ _)); rw [List.map_map]; rfl)
        · omega
        · exact fun _ _ _ _ _ z _ => dg_name 7 nd
        · intro _ _ _ _ _ b hb
          have hbn : b < n := by
            obtain ⟨i, hi, e⟩ := List.getElem_of_mem hb
            have := rk.lt i (by omega)
            rw [List.getD_eq_getElem?_getD, List.getElem?_eq_getElem hi] at this
            rw [← e]; exact this
          exact de_ixLf (f := nI) (xs := placeN (rankN nums n) n) (i := m a b) (de_var 6) (de_tab (de_var 0) (de_var 8) (de_var 7) han hbn) (getD_some 0 (by rw [show (placeN (rankN nums n) n).length = n from p1]; exact g.cl a b han hbn))
      · have h1 := map_idx (fun a => lN ((rankN nums n).map fun b => (placeN (rankN nums n) n).getD (m a b) 0)) (rankN nums n)
        rw [hl] at h1
        rw [← h1]
        show Res.ok (D.lst _) = Res.ok (D.lst _)
        refine congrArg (fun z => Res.ok (D.lst z)) (List.map_congr_left fun i hi => ?_)
        have h2 := map_idx (fun b => (placeN (rankN nums n) n).getD (m ((rankN nums n).getD i 0) b) 0) (rankN nums n)
        rw [hl] at h2
        show lN _ = lN _
        rw [← h2]
        rfl
end
end DL
set_option maxHeartbeats 4000000
namespace DL
open PySem PySem.Spec PyProof.Rows L2
/-! ### slices -/
theorem cut_from (ds : List D) (k : Nat) : cutD ds (some (k : Int)) none = ds.drop k := by
  unfold cutD
  rw [HT.sIx_nat, HT.sIx_none]
  by_cases h : k ≤ ds.length
  · rw [Nat.min_eq_left h, List.take_of_length_le (by rw [List.length_drop]; exact Nat.le_refl _)]
  · rw [Nat.min_eq_right (by omega), List.drop_eq_nil_of_le (Nat.le_refl _), List.drop_eq_nil_of_le (by omega), List.take_nil]
theorem cut_to (ds : List D) (k : Nat) : cutD ds none (some (k : Int)) = ds.take k := by
  unfold cutD
  rw [HT.sIx_nat, HT.sIx_none, List.drop_zero, Nat.sub_zero]
  by_cases h : k ≤ ds.length
  · rw [Nat.min_eq_left h]
  · rw [Nat.min_eq_right (by omega), List.take_of_length_le (Nat.le_refl _), List.take_of_length_le (by omega)]
theorem cut_last (ds : List D) : cutD ds none (some (-1)) = ds.dropLast := by
  unfold cutD
  rw [HT.sIx_none, List.drop_zero, Nat.sub_zero, List.dropLast_eq_take]
  have : HT.sIx ds.length ds.length (some (-1)) = ds.length - 1 := by
    show (if (-1 : Int) < 0 then ((-1 : Int) + (ds.length : Int)).toNat else min (-1 : Int).toNat ds.length) = _
    rw [if_pos (by omega)]
    omega
  rw [this]
/-! ### the drawn group -/
def chOfN (cell : Nat) (ch : List Nat) : Nat := ch.getD ((numsN cell 24).getD 0 0 % ch.length) 0
def gpN (cell : Nat) (ch : List Nat) : Nat := grN (chOfN cell ch)
def gpM (cell : Nat) (ch : List Nat) : Nat → Nat → Nat :=
  if (numsN cell 24).getD 1 0 % 3 = 0 then grM (chOfN cell ch) else renM (grM (chOfN cell ch)) (rkF ((numsN cell 24).drop 2) (grN (chOfN cell ch))) (plF ((numsN cell 24).drop 2) (grN (chOfN cell ch)))
theorem chOf_in {cell : Nat} {ch : List Nat} (h0 : 0 < ch.length) (h : ∀ c ∈ ch, c ∈ chL) : chOfN cell ch ∈ chL ∧ chOfN cell ch ∈ ch := by
  have : chOfN cell ch ∈ ch := List.mem_of_getElem? (getD_some 0 (Nat.mod_lt _ h0))
  exact ⟨h _ this, this⟩
theorem gp_grp {cell : Nat} {ch : List Nat} (h0 : 0 < ch.length) (h : ∀ c ∈ ch, c ∈ chL) : Grp (gpN cell ch) (gpM cell ch) := by
  have g := gr_grp (chOf_in (cell := cell) h0 h).1
  unfold gpN gpM
  split
  · exact g
  · exact (ren_of _ g.pos).grp g
theorem gp_low {cell : Nat} {ch : List Nat} (h0 : 0 < ch.length) (h : ∀ c ∈ ch, c ∈ chL) (k : Nat) : (low (gpN cell ch) (gpM cell ch) k).length = (low (grN (chOfN cell ch)) (grM (chOfN cell ch)) k).length := by
  have g := gr_grp (chOf_in (cell := cell) h0 h).1
  unfold gpN gpM
  split
  · rfl
  · exact (ren_of _ g.pos).low_len g k
theorem gen_few {c : Nat} (h : c ∈ chL) : (genL c).length ≤ 1000 := by
  have : chL.all (fun c => decide ((genL c).length ≤ 1000)) = true := by decide +kernel
  exact of_decide_eq_true (List.all_eq_true.mp this c h)
section
variable {P : Program} {w : World} {K : PySem.W.Frag} {mg : Str → Option Value} {base : Heap} {f CG CC CT C : Addr} {fd : FuncData} {k : Nat}
def R_lgroup (ds : List D) (r : Res) : Prop := ∃ (cell : Nat) (ch : List Nat), ds = [nI cell, lN ch] ∧ 0 < ch.length ∧ (∀ c ∈ ch, c ∈ chL) ∧ r = .ok (lTab (gpN cell ch) (gpM cell ch))
abbrev s_lgroup : Stmt := top 63
abbrev N_lgroup : List Str := ["_law_cell_here", "_law_choices_here", "_law_numbers_here", "_law_table_here"]
theorem sc_lgroup : FnScope N_lgroup ["_law_cell_here", "_law_choices_here"] (defScope s_lgroup) := ⟨rfl, rfl, rfl, by decide +kernel, rfl, by decide +kernel, by decide +kernel⟩
theorem ok_lgroup (T : Txt K mg) (O1 : DefOk P w K mg base "_law_numbers" k R_lnumbers) (O2 : DefOk P w K mg base "_law_table" k R_ltable) (O3 : DefOk P w K mg base "_law_close" k R_lclose) (O4 : DefOk P w K mg base "_law_generators" k R_lgens) (O5 : DefOk P w K mg base "_law_renumbered" k R_lrenum) (F : FnP K "_law_group" s_lgroup f fd) (hm : mg "_law_group" = some (.ref f)) : DefOk P w K mg base "_law_group" (k + 1) R_lgroup := by
  refine def_ok F hm sc_lgroup (fun ds r ⟨_, _, e, _⟩ => by rw [e]; rfl) (fun _ _ _ _ _ _ us hl => match us, hl with | [_, _], _ => rfl) fun cdv A outer s H E hr ds r hR => ?_
  obtain ⟨cell, ch, rfl, h0, hch, rfl⟩ := hR
  have nd := sc_lgroup.nd
  obtain ⟨hc, _⟩ := chOf_in (cell := cell) h0 hch
  have M := menu_of hc
  have hn := numsN_len cell 24
  have few := gr_few hc
  refine dss_cons (ds_set 2 nd (de_call O1 hr (da_cons (de_var 0) (da_cons de_int da_nil)) ⟨cell, 24, rfl, by omega, rfl⟩) ?_)
  have e1 : lF kN (movL (chOfN cell ch)) = lF kN (movL (chOfN cell ch)) := rfl
  refine dss_cons (ds_set 3 nd (d := lTab (grN (chOfN cell ch)) (grM (chOfN cell ch))) (DE.is (de_call O2 hr (da_cons (de_call O3 hr (da_cons (de_call O4 hr (da_cons (de_ixLf (f := nI) (xs := ch) (i := (numsN cell 24).getD 0 0 % ch.length) (de_var 1) (DE.is (de_mod (de_intc (da_cons (de_ixLf (f := nI) (xs := numsN cell 24) (i := 0) (de_var 2) de_int (getD_some 0 (by omega))) da_nil) T.nInt) (de_lenL (ds := ch.map nI) (de_var 1) T.nLen) (by rw [List.length_map]; omega)) (by rw [List.length_map]; rfl)) (getD_some 0 (Nat.mod_lt _ h0))) da_nil) ⟨chOfN cell ch, rfl, hc, rfl⟩) da_nil) ⟨genL (chOfN cell ch), movL (chOfN cell ch), ptsN (chOfN cell ch), rfl, M.g0, gen_few hc, M.p0, by have := M.p8; omega, M.gs, M.pm, M.pw, M.few, rfl⟩) da_nil) ⟨movL (chOfN cell ch), ptsN (chOfN cell ch), rfl, codeK_inj M.pw, by rw [M.len]; omega, by have := M.p8; omega, M.ms, M.cl, rfl⟩) ?_) ?_)
  · have h1 := congrArg (fun z : List (List Nat) => D.lst (z.map lN)) (menu_tab hc)
    simp only [List.map_map] at h1
    exact h1
  · refine dss_cons (ds_if (k := decide ((numsN cell 24).getD 1 0 % 3 = 0)) (DT.is (dt_cmp op_eq rd_eqI (de_mod (de_intc (da_cons (de_ixLf (f := nI) (xs := numsN cell 24) (i := 1) (de_var 2) de_int (getD_some 0 (by omega))) da_nil) T.nInt) de_int (by omega)) de_int (nomark _)) (dec_eq _ 0)) (fun hk => ?_) fun hk => ?_)
    · refine dss_one (ds_ret (de_var 3) ?_)
      unfold gpN gpM
      rw [if_pos (of_decide_eq_true hk)]
    · refine dss_nil (dss_one (ds_ret (de_call O5 hr (da_cons (de_var 3) (da_cons (DE.is (d := lN ((numsN cell 24).drop 2)) (de_of_do (DO.is (do_slFrom (ds := (numsN cell 24).map nI) (de_var 2) de_int) (by rw [show (2 : Int) = ((2 : Nat) : Int) from rfl, cut_from, ← List.map_drop]))) rfl) da_nil)) ⟨grN (chOfN cell ch), grM (chOfN cell ch), (numsN cell 24).drop 2, rfl, gr_grp hc, by omega, by rw [List.length_drop, hn]; omega, rfl⟩) ?_))
      unfold gpN gpM
      rw [if_neg (of_decide_eq_false hk)]
end
end DL
set_option maxHeartbeats 4000000
namespace DL
open PySem PySem.Spec PyProof.Rows L2
section
variable {P : Program} {w : World} {K : PySem.W.Frag} {mg : Str → Option Value} {base : Heap} {f CG CC CT C : Addr} {fd : FuncData} {k : Nat}
/-! ### closed -/
def R_lclosed (ds : List D) (r : Res) : Prop := ∃ (n : Nat) (m : Nat → Nat → Nat) (S : List Nat), ds = [lTab n m, lN S] ∧ 0 < n ∧ n < 10000 ∧ (∀ s ∈ S, s < n) ∧ (∀ a b, a < n → b < n → m a b < n) ∧ r = .ok (lN (clo n m S))
abbrev s_lclosed : Stmt := top 64
abbrev N_lclosed : List Str := ["_law_table_here", "_law_members", "_law_inside", "_law_row", "_law_found", "_law_k", "_law_member", "_law_made"]
theorem sc_lclosed : FnScope N_lclosed ["_law_table_here", "_law_members"] (defScope s_lclosed) := ⟨rfl, rfl, rfl, by decide +kernel, rfl, by decide +kernel, by decide +kernel⟩
theorem ok_lclosed (T : Txt K mg) (F : FnP K "_law_closed" s_lclosed f fd) (hm : mg "_law_closed" = some (.ref f)) : DefOk P w K mg base "_law_closed" (k + 1) R_lclosed := by
  refine def_ok F hm sc_lclosed (fun ds r ⟨_, _, _, e, _⟩ => by rw [e]; rfl) (fun _ _ _ _ _ _ us hl => match us, hl with | [_, _], _ => rfl) fun cdv A outer s H E hr ds r hR => ?_
  obtain ⟨n, m, S, rfl, h0, hn, hS, hm', rfl⟩ := hR
  have nd := sc_lclosed.nd
  have zl := sizeLine_eq
  refine dss_cons (ds_setLc 2 (List.range n) (fun a => lN ((List.range n).map (m a))) [3] (fun a => [lN ((List.range n).map (m a))]) (fun _ => true) (fun _ => .bl false) [("_law_row", 3)] nd (blkOk_by (N := N_lclosed) (sc := defScope s_lclosed) (by decide +kernel)) (di_list (de_var 0)) ?_ ?_ (fun _ _ _ _ _ _ _ => dts_nil) (fun _ _ _ _ _ _ _ _ => de_bl) ?_)
  · rw [List.length_range]; omega
  · exact fun _ _ _ _ _ z _ => dg_name 3 nd
  have e0 : ((List.range n).filter fun _ => true).map (fun _ => D.bl false) = insD n [] := by
    rw [List.filter_eq_self.mpr fun _ _ => rfl, ← insD_nil, List.map_const', List.length_range]
  rw [e0]
  refine dss_cons (ds_setI (ds := insD n []) 2 (j := 0) de_bl de_int (insD_ix (y := 0) h0) ?_)
  show DSs _ _ [_, _, .own ((insD n []).set 0 (.bl true)), _, _, _, _, _] _
  rw [insD_set h0]
  refine dss_cons (ds_setO 4 nd (do_lstl (da_cons de_int da_nil)) ?_)
  refine dss_cons (ds_for (List.range n) nI [5] (fun k => [nI k]) (passes_of rfl) (DI.is (di_rng (n := n) (DE.is (de_lenL (ds := (List.range n).map fun a => lN ((List.range n).map (m a))) (de_var 0) T.nLen) (by rw [List.length_map, List.length_range])) T.nRange (by omega)) rfl) (fun _ _ => dg_name 5 nd) (fun i ρ' => ∃ fnd s1 s2 s3 s4, Bf n m S fnd (min i fnd.length) 0 ∧ ρ' = [.val (lTab n m), .val (lN S), .own (insD n fnd), s4, .own (fnd.map nI), s1, s2, s3]) ⟨[0], _, _, _, _, by rw [Nat.zero_min]; exact Bf.start h0, rfl⟩ ?_ ?_)
  · rintro i x ρ' hx0 ⟨fnd, s1, s2, s3, s4, b, rfl⟩
    obtain ⟨hi1, hi2⟩ := List.getElem?_eq_some_iff.mp hx0
    have ex : x = i := by simpa using hi2.symm
    subst ex
    have hxn0 : x < n := by simpa using hi1
    refine dss_one (ds_if (k := decide (x < fnd.length)) (DT.is (dt_cmp op_lt rd_lt (de_var 5) (de_lend (ds := fnd.map nI) 4 rfl (DE.is (de_lenL (ds := fnd.map nI) (de_var 4) T.nLen) (by rw [List.length_map]))) (nomark _)) (dec_lt _ _)) (fun hk => ?_) fun hk => ?_)
    · have hat : x < fnd.length := of_decide_eq_true hk
      rw [Nat.min_eq_left (Nat.le_of_lt hat)] at b
      have hx : fnd[x]? = some fnd[x] := List.getElem?_eq_getElem hat
      have hxn : fnd[x] < n := b.lt _ (List.getElem_mem hat)
      refine dss_one (ds_for S nI [6] (fun k => [nI k]) (passes_of rfl) (di_list (de_var 1)) (fun _ _ => dg_name 6 nd) (fun i ρ' => ∃ fnd' s2 s3, Bf n m S fnd' x i ∧ fnd'[x]? = some fnd[x] ∧ ρ' = [.val (lTab n m), .val (lN S), .own (insD n fnd'), s4, .own (fnd'.map nI), .val (nI x), s2, s3]) ⟨fnd, _, _, b, hx, rfl⟩ ?_ ?_)
      · rintro i s' ρ' hs ⟨fnd', s2', s3', b', hx', rfl⟩
        have hsn : s' < n := hS s' (List.mem_of_getElem? hs)
        have hy : m fnd[x] s' < n := hm' _ _ hxn hsn
        have hfl' := nodup_len b'.nd b'.lt
        refine dss_cons (ds_set 7 nd (d := nI (m fnd[x] s')) (de_tab (de_var 0) (de_ixO (ds := fnd'.map nI) 4 (k := (x : Nat)) (de_var 5) (atI_nat (by rw [List.getElem?_map, hx']; rfl))) (de_var 6) hxn hsn) ?_)
        refine dss_one (ds_if (DT.is (dt_not (dt_of (de_ixO (ds := insD n fnd') 2 (k := (m fnd[x] s' : Nat)) (de_var 7) (insD_at hy)))) rfl) (fun hk => ?_) fun hk => ?_)
        · have hnot : m fnd[x] s' ∉ fnd' := by simpa using hk
          refine dss_cons (ds_setI (ds := insD n fnd') 2 de_bl (de_var 7) (insD_ix hy) ?_)
          refine dss_one (ds_append (ds := fnd'.map nI) (d := nI (m fnd[x] s')) 4 (de_var 7) (by rw [List.length_map]; omega) ⟨fnd' ++ [m fnd[x] s'], .val (nI s'), .val (nI (m fnd[x] s')), b'.new hx' hs hnot hy, ?_, ?_⟩)
          · rw [List.getElem?_append_left (List.getElem?_eq_some_iff.mp hx').1]; exact hx'
          · show [_, _, _, _, _, _, _, _] = _
            rw [insD_set hy, List.map_append]; rfl
        · have hin : m fnd[x] s' ∈ fnd' := by simpa using hk
          exact dss_nil ⟨fnd', .val (nI s'), .val (nI (m fnd[x] s')), b'.old hx' hs hin, hx', rfl⟩
      · rintro ρ' ⟨fnd', s2', s3', b', hx', rfl⟩
        have hat' : x < fnd'.length := (List.getElem?_eq_some_iff.mp hx').1
        exact ⟨fnd', _, _, _, _, by rw [Nat.min_eq_left (by omega : x + 1 ≤ fnd'.length)]; exact b'.next hat', rfl⟩
    · have hat : fnd.length ≤ x := by simpa using hk
      rw [Nat.min_eq_right hat] at b
      exact dss_nil ⟨fnd, .val (nI x), s2, s3, s4, by rw [Nat.min_eq_right (by omega : fnd.length ≤ x + 1)]; exact b, rfl⟩
  · rintro ρ' ⟨fnd, s1, s2, s3, s4, b, rfl⟩
    rw [List.length_range] at b
    have hfl := nodup_len b.nd b.lt
    rw [Nat.min_eq_right hfl] at b
    refine dss_freeze (ds := fnd.map nI) 4 ?_
    refine dss_one (ds_ret (DE.is (de_of_do (do_sortI (ns := fnd.map Int.ofNat) (ms := (clo n m S).map Int.ofNat) (b.done.map _) (clo_sorted n m S) (da_cons (DE.is (de_var 4) (lN_lI fnd)) da_nil) T.nSorted)) ?_) rfl)
    simp [lN, nI]
/-! ### lower -/
def R_llower (ds : List D) (r : Res) : Prop := ∃ (n : Nat) (m : Nat → Nat → Nat) (t : Nat), ds = [lTab n m, nI t] ∧ Grp n m ∧ n ≤ 1000 ∧ t ≤ 1000 ∧ r = .ok (lF lN (serN n m t))
abbrev s_llower : Stmt := top 65
abbrev N_llower : List Str := ["_law_table_here", "_law_most", "_law_size", "_law_undo", "_law_row", "_law_series", "_law_k", "_law_found", "_law_a", "_law_b", "_law_m"]
theorem sc_llower : FnScope N_llower ["_law_table_here", "_law_most"] (defScope s_llower) := ⟨rfl, rfl, rfl, by decide +kernel, rfl, by decide +kernel, by decide +kernel⟩
theorem serN_succ (n : Nat) (m : Nat → Nat → Nat) (t : Nat) : serN n m (t + 1) = serN n m t ++ [low n m (t + 1)] := by
  unfold serN
  rw [List.range_succ (n := t + 1), List.map_append]; rfl
theorem serN_at_last (n : Nat) (m : Nat → Nat → Nat) (t : Nat) : atI ((serN n m t).map lN) (-1) = some (lN (low n m t)) := by
  obtain ⟨pre, e⟩ := serN_last (n := n) (m := m) t
  rw [e, List.map_append]
  exact atI_last _ _
theorem ok_llower (T : Txt K mg) (O : DefOk P w K mg base "_law_closed" k R_lclosed) (F : FnP K "_law_lower" s_llower f fd) (hm : mg "_law_lower" = some (.ref f)) : DefOk P w K mg base "_law_lower" (k + 1) R_llower := by
  refine def_ok F hm sc_llower (fun ds r ⟨_, _, _, e, _⟩ => by rw [e]; rfl) (fun _ _ _ _ _ _ us hl => match us, hl with | [_, _], _ => rfl) fun cdv A outer s H E hr ds r hR => ?_
  obtain ⟨n, m, t, rfl, g, hn, ht, rfl⟩ := hR
  have nd := sc_llower.nd
  have zl := sizeLine_eq
  have hpos := g.pos
  refine dss_cons (ds_set 2 nd (d := nI n) (DE.is (de_lenL (ds := (List.range n).map fun a => lN ((List.range n).map (m a))) (de_var 0) T.nLen) (by rw [List.length_map, List.length_range])) ?_)
  refine dss_cons (ds_setLc 3 (List.range n) (fun a => lN ((List.range n).map (m a))) [4] (fun a => [lN ((List.range n).map (m a))]) (fun _ => true) (fun a => nI (invN n m a)) [("_law_row", 4)] nd (blkOk_by (N := N_llower) (sc := defScope s_llower) (by decide +kernel)) (di_list (de_var 0)) ?_ ?_ (fun _ _ _ _ _ _ _ => dts_nil) ?_ ?_)
  · rw [List.length_range]; omega
  · exact fun _ _ _ _ _ z _ => dg_name 4 nd
  · intro _ _ _ _ _ a ha _
    obtain ⟨b, hb, e⟩ := g.iv a (List.mem_range.mp ha)
    exact de_indexL (xs := (List.range n).map (m a)) (n := 0) (de_var 4) de_int (List.mem_map.mpr ⟨b, List.mem_range.mpr hb, e⟩)
  have e0 : ((List.range n).filter fun _ => true).map (fun a => nI (invN n m a)) = ((List.range n).map (invN n m)).map nI := by
    rw [List.filter_eq_self.mpr fun _ _ => rfl, List.map_map]; rfl
  rw [e0]
  refine dss_freeze (ds := ((List.range n).map (invN n m)).map nI) 3 ?_
  refine dss_cons (ds_setO (ds := (serN n m 0).map lN) 5 nd (do_lstl (da_cons (de_of_do (do_listR (n := n) (de_var 2) (by omega) T.nList T.nRange)) (da_cons (de_of_do (do_listR (n := n) (de_var 2) (by omega) T.nList T.nRange)) da_nil))) ?_)
  refine dss_cons (ds_for (List.range t) nI [6] (fun k => [nI k]) (passes_of rfl) (di_rng (de_var 1) T.nRange (by omega)) (fun _ _ => dg_name 6 nd) (fun i ρ' => ∃ s1 s2 s3 s4 s5 s6, ρ' = [.val (lTab n m), .val (nI t), .val (nI n), .val (lN ((List.range n).map (invN n m))), s6, .own ((serN n m i).map lN), s1, s2, s3, s4, s5]) ⟨_, _, _, _, _, _, rfl⟩ ?_ ?_)
  · rintro i x ρ' hx0 ⟨s1, s2, s3, s4, s5, s6, rfl⟩
    obtain ⟨hi1, hi2⟩ := List.getElem?_eq_some_iff.mp hx0
    have ex : x = i := by simpa using hi2.symm
    subst ex
    have hxt : x < t := by simpa using hi1
    refine dss_cons (ds_setO (ds := insD n []) 7 nd (DO.is (do_lc0 (List.range n) (fun a => lN ((List.range n).map (m a))) [4] (fun a => [lN ((List.range n).map (m a))]) (fun _ => .bl false) [("_law_row", 4)] nd (blkOk_by (N := N_llower) (sc := defScope s_llower) (by decide +kernel)) (di_list (de_var 0)) ?_ ?_ ?_) ?_) ?_)
    · rw [List.length_range]; omega
    · exact fun _ _ _ _ _ z _ => dg_name 4 nd
    · exact fun _ _ _ _ _ z _ => de_bl
    · rw [← insD_nil, List.map_const', List.length_range]
    refine dss_cons (ds_for (List.range n) nI [8] (fun k => [nI k]) (passes_of rfl) (di_rng (de_var 2) T.nRange (by omega)) (fun _ _ => dg_name 8 nd) (fun i ρ' => ∃ s3 s4, ρ' = [.val (lTab n m), .val (nI t), .val (nI n), .val (lN ((List.range n).map (invN n m))), s6, .own ((serN n m x).map lN), .val (nI x), .own (insD n (commsN n m ((List.range n).take i) (low n m x))), s3, s4, s5]) ⟨_, _, rfl⟩ ?_ ?_)
    · rintro i a ρ' ha ⟨s3, s4, rfl⟩
      have han : a < n := List.mem_range.mp (List.mem_of_getElem? ha)
      refine dss_one (ds_for (low n m x) nI [9] (fun k => [nI k]) (passes_of rfl) (di_list (de_ixO (ds := (serN n m x).map lN) 5 (k := (-1)) (de_neg de_int) (serN_at_last n m x))) (fun _ _ => dg_name 9 nd) (fun j ρ' => ∃ s4, ρ' = [.val (lTab n m), .val (nI t), .val (nI n), .val (lN ((List.range n).map (invN n m))), s6, .own ((serN n m x).map lN), .val (nI x), .own (insD n (commsN n m ((List.range n).take i) (low n m x) ++ ((low n m x).take j).map (commN n m a))), .val (nI a), s4, s5]) ⟨_, by rw [List.take_zero, List.map_nil, List.append_nil]; rfl⟩ ?_ ?_)
      · rintro j b ρ' hb ⟨s4, rfl⟩
        have hbn : b < n := low_lt (List.mem_of_getElem? hb)
        have hc := g.comm_lt han hbn
        refine dss_one (ds_setI (ds := insD n (commsN n m ((List.range n).take i) (low n m x) ++ ((low n m x).take j).map (commN n m a))) 7 de_bl (de_tab (de_var 0) (de_ixLf (f := nI) (xs := (List.range n).map (invN n m)) (i := m b a) (de_var 3) (de_tab (de_var 0) (de_var 9) (de_var 8) hbn han) (by rw [List.getElem?_map, range_get (g.cl _ _ hbn han)]; rfl)) (de_tab (de_var 0) (de_var 8) (de_var 9) han hbn) (g.invN_lt (g.cl _ _ hbn han)) (g.cl _ _ han hbn)) (insD_ix hc) ⟨.val (nI b), ?_⟩)
        show [_, _, _, _, _, _, _, Sl.own ((insD n _).set (commN n m a b) (.bl true)), _, _, _] = _
        rw [insD_set hc, List.take_add_one, hb, List.map_append, List.append_assoc]; rfl
      · rintro ρ' ⟨s4, rfl⟩
        refine ⟨.val (nI a), s4, ?_⟩
        rw [List.take_length, List.take_add_one, ha]
        unfold commsN
        rw [List.flatMap_append]
        simp
    · rintro ρ' ⟨s3, s4, rfl⟩
      rw [List.take_length]
      refine dss_freeze (ds := insD n (commsN n m (List.range n) (low n m x))) 7 ?_
      refine dss_one (ds_append (ds := (serN n m x).map lN) (d := lN (low n m (x + 1))) 5 (de_call O hr (da_cons (de_var 0) (da_cons (de_of_do (do_lc (List.range n) nI [10] (fun x => [nI x]) (fun z => decide (z ∈ commsN n m (List.range n) (low n m x))) nI [("_law_m", 10)] nd (blkOk_by (N := N_llower) (sc := defScope s_llower) (by decide +kernel)) ?_ ?_ ?_ ?_ ?_)) da_nil)) ⟨n, m, (List.range n).filter fun z => decide (z ∈ commsN n m (List.range n) (low n m x)), rfl, hpos, by omega, ?_, g.cl, rfl⟩) ?_ ⟨.val (nI x), .val (.lst (insD n (commsN n m (List.range n) (low n m x)))), s3, s4, s5, s6, ?_⟩)
      · exact di_rng (de_var 2) T.nRange (by omega)
      · rw [List.length_range]; omega
      · exact fun _ _ _ _ _ z _ => dg_name 10 nd
      · exact fun _ _ _ _ _ z hz => dts_one (dt_of (de_ixL (ds := insD n (commsN n m (List.range n) (low n m x))) (de_var 7) (de_var 10) (insD_at (List.mem_range.mp hz))))
      · exact fun _ _ _ _ _ z _ _ => de_var 10
      · exact fun s hs => List.mem_range.mp (List.mem_filter.mp hs).1
      · rw [List.length_map, serN_len]; omega
      · rw [serN_succ, List.map_append]; rfl
  · rintro ρ' ⟨s1, s2, s3, s4, s5, s6, rfl⟩
    rw [List.length_range]
    exact dss_one (ds_retO (ds := (serN n m t).map lN) 5 rfl)
end
end DL
set_option maxHeartbeats 4000000
namespace DL
open PySem PySem.Spec PyProof.Rows L2
/-! ### the order of the inputs -/
def inLe (a b : List Int) : Bool := decide (wtI a < wtI b) || (decide (wtI a = wtI b) && decide (a ≤ b))
theorem dle_eq : PySem.W.dataLe false (fun r : List Int => keyP (wtI r) r) = inLe := by
  funext p q
  rw [PySem.W.dataLe_eq]
  show (!PySem.W.dataLt (.tuple [.int (wtI q), pyI q]) (.tuple [.int (wtI p), pyI p])) = _
  rw [PySem.W.dataLt_pair (by simp [PySem.W.alike]) (by unfold pyI; simp [PySem.W.alike, PySem.W.alike_ints]), PySem.W.dataLt_int]
  unfold pyI inLe
  rw [PySem.W.dataLt_tuple]
  have h1 := PySem.W.dataLt_ints q p
  unfold PySem.W.rowLt at h1
  rw [h1]
  have h2 : PyData.eqv (.tuple (q.map .int)) (.tuple (p.map .int)) = decide (q = p) := eqv_t q p
  rw [h2]
  simp only [PyData.eqv, beq_iff_eq]
  by_cases e : wtI q = wtI p
  · by_cases e2 : q = p
    · subst e2
      have : q ≤ q := List.not_lt.mp (List.lt_irrefl _)
      simp [this]
    · by_cases h : q < p
      · have h' : ¬ p ≤ q := fun r => List.not_lt.mpr r h
        simp [e, e2, h, h']
      · have h' : p ≤ q := List.not_lt.mp h
        simp [e, e2, h, h']
  · by_cases h : wtI q < wtI p
    · have h3 : ¬ wtI p < wtI q := by omega
      have h4 : ¬ wtI p = wtI q := by omega
      simp [e, h, h3, h4]
    · have h3 : wtI p < wtI q := by omega
      simp [e, h, h3]
theorem inLe_iff {a b : List Int} : inLe a b = true ↔ wtI a < wtI b ∨ (wtI a = wtI b ∧ a ≤ b) := by unfold inLe; simp
theorem inLe_tr (a b c : List Int) (h : inLe a b = true) (h2 : inLe b c = true) : inLe a c = true := by
  rw [inLe_iff] at h h2 ⊢
  rcases h with h | ⟨h, q⟩ <;> rcases h2 with h2 | ⟨h2, q2⟩
  · exact .inl (by omega)
  · exact .inl (by omega)
  · exact .inl (by omega)
  · exact .inr ⟨by omega, List.le_trans q q2⟩
theorem inLe_tot (a b : List Int) : (inLe a b || inLe b a) = true := by
  rw [Bool.or_eq_true, inLe_iff, inLe_iff]
  rcases Int.lt_trichotomy (wtI a) (wtI b) with h | h | h
  · exact .inl (.inl h)
  · rcases List.le_total a b with q | q
    · exact .inl (.inr ⟨h, q⟩)
    · exact .inr (.inr ⟨h.symm, q⟩)
  · exact .inr (.inl h)
theorem inLe_anti {a b : List Int} (h : inLe a b = true) (h2 : inLe b a = true) : a = b := by
  rw [inLe_iff] at h h2
  rcases h with h | ⟨h, q⟩ <;> rcases h2 with h2 | ⟨h2, q2⟩
  · omega
  · omega
  · omega
  · exact List.le_antisymm q q2
theorem inLe_of {a b : List Int} (h : inLt a b = true) : inLe a b = true := by
  unfold inLt at h
  rw [inLe_iff]
  simp only [Bool.or_eq_true, Bool.and_eq_true, decide_eq_true_eq] at h
  have e : ∀ r : List Int, wtI r = (wtN r : Nat) := fun r => rfl
  rw [e, e]
  rcases h with h | ⟨h, q⟩
  · exact .inl (by omega)
  · exact .inr ⟨by omega, List.not_lt.mp fun r => List.lt_irrefl a (List.lt_trans q r)⟩
theorem sort_lit {rows lit : List (List Int)} (hp : lit.Perm rows) (hw : lit.Pairwise fun a b => inLt a b = true) : sortI rows = lit := by
  unfold sortI
  rw [dle_eq]
  refine List.Perm.eq_of_pairwise (fun a b _ _ h h' => inLe_anti h h') (List.pairwise_mergeSort inLe_tr inLe_tot rows) (hw.imp fun h => inLe_of h) ((List.mergeSort_perm rows inLe).trans hp.symm)
theorem inp_lit {sh : List Nat} (h : sh ∈ shL) : inp sh = litI sh := sort_lit (shp_of h).pp (shp_of h).pw
theorem grid_lit {sh : List Nat} (h : sh ∈ shL) : sortI (gridN sh) = litI sh := sort_lit (shp_of h).pg (shp_of h).pw
theorem szc_of {sh : List Nat} (h : sh ∈ shL) : Szc sh := ⟨(shp_of h).ok, (shp_of h).sz⟩
/-! ### inputs -/
def digS (p : List Int × Nat) (k : Nat) : List Int × Nat := (p.1 ++ [((p.2 % k : Nat) : Int)], p.2 / k)
theorem dig_fold : ∀ (sh : List Nat) (acc : List Int) (r : Nat), (sh.foldl digS (acc, r)).1 = acc ++ digN sh r
  | [], acc, r => by simp [digN]
  | k :: sh, acc, r => by
    rw [List.foldl_cons]
    unfold digS
    rw [show (fun (p : List Int × Nat) (k : Nat) => (p.1 ++ [((p.2 % k : Nat) : Int)], p.2 / k)) = digS from rfl, dig_fold sh]
    simp [digN]
theorem dig_len : ∀ (sh : List Nat) (p : List Int × Nat), (sh.foldl digS p).1.length = p.1.length + sh.length
  | [], p => by simp
  | k :: sh, p => by
    rw [List.foldl_cons, dig_len sh]
    unfold digS
    simp
    omega
section
variable {P : Program} {w : World} {K : PySem.W.Frag} {mg : Str → Option Value} {base : Heap} {f CG CC CT C : Addr} {fd : FuncData} {k : Nat}
def R_linputs (ds : List D) (r : Res) : Prop := ∃ sh : List Nat, ds = [tN sh] ∧ sh ∈ shL ∧ r = .ok (lF tI (litI sh))
abbrev s_linputs : Stmt := top 67
abbrev N_linputs : List Str := ["_law_shape", "_law_total", "_law_many", "_law_rows", "_law_number", "_law_rest", "_law_signs"]
theorem sc_linputs : FnScope N_linputs ["_law_shape"] (defScope s_linputs) := ⟨rfl, rfl, rfl, by decide +kernel, rfl, by decide +kernel, by decide +kernel⟩
theorem ok_linputs (T : Txt K mg) (TB : Tbs K mg base) (O2 : DefOk P w K mg base "_law_weight" (k + 1) R_weight) (F : FnP K "_law_inputs" s_linputs f fd) (hf : f = He.fAd K lawKey) (hm : mg "_law_inputs" = some (.ref f)) : DefOk P w K mg base "_law_inputs" (k + 5) R_linputs := by
  refine def_okC F hf hm sc_linputs (fun ds r ⟨_, e, _⟩ => by rw [e]; rfl) (fun _ _ _ _ _ _ us hl => match us, hl with | [_], _ => rfl) fun A outer s H E hr ds r hR => ?_
  obtain ⟨sh, rfl, hsh, rfl⟩ := hR
  have nd := sc_linputs.nd
  have zl := sizeLine_eq
  have S := shp_of hsh
  have hk4 := sh_four S.ok
  have hkp : ∀ k ∈ sh, 0 < k := fun k hk => by
    have := S.ok
    unfold shOk at this
    simp only [Bool.and_eq_true, List.all_eq_true, decide_eq_true_eq] at this
    have := (this.2 k hk).1
    omega
  have few := S.few
  have l4 := S.l4
  refine dss_cons (ds_set 1 nd (d := nI 1) de_int ?_)
  refine dss_cons (ds_for sh nI [2] (fun k => [nI k]) (passes_of rfl) (di_tup (de_var 0)) (fun _ _ => dg_name 2 nd) (fun i ρ' => ∃ s, ρ' = [.val (tN sh), .val (nI ((sh.take i).foldl (· * ·) 1)), s, .no, .no, .no, .no]) ⟨_, rfl⟩ ?_ ?_)
  · rintro i k ρ' hk ⟨s, rfl⟩
    refine dss_one (ds_set 1 nd (d := nI ((sh.take (i + 1)).foldl (· * ·) 1)) (DE.is (de_mul (de_var 1) (de_var 2) (.inr ?_)) ?_) ⟨.val (nI k), rfl⟩)
    · have := hk4 k (List.mem_of_getElem? hk)
      omega
    · rw [foldl_snoc sh i k hk]; simp [nI, Int.natCast_mul]
  rintro ρ' ⟨s0, rfl⟩
  rw [List.take_length]
  refine dss_cons (ds_setO 3 nd (do_lstl da_nil) ?_)
  refine dss_cons (ds_for (List.range (prodN sh)) nI [4] (fun k => [nI k]) (passes_of rfl) (di_rng (n := prodN sh) (de_var 1) T.nRange (by omega)) (fun _ _ => dg_name 4 nd) (fun i ρ' => ∃ s0 s1 s2 s3, ρ' = [.val (tN sh), .val (nI (prodN sh)), s0, .own (((List.range i).map (digN sh)).map tI), s1, s2, s3]) ⟨_, _, _, _, rfl⟩ ?_ ?_)
  · rintro i x ρ' hx ⟨s0, s1, s2, s3, rfl⟩
    obtain ⟨hi1, hi2⟩ := List.getElem?_eq_some_iff.mp hx
    have ex : x = i := by simpa using hi2.symm
    subst ex
    have hxp : x < prodN sh := by simpa using hi1
    refine dss_cons (ds_set 5 nd (d := nI x) (de_var 4) ?_)
    refine dss_cons (ds_setO 6 nd (do_lstl da_nil) ?_)
    refine dss_cons (ds_for sh nI [2] (fun k => [nI k]) (passes_of rfl) (di_tup (de_var 0)) (fun _ _ => dg_name 2 nd) (fun j ρ' => ∃ s0, ρ' = [.val (tN sh), .val (nI (prodN sh)), s0, .own (((List.range x).map (digN sh)).map tI), .val (nI x), .val (nI ((sh.take j).foldl digS ([], x)).2), .own (((sh.take j).foldl digS ([], x)).1.map .int)]) ⟨_, rfl⟩ ?_ ?_)
    · rintro j k ρ' hk ⟨s0, rfl⟩
      have hk0 := hkp k (List.mem_of_getElem? hk)
      have hk4' := hk4 k (List.mem_of_getElem? hk)
      have hl := dig_len (sh.take j) ([], x)
      rw [List.length_take] at hl
      have hl' : ((sh.take j).foldl digS ([], x)).1.length ≤ sh.length := by rw [hl]; simp; omega
      refine dss_cons (ds_append (ds := ((sh.take j).foldl digS ([], x)).1.map .int) (d := .int ((((sh.take j).foldl digS ([], x)).2 % k : Nat) : Int)) 6 (DE.is (de_mod (de_intc (da_cons (de_var 5) da_nil) T.nInt) (de_var 2) (by omega)) rfl) (by rw [List.length_map]; omega) ?_)
      refine dss_one (ds_set 5 nd (d := nI (((sh.take j).foldl digS ([], x)).2 / k)) (DE.is (de_fdiv (de_var 5) (de_var 2) (by omega)) rfl) ⟨.val (nI k), ?_⟩)
      rw [take_foldl digS ([], x) hk]
      show [_, _, _, _, _, _, Sl.own (_ ++ _)] = [_, _, _, _, _, _, Sl.own (List.map D.int (digS _ k).1)]
      unfold digS
      rw [List.map_append]
      rfl
    · rintro ρ' ⟨s0, rfl⟩
      rw [List.take_length]
      have e := dig_fold sh [] x
      rw [List.nil_append] at e
      refine dss_freeze (ds := ((sh.foldl digS ([], x)).1).map .int) 6 ?_
      refine dss_one (ds_append (ds := ((List.range x).map (digN sh)).map tI) (d := tI (digN sh x)) 3 (DE.is (de_tupL (da_cons (de_var 6) da_nil) T.nTuple) (by rw [e]; rfl)) (by rw [List.length_map, List.length_map, List.length_range]; omega) ⟨s0, .val (nI x), .val (nI (sh.foldl digS ([], x)).2), .val (.lst ((sh.foldl digS ([], x)).1.map .int)), ?_⟩)
      rw [List.range_succ, List.map_append, List.map_append]; rfl
  · rintro ρ' ⟨s0, s1, s2, s3, rfl⟩
    rw [List.length_range]
    refine dss_freeze (ds := ((List.range (prodN sh)).map (digN sh)).map tI) 3 ?_
    have hmem : ∀ r ∈ gridN sh, r.length ≤ 4 := fun r hr => by
      have := (S.each r (S.pg.mem_iff.mpr hr)).1
      omega
    refine dss_one (ds_ret (de_of_do (do_sortKey (N := ["_law_row"]) (k := k + 1) TB.w rfl (List.mem_cons_of_mem _ List.mem_cons_self) ?_ (hr.mono (by omega)) ⟨rfl, rfl, rfl, by decide +kernel, rfl, by decide +kernel, by decide +kernel⟩ T.nSorted (rows := gridN sh) (wt := wtI) (de_var 3) ?_ (fun _ _ _ _ => rfl) (hfree := nofree_by (by decide +kernel)))) ?_)
    · intro p hp e
      rcases List.mem_cons.mp hp with h | h
      · rw [h] at e
        exact absurd e TB.ne
      · rw [List.mem_singleton.mp h]; rfl
    · exact fun f c' A outer s H hr r hr' => de_tupl (da_cons (de_call O2 (hr.mono (by omega)) (da_cons (de_var 0) da_nil) ⟨r, rfl, by have := hmem r hr'; omega, rfl⟩) (da_cons (de_var 0) da_nil))
    · show Res.ok (lF tI (litI sh)) = Res.ok (lF tI (sortI (gridN sh)))
      rw [grid_lit hsh]
end
end DL
set_option maxHeartbeats 4000000
namespace DL
open PySem PySem.Spec PyProof.Rows L2
/-! ### the drawn shape -/
def forBody : Stmt → List Stmt
  | .For _ _ b _ _ => b
  | _ => []
section
variable {P : Program} {w : World} {K : PySem.W.Frag} {mg : Str → Option Value} {base : Heap} {f CG CC CT C : Addr} {fd : FuncData} {k : Nat}
def R_lwide (ds : List D) (r : Res) : Prop := ∃ (nums : List Nat) (most : Nat), ds = [lN nums, nI most] ∧ 8 ≤ nums.length ∧ r = .ok (tN (wideN nums most))
abbrev s_lwide : Stmt := top 69
abbrev N_lwide : List Str := ["_law_numbers_here", "_law_most", "_law_shape", "_law_total", "_law_k", "_law_many"]
theorem sc_lwide : FnScope N_lwide ["_law_numbers_here", "_law_most"] (defScope s_lwide) := ⟨rfl, rfl, rfl, by decide +kernel, rfl, by decide +kernel, by decide +kernel⟩
theorem wide_len (nums : List Nat) (most : Nat) : ∀ (ks : List Nat) (p : List Nat × Nat), (ks.foldl (wideS nums most) p).1.length ≤ p.1.length + ks.length
  | [], p => by simp
  | k :: ks, p => by
    rw [List.foldl_cons]
    have h1 := wide_len nums most ks (wideS nums most p k)
    have h2 : (wideS nums most p k).1.length ≤ p.1.length + 1 := by unfold wideS; split <;> simp
    rw [List.length_cons]; omega
theorem ok_lwide (T : Txt K mg) (F : FnP K "_law_wide_shape" s_lwide f fd) (hm : mg "_law_wide_shape" = some (.ref f)) : DefOk P w K mg base "_law_wide_shape" (k + 1) R_lwide := by
  refine def_ok F hm sc_lwide (fun ds r ⟨_, _, e, _⟩ => by rw [e]; rfl) (fun _ _ _ _ _ _ us hl => match us, hl with | [_, _], _ => rfl) fun cdv A outer s H E hr ds r hR => ?_
  obtain ⟨nums, most, rfl, hl, rfl⟩ := hR
  have nd := sc_lwide.nd
  have zl := sizeLine_eq
  have h8 := Nat.mod_lt (nums.getD 0 0) (show 0 < 8 by omega)
  refine dss_cons (ds_setO 2 nd (do_lstl da_nil) ?_)
  refine dss_cons (ds_set 3 nd (d := nI 1) de_int ?_)
  refine dss_cons (ds_for (List.range (nums.getD 0 0 % 8)) nI [4] (fun k => [nI k]) (passes_of rfl) (di_rng (n := nums.getD 0 0 % 8) (DE.is (de_mod (de_intc (da_cons (de_ixLf (f := nI) (xs := nums) (i := 0) (de_var 0) de_int (getD_some 0 (by omega))) da_nil) T.nInt) de_int (by omega)) rfl) T.nRange (by omega)) (fun _ _ => dg_name 4 nd) (fun i ρ' => ∃ q s1 s2, q = ((List.range (nums.getD 0 0 % 8)).take i).foldl (wideS nums most) ([], 1) ∧ ρ' = [.val (lN nums), .val (nI most), .own (q.1.map nI), .val (nI q.2), s1, s2]) ⟨_, _, _, rfl, rfl⟩ ?_ ?_)
  · rintro i x ρ' hx ⟨q, s1, s2, eq, rfl⟩
    obtain ⟨hi1, hi2⟩ := List.getElem?_eq_some_iff.mp hx
    have ex : x = i := by simpa using hi2.symm
    subst ex
    have hx7 : x < nums.getD 0 0 % 8 := by simpa using hi1
    have e3 := take_foldl (wideS nums most) ([], 1) hx
    rw [← eq] at e3
    have hql : q.1.length ≤ 8 := by
      have := wide_len nums most ((List.range (nums.getD 0 0 % 8)).take x) ([], 1)
      rw [← eq] at this
      rw [List.length_take] at this
      simp at this
      omega
    have hat : nums[1 + x]? = some (nums.getD (1 + x) 0) := getD_some 0 (by omega)
    obtain ⟨m1, m2⟩ := many_of (nums.getD (1 + x) 0)
    have tail : ∀ bk0 : List Sl → Prop, DSs (cX P w K mg base N_lwide "_law_wide_shape" s_lwide f cdv A outer s H E) ((forBody ((defBody s_lwide).getD 2 (.Pass ⟨0, 0, 0, 0⟩))).drop 2) [.val (lN nums), .val (nI most), .own (q.1.map nI), .val (nI q.2), .val (nI x), .val (nI (manyN (nums.getD (1 + x) 0)))]
        { nx := fun ρ' => ∃ q' s1 s2, q' = ((List.range (nums.getD 0 0 % 8)).take (x + 1)).foldl (wideS nums most) ([], 1) ∧ ρ' = [.val (lN nums), .val (nI most), .own (q'.1.map nI), .val (nI q'.2), s1, s2], ct := fun ρ' => ∃ q' s1 s2, q' = ((List.range (nums.getD 0 0 % 8)).take (x + 1)).foldl (wideS nums most) ([], 1) ∧ ρ' = [.val (lN nums), .val (nI most), .own (q'.1.map nI), .val (nI q'.2), s1, s2], bk := bk0, rt := fun d => Res.ok (tN (wideN nums most)) = .ok d, xn := fun C => Res.ok (tN (wideN nums most)) = .err C } := by
      intro bk0
      refine dss_one (ds_if (k := decide (q.2 * manyN (nums.getD (1 + x) 0) ≤ most)) (DT.is (dt_cmp op_le rd_le (de_mul (de_var 3) (de_var 5) (.inr (by omega))) (de_var 1) (nomark _)) ?_) (fun hk => ?_) fun hk => ?_)
      · apply decide_eq_decide.mpr
        rw [← Int.natCast_mul]
        omega
      · have h := of_decide_eq_true hk
        refine dss_cons (ds_append (ds := q.1.map nI) (d := nI (manyN (nums.getD (1 + x) 0))) 2 (de_var 5) (by rw [List.length_map]; omega) ?_)
        refine dss_one (ds_set 3 nd (d := nI (q.2 * manyN (nums.getD (1 + x) 0))) (DE.is (de_mul (de_var 3) (de_var 5) (.inr (by omega))) (by simp [nI, Int.natCast_mul])) ⟨_, .val (nI x), .val (nI (manyN (nums.getD (1 + x) 0))), e3.symm, ?_⟩)
        unfold wideS
        rw [if_pos h]
        show [_, _, Sl.own (_ ++ _), _, _, _] = [_, _, Sl.own (List.map nI (_ ++ _)), _, _, _]
        rw [List.map_append]
        rfl
      · have h := of_decide_eq_false hk
        refine dss_nil ⟨_, .val (nI x), .val (nI (manyN (nums.getD (1 + x) 0))), e3.symm, ?_⟩
        unfold wideS
        rw [if_neg h]
    refine dss_cons (ds_set 5 nd (d := nI 2) de_int ?_)
    refine dss_cons (ds_if (k := decide (nums.getD (1 + x) 0 % 4 = 1)) (DT.is (dt_cmp op_eq rd_eqI (de_mod (de_intc (da_cons (de_ixLf (f := nI) (xs := nums) (i := 1 + x) (de_var 0) (DE.is (de_add de_int (de_var 4)) (by simp [nI])) hat) da_nil) T.nInt) de_int (by omega)) de_int (nomark _)) (dec_eq _ 1)) (fun hk => ?_) fun hk => ?_)
    · have h := of_decide_eq_true hk
      refine dss_one (ds_set 5 nd (d := nI (manyN (nums.getD (1 + x) 0))) (DE.is (de_add de_int (de_mod (de_intc (da_cons (de_fdiv (de_ixLf (f := nI) (xs := nums) (i := 1 + x) (de_var 0) (DE.is (de_add de_int (de_var 4)) (by simp [nI])) hat) de_int (by omega)) da_nil) T.nInt) de_int (by omega))) ?_) (tail _))
      unfold manyN
      rw [if_pos h]
      show D.int _ = D.int _
      refine congrArg D.int ?_
      simp
    · have h := of_decide_eq_false hk
      have e2 : manyN (nums.getD (1 + x) 0) = 2 := by unfold manyN; rw [if_neg h]
      refine dss_nil ?_
      rw [e2] at tail
      exact tail _
  · rintro ρ' ⟨q, s1, s2, eq, rfl⟩
    rw [List.take_of_length_le (Nat.le_refl _)] at eq
    have e : q.1 = wideN nums most := by rw [eq]; rfl
    refine dss_freeze (ds := q.1.map nI) 2 (dss_one (ds_ret (de_tupL (da_cons (de_var 2) da_nil) T.nTuple) ?_))
    rw [e]
end
end DL
set_option maxHeartbeats 4000000
namespace DL
open PySem PySem.Spec PyProof.Rows L2
/-! ### the world -/
def chW : List Nat := [1, 1, 1, 2, 2, 2, 4, 4, 3, 3, 5, 8, 9, 6, 7, 10, 0, 13, 18, 1, 14, 2]
theorem chW_in : ∀ c ∈ chW, c ∈ chL := by decide
theorem ch18_in : ∀ c ∈ [18], c ∈ chL := by decide
def wN (cell kind : Nat) : Nat := if kind = 0 then 32 else if kind = 1 then gpN cell [18] else gpN cell chW
def wM (cell kind : Nat) : Nat → Nat → Nat := if kind = 0 then cycM 32 else if kind = 1 then gpM cell [18] else gpM cell chW
noncomputable def cntF (n : Nat) (m : Nat → Nat → Nat) (t : Nat) (sh : List Nat) : Nat := pN (lchoN (serN n m t) (litI sh))
noncomputable def wSh (cell other kind : Nat) : List Nat := if kind = 0 then (if other % 2 = 0 then [3] else [2, 2]) else if kind = 1 then [2, 2] else cutN (cntF (wN cell kind) (wM cell kind) 7) 7 (wideN (numsN other 9) 16)
theorem gp_few {cell : Nat} {ch : List Nat} (h0 : 0 < ch.length) (h : ∀ c ∈ ch, c ∈ chL) : gpN cell ch ≤ 16 := gr_few (chOf_in (cell := cell) h0 h).1
theorem w_grp (cell kind : Nat) : Grp (wN cell kind) (wM cell kind) ∧ wN cell kind ≤ 32 := by
  unfold wN wM
  split
  · exact ⟨cyc_grp (by omega), by omega⟩
  · split
    · exact ⟨gp_grp (by decide) ch18_in, by have := gp_few (cell := cell) (ch := [18]) (by decide) ch18_in; omega⟩
    · exact ⟨gp_grp (by decide) chW_in, by have := gp_few (cell := cell) (ch := chW) (by decide) chW_in; omega⟩
theorem w_sh (cell other kind : Nat) : wSh cell other kind ∈ shL := by
  unfold wSh
  split
  · split <;> decide
  · split
    · decide
    · exact cut_in _ _ (wide_in _)
theorem lit_wt {sh : List Nat} (h : sh ∈ shL) {t : Nat} (ht : 3 ≤ t) : ∀ x ∈ litI sh, wtN x < t + 2 := fun x hx => by
  have := ((shp_of h).each x hx).2
  omega
theorem lcho_ok {n : Nat} {m : Nat → Nat → Nat} (g : Grp n m) (hn : n ≤ 60) {sh : List Nat} (h : sh ∈ shL) {t : Nat} (ht : 3 ≤ t) : ∃ c, c ≤ 5 ∧ Still n m c ∧ lchoN (serN n m t) (litI sh) = choN (rowL n m c) (litI sh) := by
  obtain ⟨c, hc, s⟩ := still_ex g hn
  exact ⟨c, hc, s, lcho_eq s (lit_wt h ht)⟩
theorem lcho_lens {n : Nat} {m : Nat → Nat → Nat} (g : Grp n m) (hn : n ≤ 60) {sh : List Nat} (h : sh ∈ shL) {t : Nat} (ht : 3 ≤ t) : ∀ q ∈ lchoN (serN n m t) (litI sh), (0 < q.length ∧ q.length < 10000) ∧ ∀ x ∈ q, x < n := fun q hq => by
  obtain ⟨c, _, s, e⟩ := lcho_ok g hn h ht
  rw [e] at hq
  have h1 := (choN_ok g).2 q hq
  exact ⟨⟨(choN_pos g s q hq).1, by omega⟩, (choN_ok g).1 q hq⟩
section
variable {P : Program} {w : World} {K : PySem.W.Frag} {mg : Str → Option Value} {base : Heap} {f CG CC CT C : Addr} {fd : FuncData} {k : Nat}
def R_lworld (ds : List D) (r : Res) : Prop := ∃ (cell other kind : Nat), ds = [nI cell, nI other, nI kind] ∧ r = .ok (.tup [lTab (wN cell kind) (wM cell kind), lF lN (serN (wN cell kind) (wM cell kind) 7), tN (wSh cell other kind)])
abbrev s_lworld : Stmt := top 78
abbrev N_lworld : List Str := ["_law_cell_here", "_law_other", "_law_kind", "_law_table_here", "_law_shape", "_law_series", "_law_k"]
theorem sc_lworld : FnScope N_lworld ["_law_cell_here", "_law_other", "_law_kind"] (defScope s_lworld) := ⟨rfl, rfl, rfl, by decide +kernel, rfl, by decide +kernel, by decide +kernel⟩
theorem ok_lworld (T : Txt K mg) (O1 : DefOk P w K mg base "_law_group" k R_lgroup) (O2 : DefOk P w K mg base "_law_wide_shape" k R_lwide) (O3 : DefOk P w K mg base "_law_numbers" k R_lnumbers) (O4 : DefOk P w K mg base "_law_cyclic" k R_lcyclic) (O5 : DefOk P w K mg base "_law_lower" k R_llower) (O6 : DefOk P w K mg base "_law_count" k R_lcount) (O7 : DefOk P w K mg base "_law_choices" k R_lchoices) (O8 : DefOk P w K mg base "_law_inputs" k R_linputs)
    (F : FnP K "_law_world" s_lworld f fd) (hm : mg "_law_world" = some (.ref f)) : DefOk P w K mg base "_law_world" (k + 1) R_lworld := by
  refine def_ok F hm sc_lworld (fun ds r ⟨_, _, _, e, _⟩ => by rw [e]; rfl) (fun _ _ _ _ _ _ us hl => match us, hl with | [_, _, _], _ => rfl) fun cdv A outer s H E hr ds r hR => ?_
  obtain ⟨cell, other, kind, rfl, rfl⟩ := hR
  have nd := sc_lworld.nd
  have zl := sizeLine_eq
  obtain ⟨g, hn⟩ := w_grp cell kind
  have main : ∀ sh, sh ∈ shL → (if 1 < kind then cutN (cntF (wN cell kind) (wM cell kind) 7) 7 sh else sh) = wSh cell other kind → DSs (cX P w K mg base N_lworld "_law_world" s_lworld f cdv A outer s H E) ((defBody s_lworld).drop 4) [.val (nI cell), .val (nI other), .val (nI kind), .val (lTab (wN cell kind) (wM cell kind)), .val (tN sh), .no, .no]
      { nx := fun _ => Res.ok (.tup [lTab (wN cell kind) (wM cell kind), lF lN (serN (wN cell kind) (wM cell kind) 7), tN (wSh cell other kind)]) = .ok .non, rt := fun d => Res.ok (.tup [lTab (wN cell kind) (wM cell kind), lF lN (serN (wN cell kind) (wM cell kind) 7), tN (wSh cell other kind)]) = .ok d, xn := fun C => Res.ok (.tup [lTab (wN cell kind) (wM cell kind), lF lN (serN (wN cell kind) (wM cell kind) 7), tN (wSh cell other kind)]) = .err C } := fun sh hsh hfin => by
    generalize wN cell kind = n at *
    generalize wM cell kind = m at *
    refine dss_cons (ds_set 5 nd (de_call O5 hr (da_cons (de_var 3) (da_cons de_int da_nil)) ⟨n, m, 7, rfl, g, by omega, by omega, rfl⟩) ?_)
    refine dss_cons (ds_if (k := decide (1 < kind)) (DT.is (dt_cmp op_gt rd_gt (de_var 2) de_int (nomark _)) (dec_lt 1 _)) (fun hk => ?_) fun hk => ?_)
    · have h1 := of_decide_eq_true hk
      rw [if_pos h1] at hfin
      refine dss_one (ds_for (List.range 7) nI [6] (fun k => [nI k]) (passes_of rfl) (di_rng (n := 7) de_int T.nRange (by omega)) (fun _ _ => dg_name 6 nd) (fun i ρ' => ∃ sh' s1, sh' ∈ shL ∧ cutN (cntF n m 7) (7 - i) sh' = cutN (cntF n m 7) 7 sh ∧ ρ' = [.val (nI cell), .val (nI other), .val (nI kind), .val (lTab n m), .val (tN sh'), .val (lF lN (serN n m 7)), s1]) ⟨sh, _, hsh, rfl, rfl⟩ ?_ ?_)
      · rintro i x ρ' hx ⟨sh', s1, hsh', hcut, rfl⟩
        obtain ⟨hi1, hi2⟩ := List.getElem?_eq_some_iff.mp hx
        have ex : x = i := by simpa using hi2.symm
        subst ex
        have hx7 : x < 7 := by simpa using hi1
        have S := shp_of hsh'
        have hlen : (litI sh').length ≤ 16 := by rw [S.len]; exact S.few
        rw [show 7 - x = (7 - (x + 1)) + 1 by omega] at hcut
        have hcut' : cutN (cntF n m 7) (7 - (x + 1)) (cutS (cntF n m 7) sh') = cutN (cntF n m 7) 7 sh := hcut
        refine dss_one (ds_if (k := decide (128 < cntF n m 7 sh')) (DT.is (dt_cmp op_gt rd_gt (de_call O6 hr (da_cons (de_call O7 hr (da_cons (de_var 5) (da_cons (de_call O8 hr (da_cons (de_var 4) da_nil) ⟨sh', rfl, hsh', rfl⟩) da_nil)) ⟨serN n m 7, litI sh', rfl, by omega, fun z hz => ?_, rfl⟩) da_nil) ⟨lchoN (serN n m 7) (litI sh'), rfl, fun c hc => ?_, rfl⟩) de_int (nomark _)) (dec_lt 128 _)) (fun hk => ?_) fun hk => ?_)
        · have := S.each z hz
          have l4 := S.l4
          refine ⟨by omega, ?_⟩
          rw [serN_len]; omega
        · exact (lcho_lens g (by omega) hsh' (by omega) c hc).1.2
        · have h := of_decide_eq_true hk
          refine dss_one (ds_set 4 nd (d := tN sh'.dropLast) (DE.is (de_slTTo (ds := sh'.map nI) (de_var 4) (de_neg de_int)) ?_) ⟨sh'.dropLast, .val (nI x), S.cut, ?_, rfl⟩)
          · rw [cut_last]
            show D.tup _ = D.tup (List.map nI sh'.dropLast)
            rw [List.map_dropLast]
          · unfold cutS at hcut'
            rw [if_pos h] at hcut'
            exact hcut'
        · have h := of_decide_eq_false hk
          refine dss_nil ⟨sh', .val (nI x), hsh', ?_, rfl⟩
          unfold cutS at hcut'
          rw [if_neg h] at hcut'
          exact hcut'
      · rintro ρ' ⟨sh', s1, hsh', hcut, rfl⟩
        have e : sh' = wSh cell other kind := by rw [← hfin, ← hcut]; rfl
        subst e
        exact dss_one (ds_ret (de_tupl (da_cons (de_var 3) (da_cons (de_var 5) (da_cons (de_var 4) da_nil)))) rfl)
    · have h1 := of_decide_eq_false hk
      rw [if_neg h1] at hfin
      subst hfin
      exact dss_nil (dss_one (ds_ret (de_tupl (da_cons (de_var 3) (da_cons (de_var 5) (da_cons (de_var 4) da_nil)))) rfl))
  have hn9 := numsN_len other 9
  refine dss_cons ?_
  refine Wr.out ?_
  refine wds_set 3 nd (wcall O1 hr (wda_cons ⟨de_var 0⟩ (wda_cons (d := lN chW) (wlit (by kernel_rfl)) wda_nil)) ⟨cell, chW, rfl, by decide, chW_in, rfl⟩) ?_
  refine dss_cons (ds_set 4 nd (de_call O2 hr (da_cons (de_call O3 hr (da_cons (de_var 1) (da_cons de_int da_nil)) ⟨other, 9, rfl, by omega, rfl⟩) (da_cons de_int da_nil)) ⟨numsN other 9, 16, rfl, by omega, rfl⟩) ?_)
  by_cases k0 : kind = 0
  · subst k0
    refine dss_cons (ds_if (k := true) (dt_cmp op_eq rd_eqI (de_var 2) de_int (nomark _)) (fun _ => ?_) fun z => nomatch z)
    refine dss_cons (ds_set 3 nd (de_call O4 hr (da_cons de_int da_nil) ⟨32, rfl, by omega, by omega, rfl⟩) ?_)
    have hz : ∀ b : Nat, b = other % 2 → [([3] : List Nat), [2, 2]][b]? = some (wSh cell other 0) := fun b hb => by
      unfold wSh
      rw [if_pos rfl, hb]
      rcases Nat.mod_two_eq_zero_or_one other with q | q
      · rw [q]; rfl
      · rw [q]; rfl
    refine dss_one ?_
    refine Wr.out ?_
    refine wds_set 4 nd (d := tN (wSh cell other 0)) (wixLf (f := tN) (xs := [[3], [2, 2]]) (i := other % 2) (wlit (by kernel_rfl)) (DE.is (de_mod (de_intc (da_cons (de_var 1) da_nil) T.nInt) de_int (by omega)) rfl) (hz _ rfl)) ?_
    refine dss_cons (ds_if (k := false) (dt_cmp op_eq rd_eqI (de_var 2) de_int (nomark _)) (fun z => nomatch z) fun _ => dss_nil ?_)
    exact main _ (w_sh cell other 0) (by rw [if_neg (by omega)])
  · refine dss_cons (ds_if (k := false) (DT.is (dt_cmp op_eq rd_eqI (de_var 2) de_int (nomark _)) (by rw [show (0 : Int) = ((0 : Nat) : Int) from rfl, dec_eq]; exact decide_eq_false k0)) (fun z => nomatch z) fun _ => dss_nil ?_)
    by_cases k1 : kind = 1
    · subst k1
      refine dss_cons (ds_if (k := true) (dt_cmp op_eq rd_eqI (de_var 2) de_int (nomark _)) (fun _ => ?_) fun z => nomatch z)
      refine dss_cons ?_
      refine Wr.out ?_
      refine wds_set 3 nd (wcall O1 hr (wda_cons ⟨de_var 0⟩ (wda_cons (d := lN [18]) (wlit (by kernel_rfl)) wda_nil)) ⟨cell, [18], rfl, by decide, ch18_in, rfl⟩) ?_
      refine dss_one ?_
      refine Wr.out ?_
      refine wds_set 4 nd (d := tN [2, 2]) (wlit (by kernel_rfl)) ?_
      have e1 : wN cell 1 = gpN cell [18] := by unfold wN; rw [if_neg (by omega), if_pos rfl]
      have e2 : wM cell 1 = gpM cell [18] := by unfold wM; rw [if_neg (by omega), if_pos rfl]
      have := main [2, 2] (by decide) (by rw [if_neg (by omega)]; unfold wSh; rw [if_neg (by omega), if_pos rfl])
      rw [e1, e2] at this ⊢
      exact this
    · refine dss_cons (ds_if (k := false) (DT.is (dt_cmp op_eq rd_eqI (de_var 2) de_int (nomark _)) (by rw [show (1 : Int) = ((1 : Nat) : Int) from rfl, dec_eq]; exact decide_eq_false k1)) (fun z => nomatch z) fun _ => dss_nil ?_)
      have e1 : wN cell kind = gpN cell chW := by unfold wN; rw [if_neg k0, if_neg k1]
      have e2 : wM cell kind = gpM cell chW := by unfold wM; rw [if_neg k0, if_neg k1]
      have := main (wideN (numsN other 9) 16) (wide_in _) (by
        rw [if_pos (by omega)]
        conv => rhs; unfold wSh
        rw [if_neg k0, if_neg k1])
      rw [e1, e2] at this ⊢
      exact this
end
end DL
set_option maxHeartbeats 4000000
namespace DL
open PySem PySem.Spec PyProof.Rows L2
/-! ### the told labels -/
def lastN (es : List Nat) : Nat := es.getD (es.length - 1) 0
theorem last_app {es : List Nat} (h : 0 < es.length) : es = es.dropLast ++ [lastN es] := by
  have hne : es ≠ [] := fun e => by rw [e] at h; exact absurd h (by simp)
  have : lastN es = es.getLast hne := by
    unfold lastN
    rw [List.getD_eq_getElem?_getD, List.getElem?_eq_getElem (by omega), List.getLast_eq_getElem]; rfl
  rw [this]
  exact (List.dropLast_concat_getLast hne).symm
theorem at_lastN {es : List Nat} (h : 0 < es.length) : atI (es.map nI) (-1) = some (nI (lastN es)) := by
  conv => lhs; rw [last_app h]
  rw [List.map_append]
  exact atI_last _ _
def told1 (nums es : List Nat) : List Nat := es.map fun e => nums.getD (4 + e % 20) 0 % 2
def told2 (nums es : List Nat) : List Nat := if 0 ∉ told1 nums es ∨ 1 ∉ told1 nums es then es.map fun e => if e = lastN es then 1 else 0 else told1 nums es
def flipN (ls : List Nat) (a : Nat) : List Nat := ls.take a ++ [1 - ls.getD a 0] ++ ls.drop (a + 1)
def told3 (nums es : List Nat) : List Nat := if nums.getD 2 0 % 3 = 0 then flipN (told2 nums es) (nums.getD 3 0 % (told2 nums es).length) else told2 nums es
def toldN (m : Nat → Nat → Nat) (ins : List (List Int)) (cs : List (List Nat)) (nums : List Nat) : List Nat :=
  if nums.getD 0 0 % 2 = 0 then told3 nums (entN m ins (membN cs (nums.getD 1 0 % pN cs))) else labN (nums.drop 4) cs.length
theorem told1_ok (nums es : List Nat) : (told1 nums es).length = es.length ∧ ∀ l ∈ told1 nums es, l ≤ 1 := by
  unfold told1
  refine ⟨by rw [List.length_map], fun l hl => ?_⟩
  obtain ⟨e, _, rfl⟩ := List.mem_map.mp hl
  have := Nat.mod_lt (nums.getD (4 + e % 20) 0) (show 0 < 2 by omega)
  omega
theorem told2_ok (nums es : List Nat) : (told2 nums es).length = es.length ∧ ∀ l ∈ told2 nums es, l ≤ 1 := by
  unfold told2
  split
  · refine ⟨by rw [List.length_map], fun l hl => ?_⟩
    obtain ⟨e, _, rfl⟩ := List.mem_map.mp hl
    split <;> omega
  · exact told1_ok nums es
theorem flip_ok {ls : List Nat} {a : Nat} (h : ∀ l ∈ ls, l ≤ 1) (ha : a < ls.length) : (flipN ls a).length = ls.length ∧ ∀ l ∈ flipN ls a, l ≤ 1 := by
  unfold flipN
  refine ⟨by simp; omega, fun l hl => ?_⟩
  rcases List.mem_append.mp hl with q | q
  · rcases List.mem_append.mp q with q | q
    · exact h l (List.mem_of_mem_take q)
    · rw [List.mem_singleton.mp q]; omega
  · exact h l (List.mem_of_mem_drop q)
theorem told3_ok (nums : List Nat) {es : List Nat} (h0 : 0 < es.length) : (told3 nums es).length = es.length ∧ ∀ l ∈ told3 nums es, l ≤ 1 := by
  obtain ⟨h1, h2⟩ := told2_ok nums es
  unfold told3
  split
  · obtain ⟨h3, h4⟩ := flip_ok (a := nums.getD 3 0 % (told2 nums es).length) h2 (Nat.mod_lt _ (by omega))
    exact ⟨by omega, h4⟩
  · exact ⟨h1, h2⟩
theorem lab_ok (nums : List Nat) (cnt : Nat) : (labN nums cnt).length = cnt ∧ ∀ l ∈ labN nums cnt, l ≤ 1 := by
  unfold labN
  split
  · refine ⟨by simp, fun l hl => ?_⟩
    obtain ⟨e, _, rfl⟩ := List.mem_map.mp hl
    have := Nat.mod_lt (nums.getD 1 0) (show 0 < 2 by omega)
    omega
  · split
    · refine ⟨by simp, fun l hl => ?_⟩
      obtain ⟨e, _, rfl⟩ := List.mem_map.mp hl
      split <;> omega
    · refine ⟨by simp, fun l hl => ?_⟩
      obtain ⟨e, _, rfl⟩ := List.mem_map.mp hl
      have := Nat.mod_lt (nums.getD (2 + e) 0) (show 0 < 2 by omega)
      omega
theorem told_ok (m : Nat → Nat → Nat) (ins : List (List Int)) {cs : List (List Nat)} (nums : List Nat) (h0 : 0 < cs.length) : (toldN m ins cs nums).length = cs.length ∧ ∀ l ∈ toldN m ins cs nums, l ≤ 1 := by
  unfold toldN
  split
  · have hl : (entN m ins (membN cs (nums.getD 1 0 % pN cs))).length = cs.length := by rw [entN_len, membN_len]
    obtain ⟨h1, h2⟩ := told3_ok nums (es := entN m ins (membN cs (nums.getD 1 0 % pN cs))) (by omega)
    exact ⟨by omega, h2⟩
  · exact lab_ok _ _
section
variable {P : Program} {w : World} {K : PySem.W.Frag} {mg : Str → Option Value} {base : Heap} {f CG CC CT C : Addr} {fd : FuncData} {k : Nat}
def R_ltold (ds : List D) (r : Res) : Prop := ∃ (n : Nat) (m : Nat → Nat → Nat) (cs : List (List Nat)) (ins : List (List Int)) (nums : List Nat), ds = [lTab n m, lF lN cs, lF lN ((List.range ins.length).map (underL ins)), lN nums] ∧ Grp n m ∧ cs.length = ins.length ∧ 0 < cs.length ∧ cs.length ≤ 16 ∧ (∀ c ∈ cs, (0 < c.length ∧ c.length < 10000) ∧ ∀ x ∈ c, x < n) ∧ 24 ≤ nums.length ∧ r = .ok (tN (toldN m ins cs nums))
abbrev s_ltold : Stmt := top 79
abbrev N_ltold : List Str := ["_law_table_here", "_law_choices_here", "_law_below_here", "_law_numbers_here", "_law_labels_here", "_law_entries", "_law_entry", "_law_at"]
theorem sc_ltold : FnScope N_ltold ["_law_table_here", "_law_choices_here", "_law_below_here", "_law_numbers_here"] (defScope s_ltold) := ⟨rfl, rfl, rfl, by decide +kernel, rfl, by decide +kernel, by decide +kernel⟩
theorem ok_ltold (T : Txt K mg) (O1 : DefOk P w K mg base "_law_labels" k R_llabels) (O2 : DefOk P w K mg base "_law_entries_at" k R_lentries_at) (O3 : DefOk P w K mg base "_law_count" k R_lcount) (F : FnP K "_law_told_labels" s_ltold f fd) (hm : mg "_law_told_labels" = some (.ref f)) : DefOk P w K mg base "_law_told_labels" (k + 1) R_ltold := by
  refine def_ok F hm sc_ltold (fun ds r ⟨_, _, _, _, _, e, _⟩ => by rw [e]; rfl) (fun _ _ _ _ _ _ us hl => match us, hl with | [_, _, _, _], _ => rfl) fun cdv A outer s H E hr ds r hR => ?_
  obtain ⟨n, m, cs, ins, nums, rfl, g, hl, h0, h16, hc, hn, rfl⟩ := hR
  have nd := sc_ltold.nd
  have zl := sizeLine_eq
  have hin : ∀ {q}, q < 24 → nums[q]? = some (nums.getD q 0) := fun h => getD_some 0 (by omega)
  have hp : 0 < pN cs := pN_pos fun c h => (hc c h).1.1
  refine dss_cons (ds_set 4 nd (d := tN (labN (nums.drop 4) cs.length)) (de_call O1 hr (da_cons (de_of_do (DO.is (do_slFrom (ds := nums.map nI) (de_var 3) de_int) (by rw [show (4 : Int) = ((4 : Nat) : Int) from rfl, cut_from, ← List.map_drop]))) (da_cons (DE.is (de_lenL (ds := cs.map lN) (de_var 1) T.nLen) (by rw [List.length_map])) da_nil)) ⟨nums.drop 4, cs.length, rfl, h0, by omega, by rw [List.length_drop]; omega, rfl⟩) ?_)
  refine dss_cons (ds_if (k := decide (nums.getD 0 0 % 2 = 0)) (DT.is (dt_cmp op_eq rd_eqI (de_mod (de_intc (da_cons (de_ixLf (f := nI) (xs := nums) (i := 0) (de_var 3) de_int (hin (by omega))) da_nil) T.nInt) de_int (by omega)) de_int (nomark _)) (dec_eq _ 0)) (fun hk => ?_) fun hk => ?_)
  · have hk' := of_decide_eq_true hk
    have etold : toldN m ins cs nums = told3 nums (entN m ins (membN cs (nums.getD 1 0 % pN cs))) := by unfold toldN; rw [if_pos hk']
    rw [etold]
    have hel : (entN m ins (membN cs (nums.getD 1 0 % pN cs))).length = cs.length := by rw [entN_len, membN_len]
    refine dss_cons (ds_set 5 nd (d := lN (entN m ins (membN cs (nums.getD 1 0 % pN cs)))) (de_call O2 hr (da_cons (de_var 0) (da_cons (de_var 1) (da_cons (de_var 2) (da_cons (DE.is (d := nI (nums.getD 1 0 % pN cs)) (DE.is (de_mod (de_intc (da_cons (de_ixLf (f := nI) (xs := nums) (i := 1) (de_var 3) de_int (hin (by omega))) da_nil) T.nInt) (de_call O3 hr (da_cons (de_var 1) da_nil) ⟨cs, rfl, fun c h => (hc c h).1.2, rfl⟩) (by show (0 : Int) < ((pN cs : Nat) : Int); omega)) rfl) rfl) da_nil)))) ⟨n, m, cs, ins, nums.getD 1 0 % pN cs, rfl, g, hl, by omega, fun c h => (hc c h).1, fun c h => (hc c h).2, rfl⟩) ?_)
    generalize entN m ins (membN cs (nums.getD 1 0 % pN cs)) = es at *
    obtain ⟨t1, t1'⟩ := told1_ok nums es
    obtain ⟨t2, t2'⟩ := told2_ok nums es
    have rest : DSs (cX P w K mg base N_ltold "_law_told_labels" s_ltold f cdv A outer s H E) ((match (defBody s_ltold).getD 1 (.Pass ⟨0, 0, 0, 0⟩) with | .If _ b _ _ => b | _ => []).drop 3) [.val (lTab n m), .val (lF lN cs), .val (lF lN ((List.range ins.length).map (underL ins))), .val (lN nums), .val (tN (told2 nums es)), .val (lN es), .no, .no] { nx := fun ρ' => DSs (cX P w K mg base N_ltold "_law_told_labels" s_ltold f cdv A outer s H E) ((defBody s_ltold).drop 2) ρ' { nx := fun _ => Res.ok (tN (told3 nums es)) = .ok .non, rt := fun d => Res.ok (tN (told3 nums es)) = .ok d, xn := fun C => Res.ok (tN (told3 nums es)) = .err C }, rt := fun d => Res.ok (tN (told3 nums es)) = .ok d, xn := fun C => Res.ok (tN (told3 nums es)) = .err C } := by
      refine dss_one (ds_if (k := decide (nums.getD 2 0 % 3 = 0)) (DT.is (dt_cmp op_eq rd_eqI (de_mod (de_intc (da_cons (de_ixLf (f := nI) (xs := nums) (i := 2) (de_var 3) de_int (hin (by omega))) da_nil) T.nInt) de_int (by omega)) de_int (nomark _)) (dec_eq _ 0)) (fun hk => ?_) fun hk => ?_)
      · have h2 := of_decide_eq_true hk
        have hlp : 0 < (told2 nums es).length := by omega
        have hat := Nat.mod_lt (nums.getD 3 0) hlp
        refine dss_cons (ds_set 7 nd (d := nI (nums.getD 3 0 % (told2 nums es).length)) (DE.is (de_mod (de_intc (da_cons (de_ixLf (f := nI) (xs := nums) (i := 3) (de_var 3) de_int (hin (by omega))) da_nil) T.nInt) (de_lenT (ds := (told2 nums es).map nI) (de_var 4) T.nLen) (by rw [List.length_map]; omega)) (by rw [List.length_map]; rfl)) ?_)
        generalize hga0 : nums.getD 3 0 % (told2 nums es).length = a at *
        have hga := getD_some (xs := told2 nums es) (i := a) 0 (by omega)
        have hle := t2' _ (List.mem_of_getElem? hga)
        refine dss_one (ds_set 4 nd (d := tN (flipN (told2 nums es) a)) (DE.is (de_catT (de_catT (de_slTTo (ds := (told2 nums es).map nI) (k := (a : Nat)) (de_var 4) (de_var 7)) (de_tupl (da_cons (DE.is (d := nI (1 - (told2 nums es).getD a 0)) (DE.is (de_sub de_int (de_ixTf (f := nI) (xs := told2 nums es) (i := a) (de_var 4) (de_var 7) hga)) (by show D.int _ = D.int _; refine congrArg D.int ?_; omega)) rfl) da_nil)) ?_) (de_slTFrom (ds := (told2 nums es).map nI) (k := ((a + 1 : Nat) : Int)) (de_var 4) (DE.is (de_add (de_var 7) de_int) (by simp [nI]))) ?_) ?_) ?_)
        · rw [cut_to, List.length_take, List.length_map, zl]; simp; omega
        · rw [cut_to, cut_from, List.length_append, List.length_take, List.length_drop, List.length_map, zl]; simp; omega
        · rw [cut_to, cut_from]
          show D.tup _ = D.tup (List.map nI (flipN _ _))
          unfold flipN
          rw [List.map_append, List.map_append, List.map_take, List.map_drop]
          rfl
        · refine dss_one (ds_ret (de_var 4) ?_)
          unfold told3
          rw [if_pos h2, hga0]
      · have h2 := of_decide_eq_false hk
        refine dss_nil (dss_one (ds_ret (de_var 4) ?_))
        unfold told3
        rw [if_neg h2]
    refine dss_cons (ds_set 4 nd (d := tN (told1 nums es)) (DE.is (de_tupL (da_cons (de_of_do (do_lc0 es nI [6] (fun e => [nI e]) (fun e => nI (nums.getD (4 + e % 20) 0 % 2)) [("_law_entry", 6)] nd (blkOk_by (N := N_ltold) (sc := defScope s_ltold) (by decide +kernel)) (di_list (de_var 5)) ?_ ?_ ?_)) da_nil) T.nTuple) ?_) ?_)
    · omega
    · exact fun _ _ _ _ _ z _ => dg_name 6 nd
    · intro _ _ _ _ _ z _
      have := Nat.mod_lt z (show 0 < 20 by omega)
      exact DE.is (de_mod (de_intc (da_cons (de_ixLf (f := nI) (xs := nums) (i := 4 + z % 20) (de_var 3) (DE.is (de_add de_int (de_mod (de_intc (da_cons (de_var 6) da_nil) T.nInt) de_int (by omega))) (by simp [nI])) (hin (by omega))) da_nil) T.nInt) de_int (by omega)) rfl
    · show D.tup (List.map _ _) = D.tup (List.map nI (List.map _ _)); rw [List.map_map]; rfl
    refine dss_cons (ds_if (k := decide (0 ∉ told1 nums es ∨ 1 ∉ told1 nums es)) (DT.is (dt_pw (dw_or (dt_ninTN (k := 0) (ns := told1 nums es) de_int (de_var 4)) fun _ => dw_or1 (dt_ninTN (k := 1) (ns := told1 nums es) de_int (de_var 4)))) (by rw [Bool.eq_iff_iff]; simp)) (fun hk => ?_) fun hk => ?_)
    · have h2 := of_decide_eq_true hk
      have e2 : told2 nums es = es.map fun e => if e = lastN es then 1 else 0 := by unfold told2; rw [if_pos h2]
      have hz : 0 < es.length := by omega
      refine dss_one (ds_set 4 nd (d := tN (told2 nums es)) (DE.is (de_tupL (da_cons (de_of_do (do_lc0 es nI [6] (fun e => [nI e]) (fun e => nI (if e = lastN es then 1 else 0)) [("_law_entry", 6)] nd (blkOk_by (N := N_ltold) (sc := defScope s_ltold) (by decide +kernel)) (di_list (de_var 5)) ?_ ?_ ?_)) da_nil) T.nTuple) ?_) rest)
      · omega
      · exact fun _ _ _ _ _ z _ => dg_name 6 nd
      · intro _ _ _ _ _ z _
        exact de_if (k := decide (z = lastN es)) (DT.is (dt_cmp op_eq rd_eqI (de_var 6) (de_ixL (ds := es.map nI) (i := (-1)) (d := nI (lastN es)) (de_var 5) (de_neg de_int) (at_lastN hz)) (nomark _)) (dec_eq _ _)) (fun h => DE.is de_int (by rw [if_pos (of_decide_eq_true h)]; rfl)) fun h => DE.is de_int (by rw [if_neg (of_decide_eq_false h)]; rfl)
      · rw [e2]; show D.tup (List.map _ _) = D.tup (List.map nI (List.map _ _)); rw [List.map_map]; rfl
    · have h2 := of_decide_eq_false hk
      have e2 : told2 nums es = told1 nums es := by unfold told2; rw [if_neg h2]
      rw [e2] at rest
      exact dss_nil rest
  · have hk' := of_decide_eq_false hk
    refine dss_nil (dss_one (ds_ret (de_var 4) ?_))
    unfold toldN
    rw [if_neg hk']
end
end DL
set_option maxHeartbeats 4000000
namespace DL
open PySem PySem.Spec PyProof.Rows L2
/-! ### same -/
section
variable {X : Cx} {a : Expr} {ρ : List Sl} {d : D} {p p2 p3 tp pos : Pos} {kk : Nat}
theorem de_isi2 {T1 T2 t : String} {n1 n2 : Str} {r : Bool} (hx : DE X a ρ d) (ht : ∀ v Z H, Ex Z H → Rep X.K Z v d → TyX X.K H v (.type t)) (hk : PySem.W.kitAny X.K (.type t) [.type T1, .type T2] = some r) (hm : X.mg "isinstance" = none) (hm1 : X.mg n1 = none) (hm2 : X.mg n2 = none) (hv1 : bootBuiltins n1 = some (.type T1) := by decide +kernel) (hv2 : bootBuiltins n2 = some (.type T2) := by decide +kernel) (hg : Gl X "isinstance" := by rfl) (hg1 : Gl X n1 := by rfl) (hg2 : Gl X n2 := by rfl) (hn1 : n1 ≠ "__name__" := by decide) (hd1 : (n1 == ("__debug__" : Str)) = false := by decide) (hn2 : n2 ≠ "__name__" := by decide) (hd2 : (n2 == ("__debug__" : Str)) = false := by decide)
    (he : starEach [a, .Tuple [.Name n1 p2, .Name n2 p3] kk tp] X.env = (false, eval a X.env) :: starEach [.Tuple [.Name n1 p2, .Name n2 p3] kk tp] X.env := by rfl) (he2 : starEach [.Tuple [.Name n1 p2, .Name n2 p3] kk tp] X.env = (false, eval (.Tuple [.Name n1 p2, .Name n2 p3] kk tp) X.env) :: starEach [] X.env := by rfl) (hpl : (backTo pos (starEach [.Tuple [.Name n1 p2, .Name n2 p3] kk tp] X.env)).any (·.1) = false := by rfl)
    (he3 : starEach [.Name n1 p2, .Name n2 p3] X.env = (false, eval (.Name n1 p2) X.env) :: starEach [.Name n2 p3] X.env := by rfl) (he4 : starEach [.Name n2 p3] X.env = (false, eval (.Name n2 p3) X.env) :: starEach [] X.env := by rfl) :
    DE X (.Call (.Name "isinstance" p) [a, .Tuple [.Name n1 p2, .Name n2 p3] kk tp] [] pos) ρ (.bl r) := fun E Z H σ S Q q =>
  we_pe (pe_callB call_isiT hg hm (by decide +kernel) (pa_cons pe_we (pa_cons (pe_tup (pa_cons (pe_bltn (v := .ty T1) hg1 hm1 hv1 rfl hn1 hd1) (pa_cons (pe_bltn (v := .ty T2) hg2 hm2 hv2 rfl hn2 hd2) pa_nil he4) he3)) pa_nil he2) he) (by decide) (by decide) he hpl)
    (hx E Z H σ S _ fun v Z1 H1 g1 r1 => ⟨by rw [sizeLine_eq]; exact Nat.le_of_ble_eq_true rfl, fun tp' htp => by
      have g2 : G X.K Z H Z1 (upd H1 tp' (.tup [.ty T1, .ty T2])) := g1.newH htp
      exact ⟨v, tp', [.ty T1, .ty T2], .type t, [.type T1, .type T2], r, rfl, upd_same, .cons (.ty T1) (.cons (.ty T2) .nil), ht v Z1 _ g2.zh r1, hk, q _ Z1 _ g2 .bl⟩⟩)
end
section
variable {P : Program} {w : World} {K : PySem.W.Frag} {mg : Str → Option Value} {base : Heap} {f CG CC CT C : Addr} {fd : FuncData} {k : Nat}
def R_lsameI (ds : List D) (r : Res) : Prop := ∃ a : Nat, ds = [nI a, nI a] ∧ r = .ok (.bl true)
def R_lsameT (ds : List D) (r : Res) : Prop := ∃ as : List Nat, ds = [tN as, tN as] ∧ as.length < 10000 ∧ r = .ok (.bl true)
abbrev s_lsame : Stmt := top 58
abbrev N_lsame : List Str := ["_law_actual", "_law_due", "_law_k"]
theorem sc_lsame : FnScope N_lsame ["_law_actual", "_law_due"] (defScope s_lsame) := ⟨rfl, rfl, rfl, by decide +kernel, rfl, by decide +kernel, by decide +kernel⟩
theorem ok_lsameI (T : Txt K mg) (F : FnP K "_law_same" s_lsame f fd) (hm : mg "_law_same" = some (.ref f)) : DefOk P w K mg base "_law_same" (k + 1) R_lsameI := by
  refine def_ok F hm sc_lsame (fun ds r ⟨_, e, _⟩ => by rw [e]; rfl) (fun _ _ _ _ _ _ us hl => match us, hl with | [_, _], _ => rfl) fun cdv A outer s H E hr ds r hR => ?_
  obtain ⟨a, rfl, rfl⟩ := hR
  have nd := sc_lsame.nd
  refine dss_cons (ds_if (k := false) (dt_cmp op_isN rd_isN (de_var 1) de_non (nomark _)) (fun z => nomatch z) fun _ => dss_nil ?_)
  refine dss_cons (ds_if (k := false) (dt_of (de_isi (T := "bool") (t := "int") (de_var 1) ty_int (by decide +kernel) T.nIsi T.nBool)) (fun z => nomatch z) fun _ => dss_nil ?_)
  refine dss_cons (ds_if (k := true) (dt_of (de_isi (T := "int") (t := "int") (de_var 1) ty_int (by decide +kernel) T.nIsi T.nInt)) (fun _ => ?_) fun z => nomatch z)
  refine dss_one (ds_ret (DE.is (de_and (de_isi (T := "int") (t := "int") (r := true) (de_var 0) ty_int (by decide +kernel) T.nIsi T.nInt) fun _ => de_and (de_not (de_isi (T := "bool") (t := "int") (r := false) (de_var 0) ty_int (by decide +kernel) T.nIsi T.nBool)) fun _ => de_one (de_cmp op_eq rd_eqI (de_var 0) (de_var 1) (nomark _))) ?_) rfl)
  simp
theorem ok_lsameT (T : Txt K mg) (O : DefOk P w K mg base "_law_same" k R_lsameI) (F : FnP K "_law_same" s_lsame f fd) (hm : mg "_law_same" = some (.ref f)) : DefOk P w K mg base "_law_same" (k + 1) R_lsameT := by
  refine def_ok F hm sc_lsame (fun ds r ⟨_, e, _⟩ => by rw [e]; rfl) (fun _ _ _ _ _ _ us hl => match us, hl with | [_, _], _ => rfl) fun cdv A outer s H E hr ds r hR => ?_
  obtain ⟨as, rfl, hl, rfl⟩ := hR
  have nd := sc_lsame.nd
  have isT : ∀ {T' : String} {tn : Str} {r : Bool}, True := fun {_ _ _} => trivial
  refine dss_cons (ds_if (k := false) (dt_cmp op_isN rd_isN (de_var 1) de_non (nomark _)) (fun z => nomatch z) fun _ => dss_nil ?_)
  refine dss_cons (ds_if (k := false) (dt_of (de_isi (T := "bool") (t := "tuple") (de_var 1) ty_tup (by decide +kernel) T.nIsi T.nBool)) (fun z => nomatch z) fun _ => dss_nil ?_)
  refine dss_cons (ds_if (k := false) (dt_of (de_isi (T := "int") (t := "tuple") (de_var 1) ty_tup (by decide +kernel) T.nIsi T.nInt)) (fun z => nomatch z) fun _ => dss_nil ?_)
  refine dss_cons (ds_if (k := false) (dt_of (de_isi (T := "str") (t := "tuple") (de_var 1) ty_tup (by decide +kernel) T.nIsi T.nStr)) (fun z => nomatch z) fun _ => dss_nil ?_)
  refine dss_cons (ds_if (k := false) (dt_pw (dw_or (k := false) (dt_cmp op_ne rd_neB (de_isi (T := "tuple") (t := "tuple") (r := true) (de_var 1) ty_tup (by decide +kernel) T.nIsi T.nTuple) (de_isi (T := "tuple") (t := "tuple") (r := true) (de_var 0) ty_tup (by decide +kernel) T.nIsi T.nTuple) (nomark _)) fun _ => dw_or1 (k := false) (dt_cmp op_ne rd_neB (de_isi (T := "list") (t := "tuple") (r := false) (de_var 1) ty_tup (by decide +kernel) T.nIsi T.nList) (de_isi (T := "list") (t := "tuple") (r := false) (de_var 0) ty_tup (by decide +kernel) T.nIsi T.nList) (nomark _)))) (fun z => nomatch z) fun _ => dss_nil ?_)
  refine dss_cons (ds_if (k := false) (DT.is (dt_pw (dw_or (k := false) (dt_not (dt_of (k := true) (de_isi2 (T1 := "tuple") (T2 := "list") (t := "tuple") (de_var 1) ty_tup (kitAny_cons (b := true) (kit_ty (by decide +kernel)) (fun z => nomatch z) fun _ => rfl) T.nIsi T.nTuple T.nList))) fun _ => dw_or1 (dt_cmp op_ne rd_neI (de_lenT (ds := as.map nI) (de_var 0) T.nLen) (de_lenT (ds := as.map nI) (de_var 1) T.nLen) (nomark _)))) (by simp)) (fun z => nomatch z) fun _ => dss_nil ?_)
  refine dss_cons (ds_for (List.range as.length) nI [2] (fun k => [nI k]) (passes_of rfl) (DI.is (di_rng (n := as.length) (DE.is (de_lenT (ds := as.map nI) (de_var 1) T.nLen) (by rw [List.length_map])) T.nRange (by omega)) rfl) (fun _ _ => dg_name 2 nd) (fun i ρ' => ∃ s1, ρ' = [.val (tN as), .val (tN as), s1]) ⟨_, rfl⟩ ?_ ?_)
  · rintro i x ρ' hx ⟨s1, rfl⟩
    obtain ⟨hi1, hi2⟩ := List.getElem?_eq_some_iff.mp hx
    have ex : x = i := by simpa using hi2.symm
    subst ex
    have hxl : x < as.length := by simpa using hi1
    have hat := getD_some (xs := as) 0 hxl
    exact dss_one (ds_if (k := false) (dt_not (dt_of (k := true) (de_call O hr (da_cons (de_ixTf (f := nI) (xs := as) (i := x) (de_var 0) (de_var 2) hat) (da_cons (de_ixTf (f := nI) (xs := as) (i := x) (de_var 1) (de_var 2) hat) da_nil)) ⟨as.getD x 0, rfl, rfl⟩))) (fun z => nomatch z) fun _ => dss_nil ⟨.val (nI x), rfl⟩)
  · rintro ρ' ⟨s1, rfl⟩
    exact dss_one (ds_ret de_bl rfl)
end
end DL
set_option maxHeartbeats 4000000
namespace DL
open PySem PySem.Spec PyProof.Rows L2
/-! ### charts compared -/
theorem tTab_II (n : Nat) (m : Nat → Nat → Nat) : tTab n m = tII ((List.range n).map fun a => ((List.range n).map (m a)).map Int.ofNat) := by
  simp [tTab, tN, tII, tI, nI, Function.comp_def]
section
variable {P : Program} {w : World} {K : PySem.W.Frag} {mg : Str → Option Value} {base : Heap} {f CG CC CS CB CT C : Addr} {fd : FuncData} {k : Nat}
def R_lis_chart (CC CG : Addr) (ds : List D) (r : Res) : Prop := ∃ (n : Nat) (m : Nat → Nat → Nat) (sh es : List Nat), ds = [chD CC CG n m sh es, tTab n m, tN sh, tN es] ∧ sh.length < 10000 ∧ es.length < 10000 ∧ r = .ok (.bl true)
abbrev s_lis_chart : Stmt := top 81
abbrev N_lis_chart : List Str := ["_law_chart", "_law_rows", "_law_shape", "_law_entries"]
theorem sc_lis_chart : FnScope N_lis_chart ["_law_chart", "_law_rows", "_law_shape", "_law_entries"] (defScope s_lis_chart) := ⟨rfl, rfl, rfl, by decide +kernel, rfl, by decide +kernel, by decide +kernel⟩
theorem ok_lis_chart (T : Txt K mg) (c : CCls K CC) (cg : GCls K CG) (O : DefOk P w K mg base "_law_same" k R_lsameT) (F : FnP K "_law_is_chart" s_lis_chart f fd) (hm : mg "_law_is_chart" = some (.ref f)) : DefOk P w K mg base "_law_is_chart" (k + 1) (R_lis_chart CC CG) := by
  refine def_ok F hm sc_lis_chart (fun ds r ⟨_, _, _, _, e, _⟩ => by rw [e]; rfl) (fun _ _ _ _ _ _ us hl => match us, hl with | [_, _, _, _], _ => rfl) fun cdv A outer s H E hr ds r hR => ?_
  obtain ⟨n, m, sh, es, rfl, h1, h2, rfl⟩ := hR
  refine dss_one (ds_ret (DE.is (de_and (k := true) (DE.is (de_cmp (op_eqD hr.units) (rd_eqTT (ns := (List.range n).map fun a => ((List.range n).map (m a)).map Int.ofNat) (ms := (List.range n).map fun a => ((List.range n).map (m a)).map Int.ofNat)) (DE.is (de_rows cg (de_cgroup c (de_var 0))) (tTab_II n m)) (DE.is (de_var 1) (tTab_II n m)) (nomark _)) (by rw [decide_eq_true rfl])) fun _ => de_and (k := true) (de_call O hr (da_cons (de_cshape c (de_var 0)) (da_cons (de_var 2) da_nil)) ⟨sh, rfl, h1, rfl⟩) fun _ => de_one (de_call O hr (da_cons (de_centries c (de_var 0)) (da_cons (de_var 3) da_nil)) ⟨es, rfl, h2, rfl⟩)) rfl) rfl)
/-! ### the least chart asked -/
def R_lleast_is (CC CG CS CB CT : Addr) (ds : List D) (r : Res) : Prop := ∃ (n : Nat) (m : Nat → Nat → Nat) (sh : List Nat) (c : Nat) (tb : List Int) (o : Option (List Nat)), ds = [gD CG n m, tTab n m, tN sh, tI tb, ansD o] ∧ DecOk n m sh c tb ∧ (∀ es, o = some es → es.length < 10000) ∧ decR CC CG CS CB CT n m sh c tb = .ok (match o with | none => .non | some es => chD CC CG n m sh es) ∧ r = .ok (.bl true)
abbrev s_lleast_is : Stmt := top 82
abbrev N_lleast_is : List Str := ["_law_group_here", "_law_rows", "_law_shape", "_law_labels_here", "_law_least_here", "_law_actual"]
theorem sc_lleast_is : FnScope N_lleast_is ["_law_group_here", "_law_rows", "_law_shape", "_law_labels_here", "_law_least_here"] (defScope s_lleast_is) := ⟨rfl, rfl, rfl, by decide +kernel, rfl, by decide +kernel, by decide +kernel⟩
theorem ok_lleast_is (T : Txt K mg) (O : DefOk P w K mg base "deciding_chart" k (R_deciding_chart CC CG CS CB CT)) (O2 : DefOk P w K mg base "_law_is_chart" k (R_lis_chart CC CG)) (F : FnP K "_law_least_is" s_lleast_is f fd) (hm : mg "_law_least_is" = some (.ref f)) : DefOk P w K mg base "_law_least_is" (k + 1) (R_lleast_is CC CG CS CB CT) := by
  refine def_ok F hm sc_lleast_is (fun ds r ⟨_, _, _, _, _, _, e, _⟩ => by rw [e]; rfl) (fun _ _ _ _ _ _ us hl => match us, hl with | [_, _, _, _, _], _ => rfl) fun cdv A outer s H E hr ds r hR => ?_
  obtain ⟨n, m, sh, c, tb, o, rfl, q, ho, hd, rfl⟩ := hR
  have nd := sc_lleast_is.nd
  cases o with
  | none =>
    refine dss_cons (ds_set 5 nd (d := .non) (de_call O hr (da_cons (de_var 0) (da_cons (de_var 2) (da_cons (de_var 3) da_nil))) ⟨n, m, sh, c, tb, rfl, q, hd.symm⟩) ?_)
    refine dss_cons (ds_if (k := true) (DT.is (dt_pw (dw_or (k := true) (k' := false) (dt_cmp op_isN rd_isN (de_var 5) de_non (nomark _)) fun z => absurd z (by decide))) rfl) (fun _ => ?_) fun z => nomatch z)
    exact dss_one (ds_ret (DE.is (de_and (k := true) (de_cmp op_isN rd_isN (de_var 5) de_non (nomark _)) fun _ => de_one (de_cmp op_isN rd_isN (de_var 4) de_non (nomark _))) rfl) rfl)
  | some es =>
    refine dss_cons (ds_set 5 nd (d := chD CC CG n m sh es) (de_call O hr (da_cons (de_var 0) (da_cons (de_var 2) (da_cons (de_var 3) da_nil))) ⟨n, m, sh, c, tb, rfl, q, hd.symm⟩) ?_)
    refine dss_cons (ds_if (k := false) (dt_pw (dw_or (k := false) (dt_cmp op_isN rd_isN (de_var 5) de_non (nomark _)) fun _ => dw_or1 (k := false) (dt_cmp op_isN rd_isN (de_var 4) de_non (nomark _)))) (fun z => nomatch z) fun _ => dss_nil ?_)
    exact dss_one (ds_ret (de_call O2 hr (da_cons (de_var 5) (da_cons (de_var 1) (da_cons (de_var 2) (da_cons (de_var 4) da_nil)))) ⟨n, m, sh, es, rfl, q.shl, ho es rfl, rfl⟩) rfl)
end
end DL
set_option maxHeartbeats 4000000
namespace DL
open PySem PySem.Spec PyProof.Rows L2
/-! ### the yielded charts -/
/-- what the chart with entries es and number num is -/
structure NumOk (n : Nat) (m : Nat → Nat → Nat) (sh : List Nat) (c : Nat) (num : Nat) (es : List Nat) : Prop where
  ch : ChOk n m sh es c
  pr : Prog n m sh es c
  num : numN (choOf n m sh c) (coefN n m (inp sh) es) = num
def leastD (CC CG : Addr) (n : Nat) (m : Nat → Nat → Nat) (sh : List Nat) : Option (List Nat) → D
  | none => .non
  | some es => chD CC CG n m sh es
/-- the answer for a table, as the law has it -/
structure LeastOk (CC CG CS CB CT : Addr) (n : Nat) (m : Nat → Nat → Nat) (sh : List Nat) (c : Nat) (tb : List Int) (o : Option (List Nat)) : Prop where
  q : DecOk n m sh c tb
  ho : ∀ es, o = some es → es.length < 10000
  d : decR CC CG CS CB CT n m sh c tb = .ok (leastD CC CG n m sh o)
structure YieldOk (CC CG CS CB CT : Addr) (n : Nat) (m : Nat → Nat → Nat) (sh : List Nat) (c : Nat) (tb : List Int) (due : List (Nat × List Nat)) : Prop where
  q : DecOk n m sh c tb
  e : decE CS CB CT n m sh c tb = none
  l : decL CC CG n m sh c tb = due.map fun p => chD CC CG n m sh p.2
  n : ∀ p ∈ due, NumOk n m sh c p.1 p.2
  len : due.length < 10000
section
variable {P : Program} {w : World} {K : PySem.W.Frag} {mg : Str → Option Value} {base : Heap} {f CG CC CS CB CT C : Addr} {fd : FuncData} {k kg : Nat}
def R_lyielded (CC CG CS CB CT : Addr) (ds : List D) (r : Res) : Prop := ∃ (n : Nat) (m : Nat → Nat → Nat) (sh : List Nat) (c : Nat) (tb tb2 : List Int) (due : List (Nat × List Nat)) (chosen : Nat) (o : Option (List Nat)), ds = [gD CG n m, tTab n m, tN sh, tI tb, lF dueD due, nI chosen, tI tb2, ansD o] ∧ YieldOk CC CG CS CB CT n m sh c tb due ∧ LeastOk CC CG CS CB CT n m sh c tb2 o ∧ r = .ok (.bl true)
abbrev s_lyielded : Stmt := top 83
abbrev N_lyielded : List Str := ["_law_group_here", "_law_rows", "_law_shape", "_law_labels_here", "_law_due", "_law_chosen", "_law_second", "_law_least_here", "_law_count_here", "_law_chart"]
theorem sc_lyielded : FnScope N_lyielded ["_law_group_here", "_law_rows", "_law_shape", "_law_labels_here", "_law_due", "_law_chosen", "_law_second", "_law_least_here"] (defScope s_lyielded) := ⟨rfl, rfl, rfl, by decide +kernel, rfl, by decide +kernel, by decide +kernel⟩
theorem ok_lyielded (T : Txt K mg) (G : GL.GenOk P w K mg base "deciding_charts" kg (R_deciding_charts CC CG CS CB CT)) (hkg : kg + 2 ≤ k) (O2 : DefOk P w K mg base "_law_is_chart" k (R_lis_chart CC CG)) (O3 : DefOk P w K mg base "_law_same" k R_lsameI) (O4 : DefOk P w K mg base "chart_number" k (R_chart_number CC CG)) (O5 : DefOk P w K mg base "_law_least_is" k (R_lleast_is CC CG CS CB CT)) (F : FnP K "_law_yielded_are" s_lyielded f fd) (hm : mg "_law_yielded_are" = some (.ref f)) : DefOk P w K mg base "_law_yielded_are" (k + 1) (R_lyielded CC CG CS CB CT) := by
  refine def_ok F hm sc_lyielded (fun ds r ⟨_, _, _, _, _, _, _, _, _, e, _⟩ => by rw [e]; rfl) (fun _ _ _ _ _ _ us hl => match us, hl with | [_, _, _, _, _, _, _, _], _ => rfl) fun cdv A outer s H E hr ds r hR => ?_
  obtain ⟨n, m, sh, c, tb, tb2, due, chosen, o, rfl, y, l, rfl⟩ := hR
  have nd := sc_lyielded.nd
  refine dss_cons (ds_set 8 nd (d := nI 0) de_int ?_)
  refine dss_cons (GL.ds_forG 9 (due.map fun p => chD CC CG n m sh p.2) none G (hr.mono hkg) (passes_of rfl) GL.xeb_cx nd (da_cons (de_var 0) (da_cons (de_var 2) (da_cons (de_var 3) da_nil))) ⟨n, m, sh, c, tb, rfl, y.q, y.e.symm, y.l.symm⟩ (fun C hC => nomatch hC) (fun C hC => nomatch hC) (fun j ρ' => ∃ s, ρ' = [.val (gD CG n m), .val (tTab n m), .val (tN sh), .val (tI tb), .val (lF dueD due), .val (nI chosen), .val (tI tb2), .val (ansD o), .val (nI j), s]) ⟨_, rfl⟩ (fun _ j z ρ' hj hI => ?_) (fun _ ρ' hI => ?_))
  · obtain ⟨s, rfl⟩ := hI
    rw [List.getElem?_map] at hj
    obtain ⟨p, hp, rfl⟩ := Option.map_eq_some_iff.mp hj
    have hjl : j < due.length := (List.getElem?_eq_some_iff.mp hp).1
    have N := y.n p (List.mem_of_getElem? hp)
    have hdp : atI (due.map dueD) (j : Nat) = some (dueD p) := atI_nat (by rw [List.getElem?_map, hp]; rfl)
    refine dss_cons (ds_if (k := false) (dt_pw (dw_or (k := false) (k' := false) (DT.is (dt_cmp op_ge rd_ge (de_var 8) (de_lenL (ds := due.map dueD) (de_var 4) T.nLen) (nomark _)) (by rw [List.length_map]; exact decide_eq_false (by omega))) fun _ => dw_or1 (k := false) (dt_not (dt_of (k := true) (de_call O2 hr (da_cons (de_var 9) (da_cons (de_var 1) (da_cons (de_var 2) (da_cons (de_ixT (ds := [nI p.1, tN p.2]) (i := 1) (d := tN p.2) (de_ixL (ds := due.map dueD) (i := (j : Nat)) (d := dueD p) (de_var 4) (de_var 8) hdp) de_int rfl) da_nil)))) ⟨n, m, sh, p.2, rfl, y.q.shl, N.ch.le, rfl⟩))))) (fun z => nomatch z) fun _ => dss_nil ?_)
    refine dss_cons (ds_if (k := false) (DT.is (dt_pw (dw_and (k := decide (j = chosen)) (k' := false) (DT.is (dt_cmp op_eq rd_eqI (de_var 8) (de_var 5) (nomark _)) (dec_eq _ _)) fun _ => dw_and1 (k := false) (dt_not (dt_of (k := true) (de_call O3 hr (da_cons (de_call O4 hr (da_cons (de_var 9) da_nil) ⟨n, m, sh, p.2, c, rfl, N.ch, N.pr, fun k => by have := @subAt_len n m c k; have := N.ch.few; omega, by rw [N.num]⟩) (da_cons (de_ixT (ds := [nI p.1, tN p.2]) (i := 0) (d := nI p.1) (de_ixL (ds := due.map dueD) (i := (j : Nat)) (d := dueD p) (de_var 4) (de_var 8) hdp) de_int rfl) da_nil)) ⟨p.1, rfl, rfl⟩))))) (Bool.and_false _)) (fun z => nomatch z) fun _ => dss_nil ?_)
    refine dss_cons (ds_if (k := false) (DT.is (dt_pw (dw_and (k := decide (j = 0)) (k' := false) (DT.is (dt_cmp op_eq rd_eqI (de_var 8) de_int (nomark _)) (dec_eq _ 0)) fun _ => dw_and1 (k := false) (dt_not (dt_of (k := true) (de_call O5 hr (da_cons (de_var 0) (da_cons (de_var 1) (da_cons (de_var 2) (da_cons (de_var 6) (da_cons (de_var 7) da_nil))))) ⟨n, m, sh, c, tb2, o, rfl, l.q, l.ho, l.d, rfl⟩))))) (Bool.and_false _)) (fun z => nomatch z) fun _ => dss_nil ?_)
    exact dss_one (ds_aug 8 nd iop_add (rd_I0 fun _ => .int) de_int ⟨.val (chD CC CG n m sh p.2), rfl⟩)
  · obtain ⟨s, rfl⟩ := hI
    refine dss_one (ds_ret (DE.is (de_cmp op_eq rd_eqI (de_var 8) (de_lenL (ds := due.map dueD) (de_var 4) T.nLen) (nomark _)) ?_) rfl)
    rw [List.length_map, List.length_map, decide_eq_true rfl]
end
end DL
set_option maxHeartbeats 4000000
namespace DL
open PySem PySem.Spec PyProof.Rows L2
/-! ### the answers, as the law has them -/
structure TbOk (sh : List Nat) (tb : List Int) : Prop where
  len : tb.length = prodN sh
  b : ∀ l ∈ tb, l = 0 ∨ l = 1
section
variable {n c : Nat} {m : Nat → Nat → Nat} {sh : List Nat} {tb : List Int} {CC CG CS CB CT : Addr}
theorem TbOk.ok (h : TbOk sh tb) : tbOk sh tb = true := by
  unfold tbOk
  rw [decide_eq_true h.len, Bool.true_and, List.all_eq_true]
  intro l hl
  rcases h.b l hl with e | e
  · rw [e]; decide
  · rw [e]; decide
theorem tb_of (h : tbOk sh tb = true) : TbOk sh tb := by
  unfold tbOk at h
  simp only [Bool.and_eq_true, List.all_eq_true, decide_eq_true_eq] at h
  refine ⟨h.1, fun l hl => ?_⟩
  have := h.2 l hl
  simpa using this
theorem inp_facts (h : sh ∈ shL) : 0 < (inp sh).length ∧ (inp sh).length = prodN sh ∧ prodN sh ≤ 16 ∧ ∀ s ∈ inp sh, s.length < 10000 := by
  have S := shp_of h
  have l4 := S.l4
  rw [inp_lit h]
  exact ⟨by rw [S.len]; exact S.pos, S.len, S.few, fun s hs => by have := (S.each s hs).1; omega⟩
theorem row_of (g : Grp n m) (hn : n ≤ 60) (s : Still n m c) (h : sh ∈ shL) (t : TbOk sh tb) : RowOk n m sh c tb := by
  obtain ⟨a1, a2, a3, a4⟩ := inp_facts h
  exact ⟨g, hn, s, szc_of h, a1, a2, t.len, by omega, a4⟩
theorem dec_of (g : Grp n m) (hn : n ≤ 60) (s : Still n m c) (h : shOk sh = true → sh ∈ shL) (h1 : sh.length < 10000) (h2 : tb.length < 10000) : DecOk n m sh c tb :=
  ⟨fun a b => row_of g hn s (h a) (tb_of b), h1, h2, g, hn, s⟩
theorem dec_good (g : Grp n m) (hn : n ≤ 60) (s : Still n m c) (h : sh ∈ shL) (t : TbOk sh tb) : DecOk n m sh c tb := by
  have S := shp_of h
  have l4 := S.l4
  have few := S.few
  exact dec_of g hn s (fun _ => h) (by omega) (by rw [t.len]; omega)
/-- the choices at the inputs -/
noncomputable abbrev csA (n : Nat) (m : Nat → Nat → Nat) (c : Nat) (sh : List Nat) : List (List Nat) := choN (rowL n m c) (litI sh)
theorem cs_len (h : sh ∈ shL) : (csA n m c sh).length = (litI sh).length := by
  have S := shp_of h
  have := S.pos
  unfold csA choN
  rw [List.length_cons, List.length_map, List.length_drop, S.len]
  omega
theorem cs_srch (g : Grp n m) (s : Still n m c) (h : sh ∈ shL) : srch m (inp sh) (choN (rowL n m c) (inp sh)) tb = (dueN m (litI sh) (csA n m c sh) tb).map (·.2) := by
  rw [inp_lit h]
  exact (due_srch (cs_len h) fun q hq => (choN_pos g s q hq).1).symm
theorem cnt_of (h : sh ∈ shL) : cntOk n m sh c ↔ pN (csA n m c sh) ≤ 1024 := by
  unfold cntOk pN csA
  rw [inp_lit h]
theorem low_one (g : Grp n m) {k : Nat} : low n m k = [0] ↔ ¬ 1 < (low n m k).length := by
  constructor
  · intro h; rw [h]; simp
  · intro h
    apply Classical.byContradiction
    exact fun q => h (low_two g.pos q)
theorem ans_ok (g : Grp n m) (hn : n ≤ 60) (s : Still n m c) (h : sh ∈ shL) (t : TbOk sh tb) {e : Nat} (he : c ≤ e) (hc : low n m e = [0] → pN (csA n m c sh) ≤ 1024) :
    decR CC CG CS CB CT n m sh c tb = .ok (leastD CC CG n m sh (lleast (low n m e) tb (dueN m (litI sh) (csA n m c sh) tb))) := by
  have e1 : low n m e = low n m c := s.ge he
  unfold decR
  rw [if_pos (shp_of h).ok, if_pos t.ok]
  unfold byRow lleast
  rw [e1] at hc ⊢
  by_cases hz : low n m c = [0]
  · rw [if_neg (fun q => q hz), if_pos (show prodN (List.map List.length (choN (rowL n m c) (inp sh))) ≤ 1024 from (cnt_of h).mpr (hc hz)), if_neg ((low_one g).mp hz), cs_srch g s h]
    cases dueN m (litI sh) (csA n m c sh) tb with
    | nil => rfl
    | cons p ps => rfl
  · rw [if_pos hz, if_pos (low_two g.pos hz)]
    rfl
theorem ans_len (g : Grp n m) (s : Still n m c) (h : sh ∈ shL) (t : TbOk sh tb) (e : Nat) : ∀ es, lleast (low n m e) tb (dueN m (litI sh) (csA n m c sh) tb) = some es → es.length < 10000 := fun es hes => by
  have S := shp_of h
  have few := S.few
  unfold lleast at hes
  split at hes
  · cases hes
    rw [List.length_map, t.len]; omega
  · cases hd : dueN m (litI sh) (csA n m c sh) tb with
    | nil => rw [hd] at hes; cases hes
    | cons p ps =>
      rw [hd] at hes
      cases hes
      have hp : p ∈ dueN m (litI sh) (csA n m c sh) tb := by rw [hd]; exact List.mem_cons_self
      unfold dueN at hp
      obtain ⟨k, _, rfl⟩ := List.mem_map.mp hp
      show (entN _ _ _).length < _
      rw [entN_len, membN_len, cs_len h, S.len]; omega
theorem least_ok (g : Grp n m) (hn : n ≤ 60) (s : Still n m c) (h : sh ∈ shL) (t : TbOk sh tb) {e : Nat} (he : c ≤ e) (hc : low n m e = [0] → pN (csA n m c sh) ≤ 1024) :
    LeastOk CC CG CS CB CT n m sh c tb (lleast (low n m e) tb (dueN m (litI sh) (csA n m c sh) tb)) := ⟨dec_good g hn s h t, ans_len g s h t e, ans_ok g hn s h t he hc⟩
theorem num_ok (g : Grp n m) (hn : n ≤ 60) (s : Still n m c) (h : sh ∈ shL) {k : Nat} (hk : k < pN (csA n m c sh)) : NumOk n m sh c k (entN m (litI sh) (membN (csA n m c sh) k)) := by
  have S := shp_of h
  have few := S.few
  obtain ⟨a1, a2, a3, a4⟩ := inp_facts h
  obtain ⟨v, rest, hv⟩ : ∃ v rest, litI sh = v :: rest := by
    cases q : litI sh with
    | nil => have := S.len; have := S.pos; rw [q] at *; simp at *; omega
    | cons v rest => exact ⟨v, rest, rfl⟩
  have hlen : (entN m (litI sh) (membN (csA n m c sh) k)).length = prodN sh := by rw [entN_len, membN_len, cs_len h, S.len]
  refine ⟨⟨g, by omega, s, szc_of h, by rw [a2, hlen], by omega, a4, entN_lt g (membN_lt g s k)⟩, ?_, ?_⟩
  · unfold Prog
    rw [inp_lit h]
    exact prog_ent g s hv
  · unfold choOf
    rw [inp_lit h]
    exact num_ent g s hv hk
theorem yield_ok (g : Grp n m) (hn : n ≤ 60) (s : Still n m c) (h : sh ∈ shL) (t : TbOk sh tb) (hc : pN (csA n m c sh) ≤ 1024) : YieldOk CC CG CS CB CT n m sh c tb (dueN m (litI sh) (csA n m c sh) tb) := by
  refine ⟨dec_good g hn s h t, ?_, ?_, fun p hp => ?_, ?_⟩
  · unfold decE
    rw [if_pos (shp_of h).ok, if_pos t.ok, if_pos ((cnt_of h).mpr hc)]
  · unfold decL
    rw [cs_srch g s h, List.map_map]
    rfl
  · unfold dueN at hp
    obtain ⟨k, hk, rfl⟩ := List.mem_map.mp hp
    exact num_ok g hn s h (List.mem_range.mp (List.mem_filter.mp hk).1)
  · unfold dueN
    rw [List.length_map]
    have := List.length_filter_le (fun k => noCl tb (entN m (litI sh) (membN (csA n m c sh) k))) (List.range (pN (csA n m c sh)))
    rw [List.length_range] at this
    omega
end
end DL
set_option maxHeartbeats 4000000
namespace DL
open PySem PySem.Spec PyProof.Rows L2
/-! ### the other group -/
abbrev wAt (m : Nat → Nat → Nat) (ins : List (List Int)) (cs : List (List Nat)) (k : Nat) : List Nat := entN m ins (membN cs k)
def fstW (m : Nat → Nat → Nat) (ins : List (List Int)) (cs : List (List Nat)) (tb : List Int) (i : Nat) : Option (List Nat) := ((List.range i).find? fun k => noCl tb (wAt m ins cs k)).map (wAt m ins cs)
theorem fst_due (m : Nat → Nat → Nat) (ins : List (List Int)) (cs : List (List Nat)) (tb : List Int) : fstW m ins cs tb (pN cs) = (dueN m ins cs tb).head?.map (·.2) := by
  unfold fstW dueN
  rw [List.head?_map, List.head?_filter, Option.map_map]
  rfl
theorem fst_succ (m : Nat → Nat → Nat) (ins : List (List Int)) (cs : List (List Nat)) (tb : List Int) (i : Nat) : fstW m ins cs tb (i + 1) = match fstW m ins cs tb i with
    | some es => some es
    | none => if noCl tb (wAt m ins cs i) = true then some (wAt m ins cs i) else none := by
  unfold fstW
  rw [List.range_succ, List.find?_append]
  cases h : (List.range i).find? fun k => noCl tb (wAt m ins cs k) with
  | some k => rfl
  | none =>
    by_cases q : noCl tb (wAt m ins cs i) = true
    · simp [q]
    · simp [q]
section
variable {P : Program} {w : World} {K : PySem.W.Frag} {mg : Str → Option Value} {base : Heap} {f CG CC CS CB CT C : Addr} {fd : FuncData} {k km : Nat}
def R_lother (ds : List D) (r : Res) : Prop := ∃ (n : Nat) (sh : List Nat) (tb : List Int), ds = [nI n, tN sh, tI tb] ∧ 0 < n ∧ n ≤ 60 ∧ sh ∈ shL ∧ TbOk sh tb ∧ (∀ c, Still n (cycM n) c → pN (csA n (cycM n) c sh) ≤ 1024) ∧ r = .ok (.bl true)
abbrev s_lother : Stmt := top 84
abbrev N_lother : List Str := ["_law_size", "_law_shape", "_law_labels_here", "_law_table_here", "_law_series", "_law_inputs_here", "_law_choices_here", "_law_below_here", "_law_least_here", "_law_number", "_law_entries", "_law_rows", "_law_row"]
theorem sc_lother : FnScope N_lother ["_law_size", "_law_shape", "_law_labels_here"] (defScope s_lother) := ⟨rfl, rfl, rfl, by decide +kernel, rfl, by decide +kernel, by decide +kernel⟩
theorem ok_lother (T : Txt K mg) (M : MakeOk P w K mg base "Group" CG km R_Group) (hkm : km + 1 ≤ k) (O1 : DefOk P w K mg base "_law_cyclic" k R_lcyclic) (O2 : DefOk P w K mg base "_law_lower" k R_llower) (O3 : DefOk P w K mg base "_law_inputs" k R_linputs) (O4 : DefOk P w K mg base "_law_choices" k R_lchoices) (O5 : DefOk P w K mg base "_law_below" k R_lbelow) (O6 : DefOk P w K mg base "_law_count" k R_lcount) (O7 : DefOk P w K mg base "_law_entries_at" k R_lentries_at) (O8 : DefOk P w K mg base "_law_no_clash" k R_lno_clash) (O9 : DefOk P w K mg base "_law_least_is" k (R_lleast_is CC CG CS CB CT))
    (F : FnP K "_law_other_group_is" s_lother f fd) (hm : mg "_law_other_group_is" = some (.ref f)) : DefOk P w K mg base "_law_other_group_is" (k + 1) R_lother := by
  refine def_ok F hm sc_lother (fun ds r ⟨_, _, _, e, _⟩ => by rw [e]; rfl) (fun _ _ _ _ _ _ us hl => match us, hl with | [_, _, _], _ => rfl) fun cdv A outer s H E hr ds r hR => ?_
  obtain ⟨n, sh, tb, rfl, h0, hn, hsh, ht, hcnt, rfl⟩ := hR
  have nd := sc_lother.nd
  have zl := sizeLine_eq
  have g := cyc_grp h0
  have S := shp_of hsh
  have few := S.few
  have l4 := S.l4
  have hlen : (litI sh).length ≤ 16 := by rw [S.len]; exact few
  obtain ⟨c, hc5, s, ecs⟩ := lcho_ok g hn hsh (t := 7) (by omega)
  have hlens := lcho_lens g hn hsh (t := 7) (by omega)
  rw [ecs] at hlens
  replace hlens : ∀ q ∈ csA n (cycM n) c sh, (0 < q.length ∧ q.length < 10000) ∧ ∀ x ∈ q, x < n := hlens
  have hk := hcnt c s
  refine dss_cons (ds_set 3 nd (de_call O1 hr (da_cons (de_var 0) da_nil) ⟨n, rfl, h0, by omega, rfl⟩) ?_)
  refine dss_cons (ds_set 4 nd (de_call O2 hr (da_cons (de_var 3) (da_cons de_int da_nil)) ⟨n, cycM n, 7, rfl, g, by omega, by omega, rfl⟩) ?_)
  refine dss_cons (ds_set 5 nd (de_call O3 hr (da_cons (de_var 1) da_nil) ⟨sh, rfl, hsh, rfl⟩) ?_)
  refine dss_cons (ds_set 6 nd (d := lF lN (csA n (cycM n) c sh)) (de_call O4 hr (da_cons (de_var 4) (da_cons (de_var 5) da_nil)) ⟨serN n (cycM n) 7, litI sh, rfl, by omega, fun z hz => by have := S.each z hz; rw [serN_len]; omega, by rw [ecs]⟩) ?_)
  refine dss_cons (ds_set 7 nd (de_call O5 hr (da_cons (de_var 5) da_nil) ⟨litI sh, sh.length, rfl, by omega, by omega, fun z hz => (S.each z hz).1, rfl⟩) ?_)
  refine dss_cons (ds_set 8 nd (d := .non) de_non ?_)
  generalize hcs : csA n (cycM n) c sh = cs at *
  have hcsl : cs.length = (litI sh).length := by rw [← hcs]; exact cs_len hsh
  have hcs0 := S.pos
  have hlit := S.len
  refine dss_cons (ds_for (List.range (pN cs)) nI [9] (fun k => [nI k]) (passes_of rfl) (di_rng (n := pN cs) (de_call O6 hr (da_cons (de_var 6) da_nil) ⟨cs, rfl, fun q hq => (hlens q hq).1.2, rfl⟩) T.nRange (by omega)) (fun _ _ => dg_name 9 nd) (fun i ρ' => ∃ s1 s2, ρ' = [.val (nI n), .val (tN sh), .val (tI tb), .val (lTab n (cycM n)), .val (lF lN (serN n (cycM n) 7)), .val (lF tI (litI sh)), .val (lF lN cs), .val (lF lN ((List.range (litI sh).length).map (underL (litI sh)))), .val (ansD (fstW (cycM n) (litI sh) cs tb i)), s1, s2, .no, .no]) ⟨_, _, rfl⟩ ?_ ?_)
  · rintro i x ρ' hx ⟨s1, s2, rfl⟩
    obtain ⟨hi1, hi2⟩ := List.getElem?_eq_some_iff.mp hx
    have ex : x = i := by simpa using hi2.symm
    subst ex
    have esc := fst_succ (cycM n) (litI sh) cs tb x
    cases hq : fstW (cycM n) (litI sh) cs tb x with
    | some es =>
      rw [hq] at esc
      refine dss_one (ds_if (k := false) (dt_cmp op_isN rd_isN (de_var 8) de_non (nomark _)) (fun z => nomatch z) fun _ => dss_nil ⟨.val (nI x), s2, ?_⟩)
      rw [esc]; rfl
    | none =>
      rw [hq] at esc
      have hwl : (wAt (cycM n) (litI sh) cs x).length = tb.length := by rw [entN_len, membN_len, hcsl, ht.len, hlit]
      have hwlt : ∀ z ∈ wAt (cycM n) (litI sh) cs x, z < n := entN_lt g (membN_ok (n := n) (fun q hq => (hlens q hq).1.1) (fun q hq => (hlens q hq).2) x).2
      refine dss_one (ds_if (k := true) (dt_cmp op_isN rd_isN (de_var 8) de_non (nomark _)) (fun _ => ?_) fun z => nomatch z)
      refine dss_cons (ds_set 10 nd (d := tN (wAt (cycM n) (litI sh) cs x)) (de_tupL (da_cons (de_call O7 hr (da_cons (de_var 3) (da_cons (de_var 6) (da_cons (de_var 7) (da_cons (de_var 9) da_nil)))) ⟨n, cycM n, cs, litI sh, x, rfl, g, hcsl, by omega, fun q hq => (hlens q hq).1, fun q hq => (hlens q hq).2, rfl⟩) da_nil) T.nTuple) ?_)
      refine dss_one (ds_if (k := noCl tb (wAt (cycM n) (litI sh) cs x)) (dt_of (de_call O8 hr (da_cons (de_var 10) (da_cons (de_var 2) da_nil)) ⟨wAt (cycM n) (litI sh) cs x, tb, rfl, hwl, by rw [hwl, ht.len]; omega, fun z hz => by have := hwlt z hz; omega, ht.b, rfl⟩)) (fun hk => ?_) fun hk => ?_)
      · refine dss_one (ds_set 8 nd (d := tN (wAt (cycM n) (litI sh) cs x)) (de_var 10) ⟨.val (nI x), .val (tN (wAt (cycM n) (litI sh) cs x)), ?_⟩)
        rw [esc]
        simp only [hk, if_true]
        rfl
      · refine dss_nil ⟨.val (nI x), .val (tN (wAt (cycM n) (litI sh) cs x)), ?_⟩
        rw [esc]
        simp only [hk, Bool.false_eq_true, if_false]
        rfl
  · rintro ρ' ⟨s1, s2, rfl⟩
    rw [List.length_range, fst_due]
    have hl7 : (low n (cycM n) 7).length = 1 := cyc_one h0 6
    have eans : (dueN (cycM n) (litI sh) cs tb).head?.map (·.2) = lleast (low n (cycM n) 7) tb (dueN (cycM n) (litI sh) cs tb) := by
      unfold lleast
      rw [if_neg (by omega)]
    have L := least_ok (CC := CC) (CG := CG) (CS := CS) (CB := CB) (CT := CT) g hn s hsh ht (e := 7) (by omega) (fun _ => by rw [hcs]; exact hk)
    rw [hcs, ← eans] at L
    refine dss_cons (ds_set 11 nd (d := tTab n (cycM n)) (DE.is (de_tupL (da_cons (de_of_do (do_lc0 (List.range n) (fun a => lN ((List.range n).map (cycM n a))) [12] (fun a => [lN ((List.range n).map (cycM n a))]) (fun a => tN ((List.range n).map (cycM n a))) [("_law_row", 12)] nd (blkOk_by (N := N_lother) (sc := defScope s_lother) (by decide +kernel)) (di_list (de_var 3)) ?_ ?_ ?_)) da_nil) T.nTuple) rfl) ?_)
    · rw [List.length_range]; omega
    · exact fun _ _ _ _ _ z _ => dg_name 12 nd
    · exact fun _ _ _ _ _ z _ => de_tupL (da_cons (de_var 12) da_nil) T.nTuple
    exact dss_one (ds_ret (de_call O9 hr (da_cons (de_make M (hr.mono hkm) (da_cons (de_var 3) da_nil) ⟨n, cycM n, rfl, hn, g, rfl⟩) (da_cons (de_var 11) (da_cons (de_var 1) (da_cons (de_var 2) (da_cons (de_var 8) da_nil))))) ⟨n, cycM n, sh, c, tb, _, rfl, L.q, L.ho, L.d, rfl⟩) rfl)
end
end DL
set_option maxHeartbeats 4000000
namespace GL
open PySem PySem.Spec PyProof.Rows L2 DL
section
variable {X : Cx} {e : Expr} {es : List Expr} {body : List Stmt} {ρ : List Sl} {ds : List D} {x v : Str} {p pos pvn fpos : Pos} {E : Cfg} {Z H : Hp} {σ : L2.St}
/-- a for over a generator that raises at once -/
theorem ws_forGf {k : Nat} {R : List D → List D → Option Addr → Prop} {C0 : Addr} {items : List D} {En : Ends} (F : GenOk X.prog X.w X.K X.mg X.base x k R) (hr : Room (k + 2) X.A) (hp : PassesOwn (model X.prog X.w) X.A X.env X.xe) (ha : DA X (e :: es) ρ ds) (hR : R ds items (some C0))
    (hns : PySem.W.subIn X.K (.ref C0) (.type "StopIteration") = some false) (S : St1 X.K E Z H σ ρ) (W : XWf X E (fun C => C = C0) σ)
    (hex : X.ex = [] := by rfl) (hg : Gl X x := by rfl) (hdb : (x == ("__debug__" : Str)) = false := by decide)
    (he : starEach (e :: es) X.env = (false, eval e X.env) :: starEach es X.env := by rfl) (hpl : (backTo pos (starEach es X.env)).any (·.1) = false := by rfl)
    (hfs : ∀ x', foldedSetIterable (.Call (.Name x p) (e :: es) [] pos) X.env x' = pure x' := by intro _; rfl) : WS X (.For (.Name v pvn) (.Call (.Name x p) (e :: es) [] pos) body [] fpos) En σ H := fun pins s I0 => by
  refine wpAny_For ?_ hfs
  have W2 : XWf X E (fun C => some C0 = some C) σ := by
    obtain ⟨W, t, w⟩ := W
    exact ⟨W, t, fun C H' hC => w C H' (Option.some.inj hC).symm⟩
  refine wp_gen F hr hex ha hR (fun C hC => by cases hC; exact hns) I0 S W2 (Nat.zero_le _) (fun a gn go g pv c H1 Z1 s0 s1 N qual st f cdv gi eg hgo hn0 _ gr _ _ hd0 => ?_) hg hdb he hpl
  have oo : Of X g := by rw [eg]; exact ofInst
  have kk : g.k = k := by rw [eg]
  have rr : Room (g.k + 2) X.A := by rw [kk]; exact hr
  have pin1 := (hd0.I.pin (a, go) (List.mem_append_right _ (List.mem_append_right _ (List.mem_singleton.mpr rfl)))).1
  refine wpAny_pyIter_gen (hgo.at pin1) ?_
  refine codeAny_forLoop (fun n s' => n = 0 ∧ ∃ gs', Hd X g pins a gn go E σ H1 Z1 ρ pv items gs' (some C0 = (none : Option Addr)) s') ?_ 0 ⟨rfl, _, hd0⟩
  rintro n s2 ⟨_, gs2, hd2⟩
  refine wpAny_passesOwn hp (thn (hd_next oo hex hgo rr hd2) fun r s3 q => ?_)
  cases items with
  | nil => obtain ⟨ok1, _⟩ := q; cases ok1
  | cons y ys => obtain ⟨ok1, _⟩ := q; cases ok1
/-- what is wished of exceptions of a try's body may be seen through what slept -/
theorem sp_back {pins : List (Addr × Obj)} {En : Ends} {f : Flow} {orig : Array GenState} {s1 s' : Shared} (h0 : AllBare orig) (b : Back orig s1 s') (h : SP X pins En f s1) : SP X pins En f s' := by
  cases f with
  | next => obtain ⟨σ', H', I, q⟩ := h; exact ⟨σ', H', inv_back I h0 b, q⟩
  | brk => obtain ⟨σ', H', I, q⟩ := h; exact ⟨σ', H', inv_back I h0 b, q⟩
  | cont => obtain ⟨σ', H', I, q⟩ := h; exact ⟨σ', H', inv_back I h0 b, q⟩
  | ret u => obtain ⟨w, σ', H', I, r, q⟩ := h; exact ⟨w, σ', H', inv_back I h0 b, r, q⟩
abbrev tryXe (X : Cx) (hds : List ExceptHandler) (pins : List (Addr × Obj)) (En : Ends) : Value → Shared → Prop := fun ev s₁ => wpAny (model X.prog X.w) X.A (noteFrame ev X.env) (fun _ s₂ => wpAny (model X.prog X.w) X.A (setFlight ev none) (fun _ s₃ =>
    wpAny (model X.prog X.w) X.A (handleBy ev X.env hds) (SP X pins En) X.xe s₃) X.xe s₂) X.xe s₁
theorem try_xeb (hxb : XeB X) (hds : List ExceptHandler) (pins pn : List (Addr × Obj)) (En : Ends) : XeB (X.tr pn (tryXe X hds pins En)) := fun orig s1 s' ev h0 b h => by
  have ex : ∀ (e' : Value) (t' : Shared), (∃ t1, Back orig t1 t' ∧ X.xe e' t1) → X.xe e' t' := fun e' t' ⟨t1, b1, q⟩ => hxb orig t1 t' e' h0 b1 q
  refine wpAny_mono (wpAny_back b h) (fun _ s2' ⟨s2, b2, q2⟩ => ?_) ex
  refine wpAny_mono (wpAny_back b2 q2) (fun _ s3' ⟨s3, b3, q3⟩ => ?_) ex
  exact wpAny_mono (wpAny_back b3 q3) (fun fl s4' ⟨s4, b4, q4⟩ => sp_back h0 b4 q4) ex
end
end GL
namespace DL
open PySem PySem.Spec PyProof.Rows L2
/-! ### several clauses, each with a name -/
def emptied (En : Ends) (i : Nat) : Ends := { nx := fun σ' H' => En.nx (σ'.set i none) H', rt := En.rt, bk := fun σ' H' => En.bk (σ'.set i none) H', ct := fun σ' H' => En.ct (σ'.set i none) H' }
def wNamed (K : PySem.W.Frag) (i : Nat) (Wo : WX) (En : Ends) : List (Value × (Addr → Value → Option Addr → TS)) → WX
  | [] => Wo
  | (c, ts) :: more => fun cl dx σ H => ∃ b, PySem.W.exmOne K cl c = some b ∧ (b = true → ∀ a, H a = none → ts a cl dx (emptied En i) (σ.set i (some (.ref a))) H) ∧ (b = false → wNamed K i Wo En more cl dx σ H)
inductive Clauses (X : Cx) (n : Str) : List ExceptHandler → List (Value × (Addr → Value → Option Addr → TS)) → Prop
  | nil : Clauses X n [] []
  | cons {x : Str} {c : Value} {ts : Addr → Value → Option Addr → TS} {b1 : Stmt} {rest : List Stmt} {np hp : Pos} {hs : List ExceptHandler} {l : List (Value × (Addr → Value → Option Addr → TS))} (hc : Names X x c)
      (hsu : ∀ (a : Addr) (eo : Obj) (cl : Value) (dx : Option Addr) (pn : List (Addr × Obj)), Zc cl dx eo → (∃ vs, eo.data = .fields vs) → PSs (X.suite a ((a, eo) :: pn)) (b1 :: rest) (ts a cl dx)) (r : Clauses X n hs l) :
      Clauses X n (.ExceptHandler (some (.Name x np)) (some n) (b1 :: rest) hp :: hs) ((c, ts) :: l)
section
variable {X : Cx} {n : Str} {i : Nat} {body : List Stmt} {h1 : ExceptHandler} {hs : List ExceptHandler} {l : List (Value × (Addr → Value → Option Addr → TS))} {pos : Pos} {tb : WX → TS} {Wo : WX}
theorem ps_try_named (hst : X.stack = X.env :: X.outer) (hfr : X.env.frame = some X.env.locals) (hN : X.N.Nodup) (hi : X.N[i]? = some n) (hln : X.env.kindOf n = some .local) (tk : Takes X Wo) (hxb : GL.XeB X)
    (hb : ∀ (W : WX) (pn : List (Addr × Obj)) (xe : Value → Shared → Prop), Takes (X.tr pn xe) W → PassesOwn (model X.prog X.w) X.A X.env xe → GL.XeB (X.tr pn xe) → PSs (X.tr pn xe) body (tb W))
    (hh : Clauses X n (h1 :: hs) l) : PS X (.Try body (h1 :: hs) [] [] pos) (fun En σ H => tb (wNamed X.K i Wo En l) En σ H) := by
  refine ⟨fun pins s σ H En I h => ?_⟩
  have good := I.ok
  have frs1 : X.A.frames = some (X.env :: X.outer) := by rw [good.frames, hst]
  have hloc : Loc X.env.scope n := .inl hln
  refine wpAny_Try_except ?_
  refine wpAny_mono ((hb (wNamed X.K i Wo En l) (X.pn ++ pins) (GL.tryXe X (h1 :: hs) pins En) (fun u sx xx => ?_) PassesOwn.looking (GL.try_xeb hxb _ _ _ _)).run [] s σ H En (I.toTry _) h) (fun fl sA hsp => ?_) (fun e1 sA he => he)
  · obtain ⟨a, B, sI, pins2, σ2, H2, cl, dx, rfl, JJ, nb, up, sk, na, os, ag, ww⟩ := xx
    have J1 : Inv X pins σ2 H2 sI := JJ.ofTry good
    have sk1 : Sky B (X.env :: X.outer) a (Zc cl dx) X.env.locals sx.heap := by rw [← hst]; exact sk
    show wpAny (model X.prog X.w) X.A (noteFrame (.ref a) X.env) _ _ _
    refine Sky.land Zc.steady frs1 hfr sk1 fun hp3 fly3 lift3 => ?_
    have L3 : Inv X pins σ2 H2 { sx with heap := hp3 } := J1.landed nb fly3.1 (up.trans lift3) os ag
    obtain ⟨ob3, fs3, get3, zc3, dat3⟩ := fly3.there
    have apart : ∀ {hq : Heap} {oq : Obj} {us : Array Value}, hq.FunFrames B (X.env :: X.outer) → hq.get? a = some oq → oq.data = .fields us → a ∉ frs (X.env :: X.outer) := fun {hq oq us} ff eg dd hm => by
      obtain ⟨_, ow, ew, hnf⟩ := ff.mem hm
      rw [eg] at ew; cases ew
      exact hnf _ dd
    have notIn := apart fly3.2.2.1 get3 dat3
    have notL : a ≠ X.env.locals := fun zz => notIn (List.mem_filterMap.mpr ⟨X.env, List.mem_cons_self, by rw [hfr, zz]⟩)
    have notF : a ∉ X.fs := fun hm => by
      obtain ⟨ev, hev, qq⟩ := List.mem_filterMap.mp hm
      exact notIn (List.mem_filterMap.mpr ⟨ev, List.mem_cons_of_mem _ hev, qq⟩)
    have U3 := L3.suite get3 dat3 na notL notF
    have run : ∀ {hs2 : List ExceptHandler} {l2 : List (Value × (Addr → Value → Option Addr → TS))}, Clauses X n hs2 l2 → wNamed X.K i Wo En l2 cl dx σ2 H2 →
        wpAny (model X.prog X.w) X.A (handleBy (.ref a) X.env hs2) (SP X pins En) X.xe { sx with heap := hp3 } := by
      intro hs2 l2 hcl
      induction hcl with
      | nil =>
        intro wv
        refine wpAny_handleBy_nil ?_
        obtain ⟨q1, q2, q3, ob, us, TT, oT, tt, gt, zz, dd, ff1, rr⟩ := id fly3
        unfold PySem.passOn
        refine wpAny_bind (wpAny_field gt dd ff1 ?_)
        rw [if_neg (show ¬ ((Value.ref TT == Value.none) = true) from by simp)]
        have last : wpAny (model X.prog X.w) X.A (setFlight (.ref a) X.env.frame) (fun _ sB => wpAny (model X.prog X.w) X.A (throw (.ref a) : Sem Flow) (SP X pins En) X.xe sB) X.xe { sx with heap := hp3 } := by
          rw [hfr]
          refine HandSPX.setFlight_upZ fly3 fun hp4 sky4 lift4 => wpAny_throw (tk _ _ ?_)
          exact ⟨a, B, sI, pins, σ2, H2, cl, dx, rfl, J1, nb, (up.trans lift3).trans lift4, .inr (.inr (by rw [hst]; exact sky4)), na, os, ag, wv⟩
        first
          | exact wpAny_bind (wpAny_pure (wpAny_bind last))
          | exact wpAny_bind last
      | @cons xn c ts b1 rest np hpos hs3 l3 hc hsu rcl ih =>
        intro wv
        obtain ⟨b, exb, yes, no⟩ := wv
        refine wpAny_handleBy_cons (codeAny_handlers_test ?_) (by intro qq; cases qq)
        have lookT : PySem.W.Looks (model X.prog X.w) hp3 (typeOf (.ref a)) cl := fun A2 Q2 E2 sq kq qq => wpAny_typeOf_ref (kq _ _ get3) (by rw [zc3.1]; exact qq)
        have lookM := PySem.W.exm_one (M := model X.prog X.w) (L3.kIn) lookT exb
        have asks : ∀ {Q2 : Value → Shared → Prop} {E2 : Value → Shared → Prop}, Q2 c { sx with heap := hp3 } → wpAny (model X.prog X.w) (X.A.mark (some (.ref a))) (eval (.Name xn np) X.env) Q2 E2 { sx with heap := hp3 } := fun {Q2 E2} qq => by
          obtain ⟨gl, dbg, mm | ⟨mm, vv, nn⟩⟩ := hc
          · exact ld_glob (X := X.suite a ((a, ob3) :: (X.pn ++ pins))) U3 gl mm qq dbg
          · exact ld_blt (X := X.suite a ((a, ob3) :: (X.pn ++ pins))) U3 gl mm vv qq nn dbg
        refine asks (lookM.here ?_)
        cases b with
        | true =>
          refine codeAny_handlers_suite_as ?_
          refine HandSPX.lands_againZ fly3 fun hp4 fly4 lift4 => ?_
          have L4 : Inv X pins σ2 H2 { sx with heap := hp4 } := J1.landed nb fly4.1 ((up.trans lift3).trans lift4) os ag
          obtain ⟨ob4, fs4, get4, zc4, dat4⟩ := fly4.there
          have U4 := L4.suite get4 dat4 na notL notF
          refine store_ok (X := X.suite a ((a, ob4) :: (X.pn ++ pins))) (v := .ref a) U4 hN hi hloc rfl (fun sC U5 => ?_) (.inr hln)
          refine wpAny_mono ((hsu a ob4 cl dx (X.pn ++ pins) zc4 ⟨_, dat4⟩).run [] sC _ H2 _ U5 (yes rfl a na)) (fun fl sD hsp => ?_) (fun _ _ zz => False.elim zz)
          have fin : ∀ {σ6 : L2.St} {H6 : Hp} {Q2 : Shared → Prop}, Inv (X.suite a ((a, ob4) :: (X.pn ++ pins))) [] σ6 H6 sD → (∀ s7, Inv X pins (σ6.set i none) H6 s7 → Q2 s7) →
              wpAny (model X.prog X.w) X.A (do bindName X.env n .none; unbindBehindTheSuite X.env n hpos) (fun _ s7 => Q2 s7) X.xe sD := fun {σ6 H6 Q2} U6 hq => gone_ok (U6.unsuite good) hN hi hln hq
          cases fl with
          | next =>
            obtain ⟨σ6, H6, U6, q6⟩ := hsp
            exact fin U6 fun s7 J7 => ⟨_, _, J7, q6⟩
          | brk =>
            obtain ⟨σ6, H6, U6, q6⟩ := hsp
            exact fin U6 fun s7 J7 => ⟨_, _, J7, q6⟩
          | cont =>
            obtain ⟨σ6, H6, U6, q6⟩ := hsp
            exact fin U6 fun s7 J7 => ⟨_, _, J7, q6⟩
          | ret u =>
            obtain ⟨v6, σ6, H6, U6, r6, q6⟩ := hsp
            exact fin U6 fun s7 J7 => ⟨_, _, _, J7, r6, q6⟩
        | false =>
          show wpAny _ X.A (handleBy (.ref a) X.env hs3) _ _ _
          exact ih (no rfl)
    exact run hh ww
  · cases fl with
    | next =>
      obtain ⟨σ2, H2, J2, qq⟩ := hsp
      exact wpAny_execs_nil ⟨σ2, H2, J2.ofTry good, qq⟩
    | brk =>
      obtain ⟨σ2, H2, J2, qq⟩ := hsp
      exact ⟨σ2, H2, J2.ofTry good, qq⟩
    | cont =>
      obtain ⟨σ2, H2, J2, qq⟩ := hsp
      exact ⟨σ2, H2, J2.ofTry good, qq⟩
    | ret u =>
      obtain ⟨v2, σ2, H2, J2, r2, qq⟩ := hsp
      exact ⟨v2, σ2, H2, J2.ofTry good, r2, qq⟩
end
end DL
set_option maxHeartbeats 4000000
namespace DL
open PySem PySem.Spec PyProof.Rows L2
/-! ### what raises -/
/-- the classes that the law catches -/
structure CatchC (K : PySem.W.Frag) (CM C : Addr) : Prop where
  ec : ExcC K C
  km : PySem.W.kitOne K (.ref C) (.ref CM) = some true
  kv : PySem.W.kitOne K (.ref C) (.type "ValueError") = some true
  ns : PySem.W.subIn K (.ref C) (.type "StopIteration") = some false
structure Catch (K : PySem.W.Frag) (mg : Str → Option Value) (CS CB CT CM : Addr) : Prop where
  gS : mg "BadShape" = some (.ref CS)
  gB : mg "BadTable" = some (.ref CB)
  gT : mg "TooLarge" = some (.ref CT)
  gM : mg "MovesError" = some (.ref CM)
  gV : mg "ValueError" = none
  ss : PySem.W.exmOne K (.ref CS) (.ref CS) = some true
  bs : PySem.W.exmOne K (.ref CB) (.ref CS) = some false
  bb : PySem.W.exmOne K (.ref CB) (.ref CB) = some true
  ts : PySem.W.exmOne K (.ref CT) (.ref CS) = some false
  tb : PySem.W.exmOne K (.ref CT) (.ref CB) = some false
  tt : PySem.W.exmOne K (.ref CT) (.ref CT) = some true
  s : CatchC K CM CS
  b : CatchC K CM CB
  t : CatchC K CM CT
section
variable {X : Cx} {e : Expr} {es : List Expr} {ρ : List Sl} {ds : List D} {x : Str} {p p2 p3 pos : Pos} {E : Cfg} {Z H : Hp} {σ : L2.St}
/-- a call that raises, at these slots -/
theorem ws_callF {k : Nat} {R : List D → Res → Prop} {C0 : Addr} {En : Ends} {pos2 : Pos} (F : DefOk X.prog X.w X.K X.mg X.base x k R) (hr : Room k X.A) (ha : DA X (e :: es) ρ ds) (hR : R ds (.err C0)) (S : St1 X.K E Z H σ ρ) (W : GL.XWf X E (fun C => C = C0) σ) (hg : Gl X x := by rfl) (hdb : (x == ("__debug__" : Str)) = false := by decide)
    (he : starEach (e :: es) X.env = (false, eval e X.env) :: starEach es X.env := by rfl) (hpl : (backTo pos (starEach es X.env)).any (·.1) = false := by rfl) (hs : swapsWith (.Call (.Name x p) (e :: es) [] pos) none pos2.line X.env = pure false := by rfl) : WS X (.Expr (.Call (.Name x p) (e :: es) [] pos) pos2) En σ H := by
  obtain ⟨W, tk, w⟩ := W
  obtain ⟨f, fd, ps, F, hm, hk, hb⟩ := F
  refine ws_ps (ps_expr (pe_callS (E := L2.WE W) F hr hg hm hk hb (fun σ => passAt tk σ) pa_wa hdb he hpl) hs) (ha E Z H σ S _ fun vs Z1 H1 g1 r1 => ?_)
  refine ⟨Z1, ds, .err C0, hR, g1.zh, g1.nz S.s.nz, g1.tb, r1, (fun d' e' => nomatch e'), fun C z H' h1 h2 => ?_⟩
  cases z
  exact w C0 H' rfl (((S.grow g1).s.b0).trans h1) (((S.grow g1).s.bh).trans h1) h2
/-- isinstance(n, T), n the error in hand -/
theorem de_isE {a C : Addr} {eo : Obj} {pn : List (Addr × Obj)} {n tn : Str} {cv : V} {cu : Value} (i : Nat) (ec : ExcC X.K C) (hz : Zc (.ref C) none eo) (hf : ∃ vs, eo.data = .fields vs) (hk : PySem.W.kitOne X.K (.ref C) cu = some true) (hc : PE (X.suite a ((a, eo) :: pn)) (.Name tn p3) (tC cv)) (hcv : ∀ u, RelV cv u → u = cu) (hm : X.mg "isinstance" = none) (hi : ρ[i]? = some (.raw (.ref a))) (hN : X.N[i]? = some n) (hv : Vis X.env.scope n)
    (hd : (n == ("__debug__" : Str)) = false := by decide) (hcd : (n == ("__classdict__" : Str)) = false := by decide) (hg : Gl X "isinstance" := by rfl)
    (he : starEach [.Name n p2, .Name tn p3] X.env = (false, eval (.Name n p2) X.env) :: starEach [.Name tn p3] X.env := by rfl) (he2 : starEach [.Name tn p3] X.env = (false, eval (.Name tn p3) X.env) :: starEach [] X.env := by rfl) (hpl : (backTo pos (starEach [.Name tn p3] X.env)).any (·.1) = false := by rfl) :
    DE (X.suite a ((a, eo) :: pn)) (.Call (.Name "isinstance" p) [.Name n p2, .Name tn p3] [] pos) ρ (.bl true) := fun E Z H σ S Q q => by
  have hs : σ[i]? = some (some (.ref a)) := S.s.at_ i _ hi
  exact we_pe (X := X.suite a ((a, eo) :: pn)) (pe_callB (call_isE ec hz hf) hg hm (by decide +kernel) (pa_cons (pe_var (i := i) hN hv hd hcd) (pa_cons hc pa_nil he2) he) (by decide) (by decide) he hpl) ⟨_, hs, cv, cu, true, rfl, hcv, hk, q _ Z H S.same .bl⟩
end
/-! the try of _law_raises -/
section
variable {X : Cx} {n : Str} {body : List Stmt} {ρ : List Sl} {pos np1 np2 np3 hp1 hp2 hp3 : Pos} {x1 x2 x3 : Str} {u1 u2 u3 : Stmt} {r1 r2 r3 : List Stmt} {C0 C1 C2 C3 : Addr} {P : Po}
theorem ds_try3 (i : Nat) {b1 b2 : Bool} (hst : X.stack = X.env :: X.outer) (hfr : X.env.frame = some X.env.locals) (hN : X.N.Nodup) (hi : X.N[i]? = some n) (hln : X.env.kindOf n = some .local) (hxb : GL.XeB X)
    (c1 : Names X x1 (.ref C1)) (c2 : Names X x2 (.ref C2)) (c3 : Names X x3 (.ref C3)) (e1 : PySem.W.exmOne X.K (.ref C0) (.ref C1) = some b1) (e2 : b1 = false → PySem.W.exmOne X.K (.ref C0) (.ref C2) = some b2) (e3 : b1 = false → b2 = false → PySem.W.exmOne X.K (.ref C0) (.ref C3) = some true)
    (hval : ∀ (j : Nat) (s : Sl), ρ[j]? = some s → s = Sl.no ∨ ∃ d, s = Sl.val d)
    (hbody : ∀ (pn : List (Addr × Obj)) (xe : Value → Shared → Prop), PassesOwn (model X.prog X.w) X.A X.env xe → GL.XeB (X.tr pn xe) → ∀ E Z H σ (En : Ends), St1 X.K E Z H σ ρ → GL.XWf (X.tr pn xe) E (fun C => C = C0) σ → WSs (X.tr pn xe) body En σ H)
    (s1 : b1 = true → ∀ a eo pn, Zc (.ref C0) none eo → (∃ vs, eo.data = .fields vs) → DSs (X.suite a ((a, eo) :: pn)) (u1 :: r1) (ρ.set i (.raw (.ref a))) { nx := fun _ => False, rt := fun d => d = .bl true })
    (s2 : b1 = false → b2 = true → ∀ a eo pn, Zc (.ref C0) none eo → (∃ vs, eo.data = .fields vs) → DSs (X.suite a ((a, eo) :: pn)) (u2 :: r2) (ρ.set i (.raw (.ref a))) { nx := fun _ => False, rt := fun d => d = .bl true })
    (s3 : b1 = false → b2 = false → ∀ a eo pn, Zc (.ref C0) none eo → (∃ vs, eo.data = .fields vs) → DSs (X.suite a ((a, eo) :: pn)) (u3 :: r3) (ρ.set i (.raw (.ref a))) { nx := fun _ => False, rt := fun d => d = .bl true })
    (hP : P.rt (.bl true)) : DS X (.Try body [.ExceptHandler (some (.Name x1 np1)) (some n) (u1 :: r1) hp1, .ExceptHandler (some (.Name x2 np2)) (some n) (u2 :: r2) hp2, .ExceptHandler (some (.Name x3 np3)) (some n) (u3 :: r3) hp3] [] [] pos) ρ P := fun E Z H σ S W => by
  let ts : List Stmt → Addr → Value → Option Addr → TS := fun su a cl dx => fun En σ H => ∀ (eo : Obj) (pn : List (Addr × Obj)), Zc cl dx eo → (∃ vs, eo.data = .fields vs) → WSs (X.suite a ((a, eo) :: pn)) su En σ H
  have pts : ∀ (su : List Stmt) (a : Addr) (eo : Obj) (cl : Value) (dx : Option Addr) (pn : List (Addr × Obj)), Zc cl dx eo → (∃ vs, eo.data = .fields vs) → PSs (X.suite a ((a, eo) :: pn)) su (ts su a cl dx) := fun su a eo cl dx pn hz hf => ⟨fun pins s σ H En I h => h eo pn hz hf pins s I⟩
  let tb : WX → TS := fun W => fun En σ H => ∀ (pn : List (Addr × Obj)) (xe : Value → Shared → Prop), Takes (X.tr pn xe) W → PassesOwn (model X.prog X.w) X.A X.env xe → GL.XeB (X.tr pn xe) → WSs (X.tr pn xe) body En σ H
  refine ws_ps (ps_try_named (i := i) (tb := tb) (Wo := fun _ _ _ _ => False) (l := [(.ref C1, ts (u1 :: r1)), (.ref C2, ts (u2 :: r2)), (.ref C3, ts (u3 :: r3))]) hst hfr hN hi hln takes_none5 hxb (fun W pn xe tk hp hx => ⟨fun pins s σ H En I h => h pn xe tk hp hx pins s I⟩) (.cons c1 (fun a eo cl dx pn hz hf => pts _ a eo cl dx pn hz hf) (.cons c2 (fun a eo cl dx pn hz hf => pts _ a eo cl dx pn hz hf) (.cons c3 (fun a eo cl dx pn hz hf => pts _ a eo cl dx pn hz hf) .nil)))) ?_
  intro pn xe tk hp hx
  have hsl : ∀ (B Z' H' : Hp), Ex Z Z' → Ex Z' H' → ∀ j s, ρ[j]? = some s → SlOk X.K ⟨tabs X.K, Z', B, B⟩ Z' H' σ[j]? s := fun B Z' H' ez eh j s h => by
    have w := S.s.at_ j s h
    rcases hval j s h with q | ⟨d, q⟩
    · subst q; trivial
    · subst q
      obtain ⟨v, e, r⟩ := w
      exact ⟨v, e, r.mono ez⟩
  have noOwn : ∀ (j : Nat) (ds : List D), ρ[j]? ≠ some (.own ds) := fun j ds h => by
    rcases hval j _ h with q | ⟨d, q⟩ <;> cases q
  have tbH : LamX.Tabs (tabs X.K) H := by have := S.s.tb; rw [S.t] at this; exact this
  have S1 : St1 X.K ⟨tabs X.K, Z, H, H⟩ Z H σ ρ := ⟨⟨S.s.zh, LamX.ExtN.refl _, LamX.ExtN.refl _, tbH, fun a h => .inl h, Ex.refl _, S.s.nz, S.s.len, hsl H Z H (Ex.refl _) S.s.zh, fun j k ds es l _ h => absurd h (noOwn j ds)⟩, rfl⟩
  refine hbody pn xe hp hx ⟨tabs X.K, Z, H, H⟩ Z H σ _ S1 ⟨_, tk, fun C H1 hC hb0 hb htb => ?_⟩
  rw [show C = C0 from hC]
  have zh1 : Ex Z H1 := fun b u eb => hb b u (S.s.zh b u eb) fun ps z => S.s.nz b ps (z ▸ eb)
  have goS : ∀ (su : List Stmt) (a : Addr), H1 a = none → (∀ eo pn, Zc (.ref C0) none eo → (∃ vs, eo.data = .fields vs) → DSs (X.suite a ((a, eo) :: pn)) su (ρ.set i (.raw (.ref a))) { nx := fun _ => False, rt := fun d => d = .bl true }) → ts su a (.ref C0) none (emptied (ndsOf X.K E P) i) (σ.set i (some (.ref a))) H1 := fun su a _ hds eo pn2 hz hf => by
    have S2 : SS X.K ⟨tabs X.K, Z, H1, H1⟩ Z H1 σ ρ := ⟨zh1, LamX.ExtN.refl _, LamX.ExtN.refl _, htb, fun a h => .inl h, Ex.refl _, S.s.nz, S.s.len, hsl H1 Z H1 (Ex.refl _) zh1, fun j k ds es l _ h => absurd h (noOwn j ds)⟩
    refine wss_mono (hds eo pn2 hz hf ⟨tabs X.K, Z, H1, H1⟩ Z H1 _ ⟨S2.putR i, rfl⟩ GL.xw_never) (fun σ' H' ⟨_, _, _, z⟩ => z.elim) (fun v H' ⟨Z', d, R, hd⟩ => ?_) (fun _ _ ⟨_, _, _, z⟩ => z.elim) (fun _ _ ⟨_, _, _, z⟩ => z.elim)
    subst hd
    have r0 := R.r
    cases r0
    exact ⟨Z, .bl true, ⟨.bl, R.z0.trans R.zh, S.s.z0, (S.s.b0.trans hb).trans R.bh, (S.s.bh.trans hb).trans R.bh, R.tb, S.s.fr, S.s.nz⟩, hP⟩
  refine ⟨b1, e1, fun h => fun a ha => goS _ a ha (s1 h a), fun h => ⟨b2, e2 h, fun h2 a ha => goS _ a ha (s2 h h2 a), fun h2 => ⟨true, e3 h h2, fun _ a ha => goS _ a ha (s3 h h2 a), fun z => nomatch z⟩⟩⟩
end
end DL
set_option maxHeartbeats 4000000
namespace DL
open PySem PySem.Spec PyProof.Rows L2
theorem wss_ifF {X : Cx} {c : Expr} {body orelse : List Stmt} {pos : Pos} {ρ : List Sl} {E : Cfg} {Z H : Hp} {σ : L2.St} {En : Ends} {k : Bool} (hc : DT X c ρ k) (S : St1 X.K E Z H σ ρ) (h1 : k = true → ∀ Z' H', G X.K Z H Z' H' → WSs X body En σ H') (h2 : k = false → ∀ Z' H', G X.K Z H Z' H' → WSs X orelse En σ H') : WSs X [.If c body orelse pos] En σ H :=
  wss_pss (pss_one ps_ws) (ws_ps (ps_if pt_wt pss_wss pss_wss) (hc E Z H σ S _ fun Z1 H1 g1 => by
    cases k with
    | true => exact iteT (h1 rfl Z1 H1 g1)
    | false => exact iteF (h2 rfl Z1 H1 g1)))
theorem wss_oneF {X : Cx} {st : Stmt} {σ : L2.St} {H : Hp} {En : Ends} (h : WS X st En σ H) : WSs X [st] En σ H := wss_pss (pss_one ps_ws) h
section
variable {P : Program} {w : World} {K : PySem.W.Frag} {mg : Str → Option Value} {base : Heap} {f CG CC CS CB CT CM C : Addr} {fd : FuncData} {k kg : Nat}
def R_lraises (CC CG CS CB CT : Addr) (ds : List D) (r : Res) : Prop := ∃ (door : Nat) (wd : Str) (n : Nat) (m : Nat → Nat → Nat) (sh : List Nat) (c : Nat) (tb : List Int) (C0 : Addr), ds = [nI door, .str wd, gD CG n m, tN sh, tI tb] ∧ DecOk n m sh c tb ∧
  ((C0 = CS ∧ wd = "shape") ∨ (C0 = CB ∧ wd = "table") ∨ (C0 = CT ∧ wd = "large")) ∧ (door = 0 → decR CC CG CS CB CT n m sh c tb = .err C0) ∧ (door ≠ 0 → decE CS CB CT n m sh c tb = some C0) ∧ r = .ok (.bl true)
abbrev s_lraises : Stmt := top 85
abbrev N_lraises : List Str := ["_law_door", "_law_word", "_law_group_here", "_law_shape", "_law_labels_here", "_law_chart", "e"]
theorem sc_lraises : FnScope N_lraises ["_law_door", "_law_word", "_law_group_here", "_law_shape", "_law_labels_here"] (defScope s_lraises) := ⟨rfl, rfl, rfl, by decide +kernel, rfl, by decide +kernel, by decide +kernel⟩
theorem ok_lraises (T : Txt K mg) (Ct : Catch K mg CS CB CT CM) (O : DefOk P w K mg base "deciding_chart" k (R_deciding_chart CC CG CS CB CT)) (G : GL.GenOk P w K mg base "deciding_charts" kg (R_deciding_charts CC CG CS CB CT)) (hkg : kg + 2 ≤ k) (F : FnP K "_law_raises" s_lraises f fd) (hm : mg "_law_raises" = some (.ref f)) : DefOk P w K mg base "_law_raises" (k + 1) (R_lraises CC CG CS CB CT) := by
  refine def_ok F hm sc_lraises (fun ds r ⟨_, _, _, _, _, _, _, _, e, _⟩ => by rw [e]; rfl) (fun _ _ _ _ _ _ us hl => match us, hl with | [_, _, _, _, _], _ => rfl) fun cdv A outer s H E hr ds r hR => ?_
  obtain ⟨door, wd, n, m, sh, c, tb, C0, rfl, q, hC0, hd0, hd1, rfl⟩ := hR
  have nd := sc_lraises.nd
  have hns : PySem.W.subIn K (.ref C0) (.type "StopIteration") = some false := by
    rcases hC0 with ⟨h, _⟩ | ⟨h, _⟩ | ⟨h, _⟩ <;> rw [h]
    · exact Ct.s.ns
    · exact Ct.b.ns
    · exact Ct.t.ns
  refine dss_cons (ds_try3 (C0 := C0) (b1 := decide (C0 = CS)) (b2 := decide (C0 = CB)) (C1 := CS) (C2 := CB) (C3 := CT) 6 rfl rfl nd rfl rfl GL.xeb_cx ⟨rfl, by decide, .inl Ct.gS⟩ ⟨rfl, by decide, .inl Ct.gB⟩ ⟨rfl, by decide, .inl Ct.gT⟩ ?_ ?_ ?_ ?_ ?_ ?_ ?_ ?_ rfl)
  · show PySem.W.exmOne K (.ref C0) (.ref CS) = _
    by_cases h : C0 = CS
    · rw [h, Ct.ss, decide_eq_true rfl]
    · rw [decide_eq_false h]
      rcases hC0 with ⟨h1, _⟩ | ⟨h1, _⟩ | ⟨h1, _⟩
      · exact absurd h1 h
      · rw [h1]; exact Ct.bs
      · rw [h1]; exact Ct.ts
  · intro hb1
    have h1 := of_decide_eq_false hb1
    show PySem.W.exmOne K (.ref C0) (.ref CB) = _
    by_cases h : C0 = CB
    · rw [h, Ct.bb, decide_eq_true rfl]
    · rw [decide_eq_false h]
      rcases hC0 with ⟨h2, _⟩ | ⟨h2, _⟩ | ⟨h2, _⟩
      · exact absurd h2 h1
      · exact absurd h2 h
      · rw [h2]; exact Ct.tb
  · intro hb1 hb2
    have h1 := of_decide_eq_false hb1
    have h2 := of_decide_eq_false hb2
    show PySem.W.exmOne K (.ref C0) (.ref CT) = _
    rcases hC0 with ⟨h, _⟩ | ⟨h, _⟩ | ⟨h, _⟩
    · exact absurd h h1
    · exact absurd h h2
    · rw [h]; exact Ct.tt
  · intro j s h
    have : s ∈ [Sl.val (nI door), .val (.str wd), .val (gD CG n m), .val (tN sh), .val (tI tb), .no, .no] := List.mem_of_getElem? h
    simp only [List.mem_cons, List.not_mem_nil, or_false] at this
    rcases this with e | e | e | e | e | e | e
    · exact .inr ⟨_, e⟩
    · exact .inr ⟨_, e⟩
    · exact .inr ⟨_, e⟩
    · exact .inr ⟨_, e⟩
    · exact .inr ⟨_, e⟩
    · exact .inl e
    · exact .inl e
  · intro pn xe hp hx E2 Z2 H2 σ2 En S2 W2
    by_cases h0 : door = 0
    · have hd := hd0 h0
      refine wss_ifF (k := true) (DT.is (dt_cmp op_eq rd_eqI (de_var (d := nI door) 0) de_int (nomark _)) (by rw [h0]; rfl)) S2 (fun _ Z3 H3 g3 => ?_) fun z => nomatch z
      exact wss_oneF (ws_callF O hr (da_cons (de_var 2) (da_cons (de_var 3) (da_cons (de_var 4) da_nil))) ⟨n, m, sh, c, tb, rfl, q, hd.symm⟩ (S2.grow g3) W2)
    · have hd := hd1 h0
      refine wss_ifF (k := false) (DT.is (dt_cmp op_eq rd_eqI (de_var (d := nI door) 0) de_int (nomark _)) (by rw [show (0 : Int) = ((0 : Nat) : Int) from rfl, dec_eq, decide_eq_false h0])) S2 (fun z => nomatch z) fun _ Z3 H3 g3 => ?_
      exact wss_oneF (GL.ws_forGf G (hr.mono hkg) hp (da_cons (de_var 2) (da_cons (de_var 3) (da_cons (de_var 4) da_nil))) ⟨n, m, sh, c, tb, rfl, q, hd.symm, rfl⟩ hns (S2.grow g3) W2)
  · intro hb1 a eo pn hz hf
    have h1 := of_decide_eq_true hb1
    have hwd : wd = "shape" := by
      rcases hC0 with ⟨_, h⟩ | ⟨h, _⟩ | ⟨h, _⟩
      · exact h
      · have e1 := Ct.bs
        rw [← h, h1, Ct.ss] at e1
        cases e1
      · have e1 := Ct.ts
        rw [← h, h1, Ct.ss] at e1
        cases e1
    rw [h1] at hz
    refine dss_one (ds_ret (DE.is (de_and (k := true) (DE.is (de_cmp op_eq rd_eqS (de_var 1) de_str (nomark _)) (by rw [hwd]; rfl)) fun _ => de_and (k := true) (de_isE 6 Ct.s.ec hz hf Ct.s.km (pe_glob (v := .ref CM) rfl Ct.gM rfl) (fun u h => h) T.nIsi rfl rfl (.inl rfl)) fun _ => de_one (de_isE 6 Ct.s.ec hz hf Ct.s.kv (pe_bltn (v := .ty "ValueError") rfl Ct.gV (by decide +kernel) rfl) (fun u h => h) T.nIsi rfl rfl (.inl rfl))) rfl) rfl)
  · intro hb1 hb2 a eo pn hz hf
    have h1 := of_decide_eq_false hb1
    have h2 := of_decide_eq_true hb2
    have hwd : wd = "table" := by
      rcases hC0 with ⟨h, _⟩ | ⟨_, h⟩ | ⟨h, _⟩
      · exact absurd h h1
      · exact h
      · have e1 := Ct.tb
        rw [← h, h2, Ct.bb] at e1
        cases e1
    rw [h2] at hz
    refine dss_one (ds_ret (DE.is (de_and (k := true) (DE.is (de_cmp op_eq rd_eqS (de_var 1) de_str (nomark _)) (by rw [hwd]; rfl)) fun _ => de_and (k := true) (de_isE 6 Ct.b.ec hz hf Ct.b.km (pe_glob (v := .ref CM) rfl Ct.gM rfl) (fun u h => h) T.nIsi rfl rfl (.inl rfl)) fun _ => de_one (de_isE 6 Ct.b.ec hz hf Ct.b.kv (pe_bltn (v := .ty "ValueError") rfl Ct.gV (by decide +kernel) rfl) (fun u h => h) T.nIsi rfl rfl (.inl rfl))) rfl) rfl)
  · intro hb1 hb2 a eo pn hz hf
    have h1 := of_decide_eq_false hb1
    have h2 := of_decide_eq_false hb2
    obtain ⟨h3, hwd⟩ : C0 = CT ∧ wd = "large" := by
      rcases hC0 with ⟨h, _⟩ | ⟨h, _⟩ | h
      · exact absurd h h1
      · exact absurd h h2
      · exact h
    rw [h3] at hz
    refine dss_one (ds_ret (DE.is (de_and (k := true) (DE.is (de_cmp op_eq rd_eqS (de_var 1) de_str (nomark _)) (by rw [hwd]; rfl)) fun _ => de_and (k := true) (de_isE 6 Ct.t.ec hz hf Ct.t.km (pe_glob (v := .ref CM) rfl Ct.gM rfl) (fun u h => h) T.nIsi rfl rfl (.inl rfl)) fun _ => de_one (de_isE 6 Ct.t.ec hz hf Ct.t.kv (pe_bltn (v := .ty "ValueError") rfl Ct.gV (by decide +kernel) rfl) (fun u h => h) T.nIsi rfl rfl (.inl rfl))) rfl) rfl)
end
end DL
set_option maxHeartbeats 4000000
namespace DL
open PySem PySem.Spec PyProof.Rows L2
/-! ### refusals -/
section
variable {X : Cx} {a b : Expr} {ρ : List Sl} {d : D} {ds : List D} {pos : Pos}
theorem rd_repT1 {K : PySem.W.Frag} {k : Nat} (h1 : 2 ≤ k) (h2 : k ≤ 1000) : RD K (rRepT K) (.tup [d]) (.int (k : Nat)) (.tup (List.replicate k d)) := fun x y Z H zh tb rx ry Q q => by
  cases ry
  cases rx with
  | tup hz rl =>
    rename_i aa xs
    obtain ⟨v, rfl, r1⟩ := rc_one rl
    refine ⟨aa, (k : Nat), [v], rfl, rfl, sq_t zh hz, by simp, by omega, by omega, by simp, fun p hp => ?_⟩
    have e : (List.replicate ((k : Nat) : Int).toNat [v]).flatten = List.replicate k v := by
      rw [Int.toNat_natCast]
      simp
    rw [e]
    exact q _ _ _ ((Gr.refl zh tb).new hp) (.tup (.inl upd_same) (RepL.rep (r1.mono (Ex.new (zh.free hp))) k))
theorem de_repT1 {k : Nat} (ha : DE X a ρ (.tup [d])) (hb : DE X b ρ (.int (k : Nat))) (h1 : 2 ≤ k) (h2 : k ≤ 1000) : DE X (.BinOp a .Mult b pos) ρ (.tup (List.replicate k d)) := de_op op_repT (rd_repT1 h1 h2) ha hb
end
def badT (tb : List Int) (a : Nat) : List (List Int) := [tb ++ [0], tb.dropLast, tb.take a ++ [2] ++ tb.drop (a + 1), tb.take a ++ [-1] ++ tb.drop (a + 1)]
def badS (sh : List Nat) : List (List Nat) := [sh ++ [5], [1] ++ sh, sh ++ List.replicate (13 - sh.length) 2]
theorem badT_ok {sh : List Nat} {tb : List Int} (t : TbOk sh tb) {a : Nat} (ha : a < tb.length) : ∀ b ∈ badT tb a, tbOk sh b = false ∧ b.length ≤ tb.length + 1 := fun b hb => by
  have key : ∀ b : List Int, (b.length ≠ prodN sh ∨ ∃ l ∈ b, l ≠ 0 ∧ l ≠ 1) → tbOk sh b = false := fun b h => by
    unfold tbOk
    rcases h with h | ⟨l, hl, h1, h2⟩
    · rw [decide_eq_false h]; rfl
    · have : (b.all fun l => decide (l ∈ ([0, 1] : List Int))) = false := by
        rw [List.all_eq_false]
        exact ⟨l, hl, by simp [h1, h2]⟩
      rw [this, Bool.and_false]
  have hl := t.len
  unfold badT at hb
  simp only [List.mem_cons, List.not_mem_nil, or_false] at hb
  rcases hb with e | e | e | e <;> subst e
  · exact ⟨key _ (.inl (by rw [List.length_append, List.length_singleton]; omega)), by simp⟩
  · exact ⟨key _ (.inl (by rw [List.length_dropLast]; omega)), by rw [List.length_dropLast]; omega⟩
  · exact ⟨key _ (.inr ⟨2, by simp, by decide, by decide⟩), by simp; omega⟩
  · exact ⟨key _ (.inr ⟨-1, by simp, by decide, by decide⟩), by simp; omega⟩
theorem badS_ok {sh : List Nat} (h : sh.length ≤ 4) : ∀ s ∈ badS sh, shOk s = false ∧ s.length ≤ 13 := fun s hs => by
  have key : ∀ s : List Nat, (12 < s.length ∨ ∃ k ∈ s, k < 2 ∨ 4 < k) → shOk s = false := fun s h => by
    unfold shOk
    rcases h with h | ⟨k, hk, h1⟩
    · rw [decide_eq_false (by omega)]; rfl
    · have : (s.all fun k => decide (2 ≤ k) && decide (k ≤ 4)) = false := by
        rw [List.all_eq_false]
        refine ⟨k, hk, ?_⟩
        simp
        omega
      rw [this, Bool.and_false]
  unfold badS at hs
  simp only [List.mem_cons, List.not_mem_nil, or_false] at hs
  rcases hs with e | e | e <;> subst e
  · exact ⟨key _ (.inr ⟨5, by simp, by omega⟩), by simp; omega⟩
  · exact ⟨key _ (.inr ⟨1, by simp, by omega⟩), by simp; omega⟩
  · exact ⟨key _ (.inl (by simp; omega)), by simp; omega⟩
section
variable {P : Program} {w : World} {K : PySem.W.Frag} {mg : Str → Option Value} {base : Heap} {f CG CC CS CB CT CM C : Addr} {fd : FuncData} {k kg : Nat}
def R_lrefuse (CG : Addr) (ds : List D) (r : Res) : Prop := ∃ (n : Nat) (m : Nat → Nat → Nat) (sh : List Nat) (c : Nat) (tb : List Int) (num : Nat), ds = [gD CG n m, tN sh, tI tb, nI num] ∧ Grp n m ∧ n ≤ 60 ∧ Still n m c ∧ sh ∈ shL ∧ TbOk sh tb ∧ r = .ok (.bl true)
abbrev s_lrefuse : Stmt := top 86
abbrev N_lrefuse : List Str := ["_law_group_here", "_law_shape", "_law_labels_here", "_law_number", "_law_at", "_law_tables", "_law_shapes", "_law_door", "_law_bad"]
theorem sc_lrefuse : FnScope N_lrefuse ["_law_group_here", "_law_shape", "_law_labels_here", "_law_number"] (defScope s_lrefuse) := ⟨rfl, rfl, rfl, by decide +kernel, rfl, by decide +kernel, by decide +kernel⟩
theorem ok_lrefuse (T : Txt K mg) (O : DefOk P w K mg base "_law_raises" k (R_lraises CC CG CS CB CT)) (F : FnP K "_law_refusals_are" s_lrefuse f fd) (hm : mg "_law_refusals_are" = some (.ref f)) : DefOk P w K mg base "_law_refusals_are" (k + 1) (R_lrefuse CG) := by
  refine def_ok F hm sc_lrefuse (fun ds r ⟨_, _, _, _, _, _, e, _⟩ => by rw [e]; rfl) (fun _ _ _ _ _ _ us hl => match us, hl with | [_, _, _, _], _ => rfl) fun cdv A outer s H E hr ds r hR => ?_
  obtain ⟨n, m, sh, c, tb, num, rfl, g, hn, st, hsh, t, rfl⟩ := hR
  have nd := sc_lrefuse.nd
  have zl := sizeLine_eq
  have S := shp_of hsh
  have l4 := S.l4
  have few := S.few
  have hpos := S.pos
  have hl := t.len
  have htp : 0 < tb.length := by omega
  have ha := Nat.mod_lt num htp
  have h4 := Nat.mod_lt num (show 0 < 4 by omega)
  have hdT : ∀ b ∈ badT tb (num % tb.length), DecOk n m sh c b ∧ decR CC CG CS CB CT n m sh c b = .err CB ∧ decE CS CB CT n m sh c b = some CB := fun b hb => by
    obtain ⟨h1, h2⟩ := badT_ok t ha b hb
    refine ⟨dec_of g hn st (fun _ => hsh) (by omega) (by omega), ?_, ?_⟩
    · unfold decR; rw [if_pos S.ok, if_neg (by rw [h1]; exact Bool.false_ne_true)]
    · unfold decE; rw [if_pos S.ok, if_neg (by rw [h1]; exact Bool.false_ne_true)]
  have hdS : ∀ s ∈ badS sh, ∀ b : List Int, b.length < 10000 → DecOk n m s c b ∧ decR CC CG CS CB CT n m s c b = .err CS ∧ decE CS CB CT n m s c b = some CS := fun s hs b hb => by
    obtain ⟨h1, h2⟩ := badS_ok l4 s hs
    refine ⟨dec_of g hn st (fun q => by rw [h1] at q; cases q) (by omega) hb, ?_, ?_⟩
    · unfold decR; rw [if_neg (by rw [h1]; exact Bool.false_ne_true)]
    · unfold decE; rw [if_neg (by rw [h1]; exact Bool.false_ne_true)]
  refine dss_cons (ds_set 4 nd (d := nI (num % tb.length)) (DE.is (de_mod (de_intc (da_cons (de_var 3) da_nil) T.nInt) (de_lenT (ds := tb.map .int) (de_var 2) T.nLen) (by rw [List.length_map]; omega)) (by rw [List.length_map]; rfl)) ?_)
  have mid : ∀ (X : Cx) (a e1 e2 : Expr) (v : Int) (ρ : List Sl) (p1 p2 p3 p4 p5 p6 : Pos), True := fun _ _ _ _ _ _ _ _ _ _ _ _ => trivial
  refine dss_cons (ds_set 5 nd (d := lF tI (badT tb (num % tb.length))) (DE.is (de_of_do (do_lstl (da_cons (de_catT (ds := tb.map .int) (de_var 2) (de_tupl (da_cons de_int da_nil)) ?_) (da_cons (de_slTTo (ds := tb.map .int) (de_var 2) (de_neg de_int)) (da_cons (de_catT (de_catT (de_slTTo (ds := tb.map .int) (k := ((num % tb.length : Nat) : Int)) (de_var 2) (de_var 4)) (de_tupl (da_cons de_int da_nil)) ?_) (de_slTFrom (ds := tb.map .int) (k := ((num % tb.length + 1 : Nat) : Int)) (de_var 2) (DE.is (de_add (de_var 4) de_int) (by simp [nI]))) ?_) (da_cons (de_catT (de_catT (de_slTTo (ds := tb.map .int) (k := ((num % tb.length : Nat) : Int)) (de_var 2) (de_var 4)) (de_tupl (da_cons (de_neg de_int) da_nil)) ?_) (de_slTFrom (ds := tb.map .int) (k := ((num % tb.length + 1 : Nat) : Int)) (de_var 2) (DE.is (de_add (de_var 4) de_int) (by simp [nI]))) ?_) da_nil)))))) ?_) ?_)
  · rw [List.length_map]; simp; omega
  · rw [cut_to, List.length_take, List.length_map]; simp; omega
  · rw [cut_to, cut_from, List.length_append, List.length_take, List.length_drop, List.length_map]; simp; omega
  · rw [cut_to, List.length_take, List.length_map]; simp; omega
  · rw [cut_to, cut_from, List.length_append, List.length_take, List.length_drop, List.length_map]; simp; omega
  · rw [cut_to, cut_from, cut_last]
    unfold badT tI
    simp [List.map_take, List.map_drop, List.map_dropLast]
  refine dss_cons (ds_set 6 nd (d := lF tN (badS sh)) (DE.is (de_of_do (do_lstl (da_cons (de_catT (ds := sh.map nI) (de_var 1) (de_tupl (da_cons de_int da_nil)) ?_) (da_cons (de_catT (es := sh.map nI) (de_tupl (da_cons de_int da_nil)) (de_var 1) ?_) (da_cons (de_catT (ds := sh.map nI) (de_var 1) (de_repT1 (k := 13 - sh.length) (de_tupl (da_cons de_int da_nil)) (DE.is (de_sub de_int (de_lenT (ds := sh.map nI) (de_var 1) T.nLen)) ?_) (by omega) (by omega)) ?_) da_nil))))) ?_) ?_)
  · rw [List.length_map]; simp; omega
  · rw [List.length_map]; simp; omega
  · rw [List.length_map]
    show D.int _ = D.int _
    refine congrArg D.int ?_
    omega
  · rw [List.length_map, List.length_replicate]; omega
  · unfold badS
    simp [nI]
  refine dss_cons (ds_for (List.range 2) nI [7] (fun k => [nI k]) (passes_of rfl) (di_rng (n := 2) de_int T.nRange (by omega)) (fun _ _ => dg_name 7 nd) (fun i ρ' => ∃ s1 s2, ρ' = [.val (gD CG n m), .val (tN sh), .val (tI tb), .val (nI num), .val (nI (num % tb.length)), .val (lF tI (badT tb (num % tb.length))), .val (lF tN (badS sh)), s1, s2]) ⟨_, _, rfl⟩ ?_ ?_)
  · rintro i door ρ' hdoor ⟨s1, s2, rfl⟩
    refine dss_cons (ds_for (badT tb (num % tb.length)) tI [8] (fun b => [tI b]) (passes_of rfl) (di_list (de_var 5)) (fun _ _ => dg_name 8 nd) (fun i ρ' => ∃ s2, ρ' = [.val (gD CG n m), .val (tN sh), .val (tI tb), .val (nI num), .val (nI (num % tb.length)), .val (lF tI (badT tb (num % tb.length))), .val (lF tN (badS sh)), .val (nI door), s2]) ⟨_, rfl⟩ ?_ ?_)
    · rintro i b ρ' hb ⟨s2, rfl⟩
      obtain ⟨d1, d2, d3⟩ := hdT b (List.mem_of_getElem? hb)
      exact dss_one (ds_if (k := false) (dt_not (dt_of (k := true) (de_call O hr (da_cons (de_var 7) (da_cons de_str (da_cons (de_var 0) (da_cons (de_var 1) (da_cons (de_var 8) da_nil))))) ⟨door, "table", n, m, sh, c, b, CB, rfl, d1, .inr (.inl ⟨rfl, rfl⟩), fun _ => d2, fun _ => d3, rfl⟩))) (fun z => nomatch z) fun _ => dss_nil ⟨_, rfl⟩)
    · rintro ρ' ⟨s2, rfl⟩
      refine dss_one (ds_for (badS sh) tN [8] (fun b => [tN b]) (passes_of rfl) (di_list (de_var 6)) (fun _ _ => dg_name 8 nd) (fun i ρ' => ∃ s2, ρ' = [.val (gD CG n m), .val (tN sh), .val (tI tb), .val (nI num), .val (nI (num % tb.length)), .val (lF tI (badT tb (num % tb.length))), .val (lF tN (badS sh)), .val (nI door), s2]) ⟨_, rfl⟩ ?_ ?_)
      · rintro i s ρ' hs ⟨s2, rfl⟩
        have hsm := List.mem_of_getElem? hs
        obtain ⟨bt, hbt⟩ : ∃ bt, (badT tb (num % tb.length))[num % 4]? = some bt := ⟨_, List.getElem?_eq_getElem (by unfold badT; exact h4)⟩
        obtain ⟨_, hbl⟩ := badT_ok t ha bt (List.mem_of_getElem? hbt)
        obtain ⟨d1, d2, d3⟩ := hdS s hsm bt (by omega)
        obtain ⟨d4, d5, d6⟩ := hdS s hsm tb (by omega)
        refine dss_cons (ds_if (k := false) (dt_not (dt_of (k := true) (de_call O hr (da_cons (de_var 7) (da_cons de_str (da_cons (de_var 0) (da_cons (de_var 8) (da_cons (de_ixLf (f := tI) (xs := badT tb (num % tb.length)) (i := num % 4) (de_var 5) (DE.is (de_mod (de_intc (da_cons (de_var 3) da_nil) T.nInt) de_int (by omega)) rfl) hbt) da_nil))))) ⟨door, "shape", n, m, s, c, bt, CS, rfl, d1, .inl ⟨rfl, rfl⟩, fun _ => d2, fun _ => d3, rfl⟩))) (fun z => nomatch z) fun _ => dss_nil ?_)
        exact dss_one (ds_if (k := false) (dt_not (dt_of (k := true) (de_call O hr (da_cons (de_var 7) (da_cons de_str (da_cons (de_var 0) (da_cons (de_var 8) (da_cons (de_var 2) da_nil))))) ⟨door, "shape", n, m, s, c, tb, CS, rfl, d4, .inl ⟨rfl, rfl⟩, fun _ => d5, fun _ => d6, rfl⟩))) (fun z => nomatch z) fun _ => dss_nil ⟨_, rfl⟩)
      · rintro ρ' ⟨s2, rfl⟩
        exact ⟨_, _, rfl⟩
  · rintro ρ' ⟨s1, s2, rfl⟩
    exact dss_one (ds_ret de_bl rfl)
end
end DL
set_option maxHeartbeats 4000000
namespace DL
open PySem PySem.Spec PyProof.Rows L2
/-! ### counts -/
theorem prod_le {α : Type} {f g : α → Nat} : ∀ {xs : List α} {a b : Nat}, a ≤ b → (∀ x ∈ xs, f x ≤ g x) → (xs.map f).foldl (· * ·) a ≤ (xs.map g).foldl (· * ·) b
  | [], a, b, h, _ => h
  | x :: xs, a, b, h, hx => by
    rw [List.map_cons, List.map_cons, List.foldl_cons, List.foldl_cons]
    exact prod_le (Nat.mul_le_mul h (hx x List.mem_cons_self)) fun y hy => hx y (List.mem_cons_of_mem _ hy)
noncomputable abbrev lenF (n : Nat) (m : Nat → Nat → Nat) (x : List Int) : Nat := (low n m (wtN x - 1)).length
theorem cs_cnt {n c : Nat} {m : Nat → Nat → Nat} (s : Still n m c) (sh : List Nat) : pN (csA n m c sh) = (((litI sh).drop 1).map (lenF n m)).foldl (· * ·) 1 := by
  unfold pN csA choN prodN
  rw [List.map_cons, List.foldl_cons, List.map_map]
  have : ((litI sh).drop 1).map (List.length ∘ fun s => subAt (rowL n m c) (wtN s)) = ((litI sh).drop 1).map (lenF n m) := List.map_congr_left fun x _ => by
    show (subAt (rowL n m c) (wtN x)).length = _
    rw [subAt_low s]
  rw [this]
  rfl
def lbF (a b w : Nat) : Nat := if w ≤ 1 then a else if w = 2 then b else 1
theorem big_of {n c : Nat} {m : Nat → Nat → Nat} (g : Grp n m) (s : Still n m c) (sh : List Nat) {a b : Nat} (ha : a ≤ n) (hb : b ≤ (low n m 1).length) : (((litI sh).drop 1).map fun x => lbF a b (wtN x)).foldl (· * ·) 1 ≤ pN (csA n m c sh) := by
  rw [cs_cnt s]
  refine prod_le (Nat.le_refl _) fun x _ => ?_
  unfold lbF lenF
  split
  · rw [show wtN x - 1 = 0 by omega]
    show a ≤ (List.range n).length
    rw [List.length_range]; exact ha
  · split
    · rename_i h; rw [h]; exact hb
    · exact low_pos g.pos _
theorem small_of {n c : Nat} {m : Nat → Nat → Nat} (s : Still n m c) (sh : List Nat) {a b : Nat} (hw : ∀ x ∈ (litI sh).drop 1, wtN x ≤ 2) (ha : n ≤ a) (hb : (low n m 1).length ≤ b) : pN (csA n m c sh) ≤ (((litI sh).drop 1).map fun x => lbF a b (wtN x)).foldl (· * ·) 1 := by
  rw [cs_cnt s]
  refine prod_le (Nat.le_refl _) fun x hx => ?_
  have := hw x hx
  unfold lbF lenF
  split
  · rw [show wtN x - 1 = 0 by omega]
    show (List.range n).length ≤ a
    rw [List.length_range]; exact ha
  · have e : wtN x = 2 := by omega
    rw [if_pos e, e]; exact hb
/-! the world's -/
theorem ch18_at (cell : Nat) : chOfN cell [18] = 18 := by
  have := (chOf_in (cell := cell) (ch := [18]) (by decide) ch18_in).2
  simpa using this
theorem w_cnt (cell other kind : Nat) {c : Nat} (s : Still (wN cell kind) (wM cell kind) c) : pN (csA (wN cell kind) (wM cell kind) c (wSh cell other kind)) ≤ 1024 := by
  by_cases k0 : kind = 0
  · subst k0
    have s' : Still 32 (cycM 32) c := s
    have h1 : (low 32 (cycM 32) 1).length ≤ 1 := Nat.le_of_eq (cyc_one (by omega) 0)
    show pN (csA 32 (cycM 32) c (wSh cell other 0)) ≤ 1024
    unfold wSh
    rw [if_pos rfl]
    split
    · exact Nat.le_trans (small_of s' [3] (by decide) (Nat.le_refl 32) h1) (by decide)
    · exact Nat.le_trans (small_of s' [2, 2] (by decide) (Nat.le_refl 32) h1) (by decide)
  · by_cases k1 : kind = 1
    · subst k1
      have e1 : wN cell 1 = gpN cell [18] := by unfold wN; rw [if_neg (by omega), if_pos rfl]
      have e2 : wM cell 1 = gpM cell [18] := by unfold wM; rw [if_neg (by omega), if_pos rfl]
      rw [e1, e2] at s ⊢
      have e3 : wSh cell other 1 = [2, 2] := by unfold wSh; rw [if_neg (by omega), if_pos rfl]
      rw [e3]
      have h1 : (low (gpN cell [18]) (gpM cell [18]) 1).length ≤ 4 := by
        rw [gp_low (by decide) ch18_in, ch18_at]
        exact le18
      have h2 : gpN cell [18] ≤ 16 := gp_few (by decide) ch18_in
      exact Nat.le_trans (small_of s [2, 2] (by decide) h2 h1) (by decide)
    · have e3 : wSh cell other kind = cutN (cntF (wN cell kind) (wM cell kind) 7) 7 (wideN (numsN other 9) 16) := by unfold wSh; rw [if_neg k0, if_neg k1]
      have hin := w_sh cell other kind
      have hc : cntF (wN cell kind) (wM cell kind) 7 (wSh cell other kind) ≤ 128 := by
        rw [e3]
        refine cut_few _ ?_ 7 _ ?_
        · show pN [[0]] ≤ 128
          decide
        · have := (shp_of (wide_in (numsN other 9))).l4
          omega
      have e4 : cntF (wN cell kind) (wM cell kind) 7 (wSh cell other kind) = pN (csA (wN cell kind) (wM cell kind) c (wSh cell other kind)) := by
        unfold cntF
        rw [lcho_eq s (lit_wt hin (by omega))]
      omega
/-- the cyclic group of the same size has no more -/
theorem cyc_cnt {n c d : Nat} {m : Nat → Nat → Nat} (g : Grp n m) (s : Still n m c) (s' : Still n (cycM n) d) (sh : List Nat) : pN (csA n (cycM n) d sh) ≤ pN (csA n m c sh) := by
  rw [cs_cnt s, cs_cnt s']
  refine prod_le (Nat.le_refl _) fun x _ => ?_
  unfold lenF
  cases h : wtN x - 1 with
  | zero => exact Nat.le_refl _
  | succ k =>
    rw [cyc_one g.pos k]
    exact low_pos g.pos _
/-! the large worlds -/
def mnL : List (List Nat × List Nat) := [([8, 9], [2, 3]), ([13], [2, 2, 2, 2]), ([3, 4], [4, 4]), ([10, 11, 12], [2, 2, 2, 2]), ([18], [3, 2]), ([6], [2, 2, 2]), ([6], [2, 3]), ([15], [4]), ([14], [2, 2, 2])]
def lgC (ch : Nat) : List Nat := (mnL.getD ch ([0], [])).1
def lgN (cell ch : Nat) : Nat := if 8 < ch then 33 else gpN cell (lgC ch)
def lgM (cell ch : Nat) : Nat → Nat → Nat := if 8 < ch then cycM 33 else gpM cell (lgC ch)
def lgS (ch : Nat) : List Nat := if 8 < ch then ([[3], [2, 2]] : List (List Nat)).getD (ch - 9) [] else (mnL.getD ch ([0], [])).2
theorem lgC_in (ch : Nat) : 0 < (lgC ch).length ∧ ∀ c ∈ lgC ch, c ∈ chL := by
  by_cases h : ch < 9
  · have : (List.range 9).all (fun ch => decide (0 < (lgC ch).length) && (lgC ch).all fun c => decide (c ∈ chL)) = true := by decide
    have := List.all_eq_true.mp this ch (List.mem_range.mpr h)
    simp only [Bool.and_eq_true, List.all_eq_true, decide_eq_true_eq] at this
    exact this
  · have : lgC ch = [0] := by
      unfold lgC
      rw [List.getD_eq_getElem?_getD, List.getElem?_eq_none (by show 9 ≤ ch; omega)]; rfl
    rw [this]
    exact ⟨by decide, by decide⟩
theorem lgS_in {ch : Nat} (h : ch < 11) : lgS ch ∈ shL := by
  have : (List.range 11).all (fun ch => decide (lgS ch ∈ shL)) = true := by decide
  exact of_decide_eq_true (List.all_eq_true.mp this ch (List.mem_range.mpr h))
theorem lg_grp (cell ch : Nat) : Grp (lgN cell ch) (lgM cell ch) ∧ lgN cell ch ≤ 33 := by
  unfold lgN lgM
  obtain ⟨h0, h1⟩ := lgC_in ch
  split
  · exact ⟨cyc_grp (by omega), by omega⟩
  · exact ⟨gp_grp h0 h1, by have := gp_few (cell := cell) h0 h1; omega⟩
/-- what the second subgroup of the series holds at least -/
def lb1 (c : Nat) : Nat := if c = 6 then 3 else if c = 8 ∨ c = 9 ∨ c = 14 then 2 else 1
theorem lb1_ok {c : Nat} (h : c ∈ chL) : lb1 c ≤ (low (grN c) (grM c) 1).length := by
  unfold lb1
  split
  · rename_i e; rw [e]; exact ge6
  · split
    · rename_i e
      rcases e with e | e | e
      · rw [e]; exact ge8
      · rw [e]; exact ge9
      · rw [e]; exact ge14
    · exact low_pos (gr_grp h).pos 1
theorem lg_num : (List.range 9).all (fun ch => (lgC ch).all fun c => decide (1024 < (((litI (lgS ch)).drop 1).map fun x => lbF (grN c) (lb1 c) (wtN x)).foldl (· * ·) 1)) = true := by decide +kernel
theorem lg_big (cell : Nat) {ch c : Nat} (hch : ch < 11) (s : Still (lgN cell ch) (lgM cell ch) c) : 1024 < pN (csA (lgN cell ch) (lgM cell ch) c (lgS ch)) := by
  by_cases h : 8 < ch
  · have e1 : lgN cell ch = 33 := by unfold lgN; rw [if_pos h]
    have e2 : lgM cell ch = cycM 33 := by unfold lgM; rw [if_pos h]
    rw [e1, e2] at s ⊢
    refine Nat.lt_of_lt_of_le ?_ (big_of (cyc_grp (by omega)) s (lgS ch) (Nat.le_refl 33) (Nat.le_of_eq (cyc_one (by omega) 0).symm))
    have : ch = 9 ∨ ch = 10 := by omega
    rcases this with e | e <;> subst e <;> decide
  · have e1 : lgN cell ch = gpN cell (lgC ch) := by unfold lgN; rw [if_neg h]
    have e2 : lgM cell ch = gpM cell (lgC ch) := by unfold lgM; rw [if_neg h]
    obtain ⟨h0, h1⟩ := lgC_in ch
    rw [e1, e2] at s ⊢
    obtain ⟨hc, hm⟩ := chOf_in (cell := cell) h0 h1
    refine Nat.lt_of_lt_of_le ?_ (big_of (gp_grp h0 h1) s (lgS ch) (a := grN (chOfN cell (lgC ch))) (b := lb1 (chOfN cell (lgC ch))) (Nat.le_refl _) (by rw [gp_low h0 h1]; exact lb1_ok hc))
    have := List.all_eq_true.mp lg_num ch (List.mem_range.mpr (by omega))
    exact of_decide_eq_true (List.all_eq_true.mp this _ hm)
end DL
set_option maxHeartbeats 4000000
namespace DL
open PySem PySem.Spec PyProof.Rows L2
/-! ### the large worlds asked -/
abbrev mnD (q : List Nat × List Nat) : D := .tup [lN q.1, tN q.2]
def mnL1 : List (List Nat × List Nat) := [([8, 9], [2, 3]), ([13], [2, 2, 2, 2]), ([3, 4], [4, 4]), ([10, 11, 12], [2, 2, 2, 2]), ([18], [3, 2])]
def mnL2 : List (List Nat × List Nat) := [([6], [2, 2, 2]), ([6], [2, 3]), ([15], [4]), ([14], [2, 2, 2])]
theorem tb_lab (sh : List Nat) (nums : List Nat) : TbOk sh ((labN nums (prodN sh)).map Int.ofNat) := by
  obtain ⟨h1, h2⟩ := lab_ok nums (prodN sh)
  refine ⟨by rw [List.length_map, h1], fun l hl => ?_⟩
  obtain ⟨x, hx, rfl⟩ := List.mem_map.mp hl
  have := h2 x hx
  have : x = 0 ∨ x = 1 := by omega
  rcases this with e | e <;> subst e
  · exact .inl rfl
  · exact .inr rfl
section
variable {P : Program} {w : World} {K : PySem.W.Frag} {mg : Str → Option Value} {base : Heap} {f CG CC CS CB CT CM C : Addr} {fd : FuncData} {k km : Nat}
def R_llarge (ds : List D) (r : Res) : Prop := ∃ (cell : Nat) (nums : List Nat), ds = [nI cell, lN nums] ∧ 24 ≤ nums.length ∧ r = .ok (.bl true)
abbrev s_llarge : Stmt := top 87
abbrev N_llarge : List Str := ["_law_cell_here", "_law_numbers_here", "_law_menu", "_law_chosen", "_law_table_here", "_law_shape", "_law_rows", "_law_row", "_law_group_here", "_law_series", "_law_labels_here"]
theorem sc_llarge : FnScope N_llarge ["_law_cell_here", "_law_numbers_here"] (defScope s_llarge) := ⟨rfl, rfl, rfl, by decide +kernel, rfl, by decide +kernel, by decide +kernel⟩
theorem ok_llarge (T : Txt K mg) (M : MakeOk P w K mg base "Group" CG km R_Group) (hkm : km + 1 ≤ k) (O1 : DefOk P w K mg base "_law_cyclic" k R_lcyclic) (O2 : DefOk P w K mg base "_law_group" k R_lgroup) (O3 : DefOk P w K mg base "_law_lower" k R_llower) (O4 : DefOk P w K mg base "_law_labels" k R_llabels) (O5 : DefOk P w K mg base "_law_inputs" k R_linputs) (O6 : DefOk P w K mg base "_law_refusals_are" k (R_lrefuse CG)) (O7 : DefOk P w K mg base "_law_raises" k (R_lraises CC CG CS CB CT)) (O8 : DefOk P w K mg base "_law_least_is" k (R_lleast_is CC CG CS CB CT)) (O9 : DefOk P w K mg base "_law_least" k R_lleast)
    (F : FnP K "_law_large_is" s_llarge f fd) (hm : mg "_law_large_is" = some (.ref f)) : DefOk P w K mg base "_law_large_is" (k + 1) R_llarge := by
  refine def_ok F hm sc_llarge (fun ds r ⟨_, _, e, _⟩ => by rw [e]; rfl) (fun _ _ _ _ _ _ us hl => match us, hl with | [_, _], _ => rfl) fun cdv A outer s H E hr ds r hR => ?_
  obtain ⟨cell, nums, rfl, hn, rfl⟩ := hR
  have nd := sc_llarge.nd
  have zl := sizeLine_eq
  have hin : ∀ {q}, q < 24 → nums[q]? = some (nums.getD q 0) := fun h => getD_some 0 (by omega)
  have hch := Nat.mod_lt (nums.getD 1 0) (show 0 < 11 by omega)
  generalize hche : nums.getD 1 0 % 11 = ch at hch
  have main : DSs (cX P w K mg base N_llarge "_law_large_is" s_llarge f cdv A outer s H E) ((defBody s_llarge).drop 4) [.val (nI cell), .val (lN nums), .val (.lst (mnL.map mnD)), .val (nI ch), .val (lTab (lgN cell ch) (lgM cell ch)), .val (tN (lgS ch)), .no, .no, .no, .no, .no] { nx := fun _ => Res.ok (.bl true) = .ok .non, rt := fun d => Res.ok (.bl true) = .ok d, xn := fun C => Res.ok (.bl true) = .err C } := by
    obtain ⟨g, hn33⟩ := lg_grp cell ch
    have hsh := lgS_in hch
    have hbig : ∀ c, Still (lgN cell ch) (lgM cell ch) c → 1024 < pN (csA (lgN cell ch) (lgM cell ch) c (lgS ch)) := fun c s => lg_big cell hch s
    generalize lgN cell ch = n at *
    generalize lgM cell ch = m at *
    generalize lgS ch = sh at *
    obtain ⟨c, hc5, st⟩ := still_ex g (by omega)
    have hb := hbig c st
    have S := shp_of hsh
    have few := S.few
    have hlit := S.len
    have hpos := S.pos
    have tb := tb_lab sh (nums.drop 2)
    have q := dec_good g (by omega : n ≤ 60) st hsh tb
    have hncnt : ¬ cntOk n m sh c := fun h => by have := (cnt_of hsh).mp h; omega
    have hE : decE CS CB CT n m sh c ((labN (nums.drop 2) (prodN sh)).map Int.ofNat) = some CT := by
      unfold decE
      rw [if_pos S.ok, if_pos tb.ok, if_neg hncnt]
    refine dss_cons (ds_set 6 nd (d := tTab n m) (DE.is (de_tupL (da_cons (de_of_do (do_lc0 (List.range n) (fun a => lN ((List.range n).map (m a))) [7] (fun a => [lN ((List.range n).map (m a))]) (fun a => tN ((List.range n).map (m a))) [("_law_row", 7)] nd (blkOk_by (N := N_llarge) (sc := defScope s_llarge) (by decide +kernel)) (di_list (de_var 4)) ?_ ?_ ?_)) da_nil) T.nTuple) rfl) ?_)
    · rw [List.length_range]; omega
    · exact fun _ _ _ _ _ z _ => dg_name 7 nd
    · exact fun _ _ _ _ _ z _ => de_tupL (da_cons (de_var 7) da_nil) T.nTuple
    refine dss_cons (ds_set 8 nd (d := gD CG n m) (de_make M (hr.mono hkm) (da_cons (d := lTab n m) (DE.is (de_of_do (do_lc0 (List.range n) (fun a => lN ((List.range n).map (m a))) [7] (fun a => [lN ((List.range n).map (m a))]) (fun a => lN ((List.range n).map (m a))) [("_law_row", 7)] nd (blkOk_by (N := N_llarge) (sc := defScope s_llarge) (by decide +kernel)) (di_list (de_var 4)) ?_ ?_ ?_)) rfl) da_nil) ⟨n, m, rfl, by omega, g, rfl⟩) ?_)
    · rw [List.length_range]; omega
    · exact fun _ _ _ _ _ z _ => dg_name 7 nd
    · exact fun _ _ _ _ _ z _ => de_of_do (do_listL (da_cons (de_var 7) da_nil) T.nList)
    refine dss_cons (ds_set 9 nd (de_call O3 hr (da_cons (de_var 4) (da_cons de_int da_nil)) ⟨n, m, 6, rfl, g, by omega, by omega, rfl⟩) ?_)
    refine dss_cons (ds_set 10 nd (d := tI ((labN (nums.drop 2) (prodN sh)).map Int.ofNat)) (DE.is (d := tN (labN (nums.drop 2) (prodN sh))) (de_call O4 hr (da_cons (d := lN (nums.drop 2)) (de_of_do (DO.is (do_slFrom (ds := nums.map nI) (de_var 1) de_int) (by rw [show (2 : Int) = ((2 : Nat) : Int) from rfl, cut_from, ← List.map_drop]))) (da_cons (d := nI (prodN sh)) (DE.is (de_lenL (ds := (litI sh).map tI) (de_call O5 hr (da_cons (de_var 5) da_nil) ⟨sh, rfl, hsh, rfl⟩) T.nLen) (by rw [List.length_map, hlit])) da_nil)) ⟨nums.drop 2, prodN sh, rfl, hpos, by omega, by rw [List.length_drop]; omega, rfl⟩) (tN_tI _)) ?_)
    refine dss_cons (ds_if (k := false) (dt_pw (dw_or (k := false) (k' := false) (dt_not (dt_of (k := true) (de_call O6 hr (da_cons (de_var 8) (da_cons (de_var 5) (da_cons (de_var 10) (da_cons (de_ixLf (f := nI) (xs := nums) (i := 2) (de_var 1) de_int (hin (by omega))) da_nil)))) ⟨n, m, sh, c, _, nums.getD 2 0, rfl, g, by omega, st, hsh, tb, rfl⟩))) fun _ => dw_or1 (k := false) (dt_not (dt_of (k := true) (de_call O7 hr (da_cons (d := nI 1) de_int (da_cons de_str (da_cons (de_var 8) (da_cons (de_var 5) (da_cons (de_var 10) da_nil))))) ⟨1, "large", n, m, sh, c, _, CT, rfl, q, .inr (.inr ⟨rfl, rfl⟩), (fun h => absurd h (by omega)), fun _ => hE, rfl⟩))))) (fun z => nomatch z) fun _ => dss_nil ?_)
    obtain ⟨pre, epre⟩ := serN_last (n := n) (m := m) 6
    have eser : lF lN (serN n m 6) = lF lN (pre ++ [low n m 6]) := by rw [epre]
    refine dss_cons (ds_if (k := decide (1 < (low n m 6).length)) (DT.is (dt_cmp op_gt rd_gt (de_lenL (ds := (low n m 6).map nI) (de_ixL (ds := (serN n m 6).map lN) (i := (-1)) (d := lN (low n m 6)) (de_var 9) (de_neg de_int) (serN_at_last n m 6)) T.nLen) de_int (nomark _)) (by rw [List.length_map]; exact decide_eq_decide.mpr (by omega))) (fun hk => ?_) fun hk => ?_)
    · have h1 := of_decide_eq_true hk
      have L := least_ok (CC := CC) (CG := CG) (CS := CS) (CB := CB) (CT := CT) g (by omega : n ≤ 60) st hsh tb (e := 6) (by omega) (fun h => absurd h1 ((low_one g).mp h))
      have e0 : lleast (low n m 6) ((labN (nums.drop 2) (prodN sh)).map Int.ofNat) (dueN m (litI sh) (csA n m c sh) ((labN (nums.drop 2) (prodN sh)).map Int.ofNat)) = lleast (low n m 6) ((labN (nums.drop 2) (prodN sh)).map Int.ofNat) [] := by
        unfold lleast
        rw [if_pos h1, if_pos h1]
      rw [e0] at L
      exact dss_one (ds_ret (de_call O8 hr (da_cons (de_var 8) (da_cons (de_var 6) (da_cons (de_var 5) (da_cons (de_var 10) (da_cons (de_call O9 hr (da_cons (DE.is (de_var 9) eser) (da_cons (de_var 10) (da_cons (d := lF dueD []) (de_of_do (do_lstl da_nil)) da_nil))) ⟨pre, low n m 6, _, [], rfl, by rw [tb.len]; omega, rfl⟩) da_nil))))) ⟨n, m, sh, c, _, _, rfl, L.q, L.ho, L.d, rfl⟩) rfl)
    · have h1 := of_decide_eq_false hk
      have hz : low n m c = [0] := by rw [← st.ge (by omega : c ≤ 6)]; exact (low_one g).mpr h1
      have hR : decR CC CG CS CB CT n m sh c ((labN (nums.drop 2) (prodN sh)).map Int.ofNat) = .err CT := by
        unfold decR
        rw [if_pos S.ok, if_pos tb.ok]
        unfold byRow
        rw [if_neg (fun h => h hz), if_neg (show ¬ prodN (List.map List.length (choN (rowL n m c) (inp sh))) ≤ 1024 from hncnt)]
      exact dss_nil (dss_one (ds_ret (de_call O7 hr (da_cons (d := nI 0) de_int (da_cons de_str (da_cons (de_var 8) (da_cons (de_var 5) (da_cons (de_var 10) da_nil))))) ⟨0, "large", n, m, sh, c, _, CT, rfl, q, .inr (.inr ⟨rfl, rfl⟩), fun _ => hR, (fun h => absurd rfl h), rfl⟩) rfl))
  refine dss_cons ?_
  refine Wr.out ?_
  refine wds_set 2 nd (d := .lst (mnL1.map mnD)) (wlit (by kernel_rfl)) ?_
  refine dss_cons ?_
  refine Wr.out ?_
  refine wds_set 2 nd (d := .lst (mnL.map mnD)) (wis (wcat (ds := mnL1.map mnD) (es := mnL2.map mnD) (de_var 2) (by kernel_rfl) (by rw [List.length_map, List.length_map]; exact Nat.le_of_ble_eq_true rfl)) (by rw [← List.map_append]; rfl)) ?_
  refine dss_cons (ds_set 3 nd (d := nI ch) (DE.is (de_mod (de_intc (da_cons (de_ixLf (f := nI) (xs := nums) (i := 1) (de_var 1) de_int (hin (by omega))) da_nil) T.nInt) de_int (by omega)) (by rw [← hche]; rfl)) ?_)
  refine dss_cons (ds_if (k := decide (8 < ch)) (DT.is (dt_cmp op_gt rd_gt (de_var 3) de_int (nomark _)) (dec_lt 8 _)) (fun hk => ?_) fun hk => ?_)
  · have h := of_decide_eq_true hk
    have e1 : lgN cell ch = 33 := by unfold lgN; rw [if_pos h]
    have e2 : lgM cell ch = cycM 33 := by unfold lgM; rw [if_pos h]
    rw [e1, e2] at main
    refine dss_cons (ds_set 4 nd (de_call O1 hr (da_cons (d := nI 33) de_int da_nil) ⟨33, rfl, by omega, by omega, rfl⟩) ?_)
    refine dss_one ?_
    refine Wr.out ?_
    refine wds_set 5 nd (d := tN (lgS ch)) (wixLf (f := tN) (xs := [[3], [2, 2]]) (i := ch - 9) (wlit (by kernel_rfl)) (DE.is (de_sub (de_var 3) de_int) ?_) ?_) main
    · show D.int _ = D.int _
      refine congrArg D.int ?_
      omega
    · unfold lgS
      rw [if_pos h]
      exact getD_some [] (by show ch - 9 < 2; omega)
  · have h := of_decide_eq_false hk
    have e1 : lgN cell ch = gpN cell (lgC ch) := by unfold lgN; rw [if_neg h]
    have e2 : lgM cell ch = gpM cell (lgC ch) := by unfold lgM; rw [if_neg h]
    rw [e1, e2] at main
    obtain ⟨h0, h1⟩ := lgC_in ch
    have hat : mnL[ch]? = some (mnL.getD ch ([0], [])) := getD_some _ (by show ch < 9; omega)
    have e3 : lgS ch = (mnL.getD ch ([0], [])).2 := by unfold lgS; rw [if_neg h]
    refine dss_cons (ds_set 4 nd (de_call O2 hr (da_cons (de_var 0) (da_cons (d := lN (lgC ch)) (de_ixT (ds := [lN (mnL.getD ch ([0], [])).1, tN (mnL.getD ch ([0], [])).2]) (i := 0) (de_ixLf (f := mnD) (xs := mnL) (i := ch) (de_var 2) (de_var 3) hat) de_int rfl) da_nil)) ⟨cell, lgC ch, rfl, h0, h1, rfl⟩) ?_)
    refine dss_one (ds_set 5 nd (d := tN (lgS ch)) (DE.is (de_ixT (ds := [lN (mnL.getD ch ([0], [])).1, tN (mnL.getD ch ([0], [])).2]) (i := 1) (de_ixLf (f := mnD) (xs := mnL) (i := ch) (de_var 2) (de_var 3) hat) de_int rfl) (by rw [e3])) main)
end
end DL
set_option maxHeartbeats 4000000
namespace DL
open PySem PySem.Spec PyProof.Rows L2
/-! ### the law -/
theorem tb_told {sh : List Nat} (m : Nat → Nat → Nat) (ins : List (List Int)) {cs : List (List Nat)} (nums : List Nat) (h : cs.length = prodN sh) (h0 : 0 < prodN sh) : TbOk sh ((toldN m ins cs nums).map Int.ofNat) := by
  obtain ⟨h1, h2⟩ := told_ok m ins nums (cs := cs) (by omega)
  refine ⟨by rw [List.length_map, h1, h], fun l hl => ?_⟩
  obtain ⟨x, hx, rfl⟩ := List.mem_map.mp hl
  have := h2 x hx
  have : x = 0 ∨ x = 1 := by omega
  rcases this with e | e <;> subst e
  · exact .inl rfl
  · exact .inr rfl
section
variable {P : Program} {w : World} {K : PySem.W.Frag} {mg : Str → Option Value} {base : Heap} {f CG CC CS CB CT CM C : Addr} {fd : FuncData} {k km : Nat}
def R_law (ds : List D) (r : Res) : Prop := ∃ ns : List Int, ds = [.scr ns] ∧ r = .ok (.bl true)
abbrev s_law : Stmt := top 88
abbrev N_law : List Str := ["_law_script", "_law_numbers_here", "_law_kind", "_law_table_here", "_law_series", "_law_shape", "_law_rows", "_law_row", "_law_inputs_here", "_law_choices_here", "_law_below_here", "_law_labels_here", "_law_second", "_law_walked", "_law_number", "_law_due", "_law_k", "_law_others", "_law_least_here", "_law_later", "_law_group_here", "_law_chosen"]
theorem sc_law : FnScope N_law ["_law_script"] (defScope s_law) := ⟨rfl, rfl, rfl, by decide +kernel, rfl, by decide +kernel, by decide +kernel⟩
theorem ok_law (T : Txt K mg) (M : MakeOk P w K mg base "Group" CG km R_Group) (hkm : km + 1 ≤ k) (O1 : DefOk P w K mg base "_law_numbers" k R_lnumbers) (O2 : DefOk P w K mg base "_law_cell" k R_lcell) (O3 : DefOk P w K mg base "_law_large_is" k R_llarge) (O4 : DefOk P w K mg base "_law_world" k R_lworld) (O5 : DefOk P w K mg base "_law_inputs" k R_linputs) (O6 : DefOk P w K mg base "_law_choices" k R_lchoices) (O7 : DefOk P w K mg base "_law_below" k R_lbelow) (O8 : DefOk P w K mg base "_law_told_labels" k R_ltold) (O9 : DefOk P w K mg base "_law_entries_at" k R_lentries_at) (O10 : DefOk P w K mg base "_law_count" k R_lcount) (O11 : DefOk P w K mg base "_law_no_clash" k R_lno_clash) (O12 : DefOk P w K mg base "_law_least" k R_lleast) (O13 : DefOk P w K mg base "_law_least_is" k (R_lleast_is CC CG CS CB CT)) (O14 : DefOk P w K mg base "_law_yielded_are" k (R_lyielded CC CG CS CB CT)) (O15 : DefOk P w K mg base "_law_refusals_are" k (R_lrefuse CG)) (O16 : DefOk P w K mg base "_law_other_group_is" k R_lother)
    (F : FnP K "law" s_law f fd) : FnOk P w K mg base (L2.CX P w) (k + 1) f fd ["_law_script"] (spR K R_law) := by
  refine fn_ok F sc_law (fun ds r ⟨_, e, _⟩ => by rw [e]; rfl) fun cdv A outer s H E hr ds r hR => ?_
  obtain ⟨ns, rfl, rfl⟩ := hR
  have nd := sc_law.nd
  have zl := sizeLine_eq
  have hnl : ∀ i, (numsN (cellN ns i) 24).length = 24 := fun i => numsN_len _ _
  refine dss_cons (ds_set 1 nd (d := lN (numsN (cellN ns 4) 24)) (de_call O1 hr (da_cons (de_call O2 hr (da_cons (de_var 0) (da_cons (d := nI 4) de_int da_nil)) ⟨ns, 4, rfl, rfl⟩) (da_cons (d := nI 24) de_int da_nil)) ⟨cellN ns 4, 24, rfl, by omega, rfl⟩) ?_)
  refine dss_cons (ds_set 2 nd (d := nI ((numsN (cellN ns 4) 24).getD 0 0 % 24)) (DE.is (de_mod (de_intc (da_cons (de_ixLf (f := nI) (xs := numsN (cellN ns 4) 24) (i := 0) (de_var 1) de_int (getD_some 0 (by rw [hnl]; omega))) da_nil) T.nInt) de_int (by omega)) rfl) ?_)
  generalize (numsN (cellN ns 4) 24).getD 0 0 % 24 = kind
  refine dss_cons (ds_if (k := decide (21 < kind)) (DT.is (dt_cmp op_gt rd_gt (de_var 2) de_int (nomark _)) (dec_lt 21 _)) (fun hk => ?_) fun hk => dss_nil ?_)
  · exact dss_one (ds_ret (de_call O3 hr (da_cons (de_call O2 hr (da_cons (de_var 0) (da_cons (d := nI 0) de_int da_nil)) ⟨ns, 0, rfl, rfl⟩) (da_cons (de_var 1) da_nil)) ⟨cellN ns 0, numsN (cellN ns 4) 24, rfl, by rw [hnl]; omega, rfl⟩) rfl)
  have h1 : [0] = [0] := rfl
  obtain ⟨g, hn32⟩ := w_grp (cellN ns 0) kind
  have hsh := w_sh (cellN ns 0) (cellN ns 1) kind
  have hcnt : ∀ c, Still (wN (cellN ns 0) kind) (wM (cellN ns 0) kind) c → pN (csA (wN (cellN ns 0) kind) (wM (cellN ns 0) kind) c (wSh (cellN ns 0) (cellN ns 1) kind)) ≤ 1024 := fun c s => w_cnt _ _ _ s
  refine dss_cons (ds_asg [3, 4, 5] (dg_three (d1 := lTab (wN (cellN ns 0) kind) (wM (cellN ns 0) kind)) (d2 := lF lN (serN (wN (cellN ns 0) kind) (wM (cellN ns 0) kind) 7)) (d3 := tN (wSh (cellN ns 0) (cellN ns 1) kind)) 3 4 5 rfl nd) (de_call O4 hr (da_cons (de_call O2 hr (da_cons (de_var 0) (da_cons (d := nI 0) de_int da_nil)) ⟨ns, 0, rfl, rfl⟩) (da_cons (de_call O2 hr (da_cons (de_var 0) (da_cons (d := nI 1) de_int da_nil)) ⟨ns, 1, rfl, rfl⟩) (da_cons (de_var 2) da_nil))) ⟨cellN ns 0, cellN ns 1, kind, rfl, rfl⟩) ?_)
  show DSs _ _ [_, _, _, .val (lTab (wN (cellN ns 0) kind) (wM (cellN ns 0) kind)), .val (lF lN (serN (wN (cellN ns 0) kind) (wM (cellN ns 0) kind) 7)), .val (tN (wSh (cellN ns 0) (cellN ns 1) kind)), _, _, _, _, _, _, _, _, _, _, _, _, _, _, _, _] _
  generalize wN (cellN ns 0) kind = n at *
  generalize wM (cellN ns 0) kind = m at *
  generalize wSh (cellN ns 0) (cellN ns 1) kind = sh at *
  have S := shp_of hsh
  have few := S.few
  have l4 := S.l4
  have hlit := S.len
  have hpos := S.pos
  obtain ⟨c, hc5, st, ecs⟩ := lcho_ok g (by omega : n ≤ 60) hsh (t := 7) (by omega)
  have hlens := lcho_lens g (by omega : n ≤ 60) hsh (t := 7) (by omega)
  rw [ecs] at hlens
  replace hlens : ∀ q ∈ csA n m c sh, (0 < q.length ∧ q.length < 10000) ∧ ∀ x ∈ q, x < n := hlens
  have hc1024 := hcnt c st
  have hcsl : (csA n m c sh).length = (litI sh).length := cs_len hsh
  have num_of := fun (k : Nat) (hk : k < pN (csA n m c sh)) => num_ok g (by omega : n ≤ 60) st hsh hk
  have hcslp : (csA n m c sh).length = prodN sh := by rw [hcsl, hlit]
  refine dss_cons (ds_set 6 nd (d := tTab n m) (DE.is (de_tupL (da_cons (de_of_do (do_lc0 (List.range n) (fun a => lN ((List.range n).map (m a))) [7] (fun a => [lN ((List.range n).map (m a))]) (fun a => tN ((List.range n).map (m a))) [("_law_row", 7)] nd (blkOk_by (N := N_law) (sc := defScope s_law) (by decide +kernel)) (di_list (de_var 3)) ?_ ?_ ?_)) da_nil) T.nTuple) rfl) ?_)
  · rw [List.length_range]; omega
  · exact fun _ _ _ _ _ z _ => dg_name 7 nd
  · exact fun _ _ _ _ _ z _ => de_tupL (da_cons (de_var 7) da_nil) T.nTuple
  refine dss_cons (ds_set 8 nd (de_call O5 hr (da_cons (de_var 5) da_nil) ⟨sh, rfl, hsh, rfl⟩) ?_)
  refine dss_cons (ds_set 9 nd (d := lF lN (csA n m c sh)) (de_call O6 hr (da_cons (de_var 4) (da_cons (de_var 8) da_nil)) ⟨serN n m 7, litI sh, rfl, by omega, fun z hz => by have := S.each z hz; rw [serN_len]; omega, by rw [ecs]⟩) ?_)
  refine dss_cons (ds_set 10 nd (de_call O7 hr (da_cons (de_var 8) da_nil) ⟨litI sh, sh.length, rfl, by omega, by omega, fun z hz => (S.each z hz).1, rfl⟩) ?_)
  show DSs _ _ [_, _, _, _, _, _, _, _, _, _, _, _, _, _, _, _, _, _, _, _, _, _] _
  have tb1 := tb_told (sh := sh) m (litI sh) (cs := csA n m c sh) (numsN (cellN ns 2) 24) hcslp hpos
  have tb2 := tb_told (sh := sh) m (litI sh) (cs := csA n m c sh) (numsN (cellN ns 3) 24) hcslp hpos
  refine dss_cons (ds_set 11 nd (d := tI ((toldN m (litI sh) (csA n m c sh) (numsN (cellN ns 2) 24)).map Int.ofNat)) (DE.is (de_call O8 hr (da_cons (de_var 3) (da_cons (de_var 9) (da_cons (de_var 10) (da_cons (de_call O1 hr (da_cons (de_call O2 hr (da_cons (de_var 0) (da_cons (d := nI 2) de_int da_nil)) ⟨ns, 2, rfl, rfl⟩) (da_cons (d := nI 24) de_int da_nil)) ⟨cellN ns 2, 24, rfl, by omega, rfl⟩) da_nil)))) ⟨n, m, csA n m c sh, litI sh, numsN (cellN ns 2) 24, rfl, g, hcsl, by omega, by omega, hlens, by rw [hnl]; omega, rfl⟩) (tN_tI _)) ?_)
  refine dss_cons (ds_set 12 nd (d := tI ((toldN m (litI sh) (csA n m c sh) (numsN (cellN ns 3) 24)).map Int.ofNat)) (DE.is (de_call O8 hr (da_cons (de_var 3) (da_cons (de_var 9) (da_cons (de_var 10) (da_cons (de_call O1 hr (da_cons (de_call O2 hr (da_cons (de_var 0) (da_cons (d := nI 3) de_int da_nil)) ⟨ns, 3, rfl, rfl⟩) (da_cons (d := nI 24) de_int da_nil)) ⟨cellN ns 3, 24, rfl, by omega, rfl⟩) da_nil)))) ⟨n, m, csA n m c sh, litI sh, numsN (cellN ns 3) 24, rfl, g, hcsl, by omega, by omega, hlens, by rw [hnl]; omega, rfl⟩) (tN_tI _)) ?_)
  generalize (toldN m (litI sh) (csA n m c sh) (numsN (cellN ns 2) 24)).map Int.ofNat = la at *
  generalize (toldN m (litI sh) (csA n m c sh) (numsN (cellN ns 3) 24)).map Int.ofNat = lb at *
  have L1 := least_ok (CC := CC) (CG := CG) (CS := CS) (CB := CB) (CT := CT) g (by omega : n ≤ 60) st hsh tb1 (e := 7) (by omega) (fun _ => hc1024)
  have L2' := least_ok (CC := CC) (CG := CG) (CS := CS) (CB := CB) (CT := CT) g (by omega : n ≤ 60) st hsh tb2 (e := 7) (by omega) (fun _ => hc1024)
  have Y1 := yield_ok (CC := CC) (CG := CG) (CS := CS) (CB := CB) (CT := CT) g (by omega : n ≤ 60) st hsh tb1 hc1024
  have Y2 := yield_ok (CC := CC) (CG := CG) (CS := CS) (CB := CB) (CT := CT) g (by omega : n ≤ 60) st hsh tb2 hc1024
  show DSs _ _ [_, _, _, _, _, _, _, _, _, _, _, _, _, _, _, _, _, _, _, _, _, _] _
  have hwl : ∀ (k : Nat) (tb : List Int), TbOk sh tb → (wAt m (litI sh) (csA n m c sh) k).length = tb.length := fun k tb t => by rw [entN_len, membN_len, hcslp, t.len]
  have hwlt : ∀ k, ∀ z ∈ wAt m (litI sh) (csA n m c sh) k, z < n := fun k => entN_lt g (membN_ok (n := n) (fun q hq => (hlens q hq).1.1) (fun q hq => (hlens q hq).2) k).2
  have hoth : 1 < kind → ∀ c', Still n (cycM n) c' → pN (csA n (cycM n) c' sh) ≤ 1024 := fun _ c' s' => Nat.le_trans (cyc_cnt g st s' sh) hc1024
  generalize csA n m c sh = cs at *
  refine dss_cons (ds_setO (ds := (List.range (pN cs)).map fun k => tN (wAt m (litI sh) cs k)) 13 nd (do_lc0 (List.range (pN cs)) nI [14] (fun k => [nI k]) (fun k => tN (wAt m (litI sh) cs k)) [("_law_number", 14)] nd (blkOk_by (N := N_law) (sc := defScope s_law) (by decide +kernel)) (di_rng (n := pN cs) (de_call O10 hr (da_cons (de_var 9) da_nil) ⟨cs, rfl, fun q hq => (hlens q hq).1.2, rfl⟩) T.nRange (by omega)) ?_ ?_ ?_) ?_)
  · rw [List.length_range]; omega
  · exact fun _ _ _ _ _ z _ => dg_name 14 nd
  · exact fun _ _ _ _ _ z _ => de_tupL (da_cons (de_call O9 hr (da_cons (de_var 3) (da_cons (de_var 9) (da_cons (de_var 10) (da_cons (de_var 14) da_nil)))) ⟨n, m, cs, litI sh, z, rfl, g, hcsl, by omega, fun q hq => (hlens q hq).1, fun q hq => (hlens q hq).2, rfl⟩) da_nil) T.nTuple
  refine dss_freeze (ds := (List.range (pN cs)).map fun k => tN (wAt m (litI sh) cs k)) 13 ?_
  show DSs _ _ [_, _, _, _, _, _, _, _, _, _, _, _, _, _, _, _, _, _, _, _, _, _] _
  have hdue : ∀ tb : List Int, ((List.range (pN cs)).filter fun k => noCl tb (wAt m (litI sh) cs k)).map (fun k => dueD (k, wAt m (litI sh) cs k)) = (dueN m (litI sh) cs tb).map dueD := fun tb => by
    unfold dueN
    rw [List.map_map]; rfl
  show DSs _ _ [_, _, _, _, _, _, _, _, _, _, _, _, _, _, _, _, _, _, _, _, _, _] _
  refine dss_cons (ds_setLc 15 (List.range (pN cs)) nI [16] (fun k => [nI k]) (fun k => noCl la (wAt m (litI sh) cs k)) (fun k => dueD (k, wAt m (litI sh) cs k)) [("_law_k", 16)] nd (blkOk_by (N := N_law) (sc := defScope s_law) (by decide +kernel)) (di_rng (n := pN cs) (DE.is (de_lenL (ds := (List.range (pN cs)).map fun k => tN (wAt m (litI sh) cs k)) (de_var 13) T.nLen) (by rw [List.length_map, List.length_range])) T.nRange (by omega)) ?_ ?_ ?_ ?_ ?_)
  · rw [List.length_range]; omega
  · exact fun _ _ _ _ _ z _ => dg_name 16 nd
  · exact fun _ _ _ _ _ z hz => dts_one (dt_of (de_call O11 hr (da_cons (de_ixLf (f := fun k => tN (wAt m (litI sh) cs k)) (xs := List.range (pN cs)) (i := z) (de_var 13) (de_var 16) (range_get (List.mem_range.mp hz))) (da_cons (de_var 11) da_nil)) ⟨wAt m (litI sh) cs z, la, rfl, hwl z la tb1, by rw [hwl z la tb1, tb1.len]; omega, fun x hx => by have := hwlt z x hx; omega, tb1.b, rfl⟩))
  · exact fun _ _ _ _ _ z hz _ => de_tupl (da_cons (de_var 16) (da_cons (de_ixLf (f := fun k => tN (wAt m (litI sh) cs k)) (xs := List.range (pN cs)) (i := z) (de_var 13) (de_var 16) (range_get (List.mem_range.mp hz))) da_nil))
  rw [hdue la]
  refine dss_freeze (ds := (dueN m (litI sh) cs la).map dueD) 15 ?_
  show DSs _ _ [_, _, _, _, _, _, _, _, _, _, _, _, _, _, _, _, _, _, _, _, _, _] _
  refine dss_cons (ds_setLc 17 (List.range (pN cs)) nI [16] (fun k => [nI k]) (fun k => noCl lb (wAt m (litI sh) cs k)) (fun k => dueD (k, wAt m (litI sh) cs k)) [("_law_k", 16)] nd (blkOk_by (N := N_law) (sc := defScope s_law) (by decide +kernel)) (di_rng (n := pN cs) (DE.is (de_lenL (ds := (List.range (pN cs)).map fun k => tN (wAt m (litI sh) cs k)) (de_var 13) T.nLen) (by rw [List.length_map, List.length_range])) T.nRange (by omega)) ?_ ?_ ?_ ?_ ?_)
  · rw [List.length_range]; omega
  · exact fun _ _ _ _ _ z _ => dg_name 16 nd
  · exact fun _ _ _ _ _ z hz => dts_one (dt_of (de_call O11 hr (da_cons (de_ixLf (f := fun k => tN (wAt m (litI sh) cs k)) (xs := List.range (pN cs)) (i := z) (de_var 13) (de_var 16) (range_get (List.mem_range.mp hz))) (da_cons (de_var 12) da_nil)) ⟨wAt m (litI sh) cs z, lb, rfl, hwl z lb tb2, by rw [hwl z lb tb2, tb2.len]; omega, fun x hx => by have := hwlt z x hx; omega, tb2.b, rfl⟩))
  · exact fun _ _ _ _ _ z hz _ => de_tupl (da_cons (de_var 16) (da_cons (de_ixLf (f := fun k => tN (wAt m (litI sh) cs k)) (xs := List.range (pN cs)) (i := z) (de_var 13) (de_var 16) (range_get (List.mem_range.mp hz))) da_nil))
  rw [hdue lb]
  refine dss_freeze (ds := (dueN m (litI sh) cs lb).map dueD) 17 ?_
  show DSs _ _ [_, _, _, _, _, _, _, _, _, _, _, _, _, _, _, _, _, _, _, _, _, _] _
  generalize dueN m (litI sh) cs la = due at *
  generalize dueN m (litI sh) cs lb = oth at *
  obtain ⟨pre, epre⟩ := serN_last (n := n) (m := m) 7
  have eser : lF lN (serN n m 7) = lF lN (pre ++ [low n m 7]) := by rw [epre]
  show DSs _ _ [_, _, _, _, _, _, _, _, _, _, _, _, _, _, _, _, _, _, _, _, _, _] _
  refine dss_cons (ds_set 18 nd (d := ansD (lleast (low n m 7) la due)) (de_call O12 hr (da_cons (DE.is (de_var 4) eser) (da_cons (de_var 11) (da_cons (de_var 15) da_nil))) ⟨pre, low n m 7, la, due, rfl, by rw [tb1.len]; omega, rfl⟩) ?_)
  refine dss_cons (ds_set 19 nd (d := ansD (lleast (low n m 7) lb oth)) (de_call O12 hr (da_cons (DE.is (de_var 4) eser) (da_cons (de_var 12) (da_cons (de_var 17) da_nil))) ⟨pre, low n m 7, lb, oth, rfl, by rw [tb2.len]; omega, rfl⟩) ?_)
  show DSs _ _ [_, _, _, _, _, _, _, _, _, _, _, _, _, _, _, _, _, _, _, _, _, _] _
  refine dss_cons (ds_set 20 nd (d := gD CG n m) (de_make M (hr.mono hkm) (da_cons (d := lTab n m) (DE.is (de_of_do (do_lc0 (List.range n) (fun a => lN ((List.range n).map (m a))) [7] (fun a => [lN ((List.range n).map (m a))]) (fun a => lN ((List.range n).map (m a))) [("_law_row", 7)] nd (blkOk_by (N := N_law) (sc := defScope s_law) (by decide +kernel)) (di_list (de_var 3)) ?_ ?_ ?_)) rfl) da_nil) ⟨n, m, rfl, by omega, g, rfl⟩) ?_)
  · rw [List.length_range]; omega
  · exact fun _ _ _ _ _ z _ => dg_name 7 nd
  · exact fun _ _ _ _ _ z _ => de_of_do (do_listL (da_cons (de_var 7) da_nil) T.nList)
  refine dss_cons (ds_set 21 nd (d := nI ((numsN (cellN ns 4) 24).getD 1 0 % (if due.length > 1 then due.length else 1))) (DE.is (de_mod (de_intc (da_cons (de_ixLf (f := nI) (xs := numsN (cellN ns 4) 24) (i := 1) (de_var 1) de_int (getD_some 0 (by rw [hnl]; omega))) da_nil) T.nInt) (de_max2 rfl (da_cons de_int (da_cons (de_lenL (ds := due.map dueD) (de_var 15) T.nLen) da_nil)) T.nMax) (by split <;> omega)) ?_) ?_)
  · show D.int _ = D.int _
    refine congrArg D.int ?_
    rw [List.length_map]
    by_cases h : due.length > 1
    · rw [if_pos h, if_pos (by omega)]; rfl
    · rw [if_neg h, if_neg (by omega)]; rfl
  show DSs _ _ [_, _, _, _, _, _, _, _, _, _, _, _, _, _, _, _, _, _, _, _, _, _] _
  generalize (numsN (cellN ns 4) 24).getD 1 0 % (if due.length > 1 then due.length else 1) = chosen
  show DSs _ _ [_, _, _, _, _, _, _, _, _, _, _, _, _, _, _, _, _, _, _, _, _, _] _
  refine dss_cons (ds_if (k := false) (dt_not (dt_of (k := true) (de_call O13 hr (da_cons (de_var 20) (da_cons (de_var 6) (da_cons (de_var 5) (da_cons (de_var 11) (da_cons (de_var 18) da_nil))))) ⟨n, m, sh, c, la, _, rfl, L1.q, L1.ho, L1.d, rfl⟩))) (fun z => nomatch z) fun _ => dss_nil ?_)
  refine dss_cons (ds_if (k := false) (dt_not (dt_of (k := true) (de_call O14 hr (da_cons (de_var 20) (da_cons (de_var 6) (da_cons (de_var 5) (da_cons (de_var 11) (da_cons (de_var 15) (da_cons (de_var 21) (da_cons (de_var 12) (da_cons (de_var 19) da_nil)))))))) ⟨n, m, sh, c, la, lb, due, chosen, _, rfl, Y1, L2', rfl⟩))) (fun z => nomatch z) fun _ => dss_nil ?_)
  show DSs _ _ [_, _, _, _, _, _, _, _, _, _, _, _, _, _, _, _, _, _, _, _, _, _] _
  refine dss_cons (ds_if (k := false) (DT.is (dt_pw (dw_and (k := decide (1 < kind)) (k' := false) (DT.is (dt_cmp op_gt rd_gt (de_var 2) de_int (nomark _)) (dec_lt 1 _)) fun _ => dw_and1 (k := false) (dt_not (dt_of (k := true) (de_call O14 hr (da_cons (de_var 20) (da_cons (de_var 6) (da_cons (de_var 5) (da_cons (de_var 12) (da_cons (de_var 17) (da_cons (d := nI 0) de_int (da_cons (de_var 11) (da_cons (de_var 18) da_nil)))))))) ⟨n, m, sh, c, lb, la, oth, 0, _, rfl, Y2, L1, rfl⟩))))) (Bool.and_false _)) (fun z => nomatch z) fun _ => dss_nil ?_)
  refine dss_cons (ds_if (k := false) (dt_not (dt_of (k := true) (de_call O15 hr (da_cons (de_var 20) (da_cons (de_var 5) (da_cons (de_var 11) (da_cons (de_ixLf (f := nI) (xs := numsN (cellN ns 4) 24) (i := 2) (de_var 1) de_int (getD_some 0 (by rw [hnl]; omega))) da_nil)))) ⟨n, m, sh, c, la, _, rfl, g, by omega, st, hsh, tb1, rfl⟩))) (fun z => nomatch z) fun _ => dss_nil ?_)
  show DSs _ _ [_, _, _, _, _, _, _, _, _, _, _, _, _, _, _, _, _, _, _, _, _, _] _
  refine dss_cons (ds_if (k := false) (DT.is (dt_pw (dw_and (k := decide (1 < kind)) (k' := false) (DT.is (dt_cmp op_gt rd_gt (de_var 2) de_int (nomark _)) (dec_lt 1 _)) fun hk => dw_and1 (k := false) (dt_not (dt_of (k := true) (de_call O16 hr (da_cons (d := nI n) (DE.is (de_lenL (ds := (List.range n).map fun a => lN ((List.range n).map (m a))) (de_var 3) T.nLen) (by rw [List.length_map, List.length_range])) (da_cons (de_var 5) (da_cons (de_var 11) da_nil))) ⟨n, sh, la, rfl, g.pos, by omega, hsh, tb1, hoth (of_decide_eq_true hk), rfl⟩))))) (Bool.and_false _)) (fun z => nomatch z) fun _ => dss_nil ?_)
  exact dss_one (ds_ret (de_call O13 hr (da_cons (de_var 20) (da_cons (de_var 6) (da_cons (de_var 5) (da_cons (de_var 11) (da_cons (de_var 18) da_nil))))) ⟨n, m, sh, c, la, _, rfl, L1.q, L1.ho, L1.d, rfl⟩) rfl)
end
end DL
set_option maxHeartbeats 0
namespace DL
open PySem PySem.Spec PyProof.Rows L2
/-! ### the facts, read -/
theorem cat_ok {K : PySem.W.Frag} {mg : Str → Option Value} {h : Heap} (X : K.In h) {x : Str} (hs : PySem.W.subIn K (.ref (He.ga K x)) (.type "BaseException") = some true) (c : catB K x = true) : CatchC K (He.ga K "MovesError") (He.ga K x) := by
  obtain ⟨c1, c⟩ := He.ba c
  obtain ⟨c2, c⟩ := He.ba c
  obtain ⟨c3, c⟩ := He.ba c
  obtain ⟨c4, c⟩ := He.ba c
  obtain ⟨c5, c⟩ := He.ba c
  obtain ⟨c6, c⟩ := He.ba c
  obtain ⟨c7, c⟩ := He.ba c
  obtain ⟨c8, c⟩ := He.ba c
  obtain ⟨c9, c10⟩ := He.ba c
  exact ⟨⟨He.eqO_ok c1, He.eqO_ok c2, hs, c3, He.eqO_ok c4, He.eqO_ok c5, of_decide_eq_true c6, of_decide_eq_true c7⟩, of_decide_eq_true c8, of_decide_eq_true c9, of_decide_eq_true c10⟩
section
variable {w : World} {P : Program} {K : PySem.W.Frag} {h base : Heap} {mg : Str → Option Value}
theorem txt_ok (X : K.In h) (G : h.Ns mainGlobals mg) (c : He.SaysD fas fns K) : Txt K mg :=
  ⟨He.free_ok X G (c.fact 65 (f := .free "len") rfl), He.free_ok X G (c.fact 66 (f := .free "all") rfl), He.free_ok X G (c.fact 67 (f := .free "sorted") rfl), He.free_ok X G (c.fact 68 (f := .free "range") rfl), He.free_ok X G (c.fact 69 (f := .free "zip") rfl), He.free_ok X G (c.fact 70 (f := .free "tuple") rfl), He.free_ok X G (c.fact 71 (f := .free "list") rfl), He.free_ok X G (c.fact 72 (f := .free "enumerate") rfl), He.free_ok X G (c.fact 73 (f := .free "isinstance") rfl), He.free_ok X G (c.fact 74 (f := .free "min") rfl), He.free_ok X G (c.fact 75 (f := .free "max") rfl), He.free_ok X G (c.fact 76 (f := .free "abs") rfl), He.free_ok X G (c.fact 77 (f := .free "int") rfl), He.free_ok X G (c.fact 78 (f := .free "set") rfl), He.free_ok X G (c.fact 79 (f := .free "bool") rfl), He.free_ok X G (c.fact 80 (f := .free "str") rfl), He.int_ok X G (c.fact 82 (f := .int "MOST_PLACES" 12) rfl), He.int_ok X G (c.fact 83 (f := .int "MOST_MEMBERS" 60) rfl), He.int_ok X G (c.fact 84 (f := .int "MOST_CHARTS" 1024) rfl)⟩
theorem gcls_ok (c : He.SaysD fas fns K) : GCls K (He.ga K "Group") := ⟨He.cls_ok (c.fact 85 (f := .cls "Group") rfl), He.noat_ok (c.fact 89 (f := .noat "Group" "rows") rfl), He.noat_ok (c.fact 90 (f := .noat "Group" "size") rfl), He.noat_ok (c.fact 91 (f := .noat "Group" "inverses") rfl)⟩
theorem ccls_ok (c : He.SaysD fas fns K) : CCls K (He.ga K "Chart") := ⟨He.cls_ok (c.fact 87 (f := .cls "Chart") rfl), He.noat_ok (c.fact 92 (f := .noat "Chart" "group") rfl), He.noat_ok (c.fact 93 (f := .noat "Chart" "shape") rfl), He.noat_ok (c.fact 94 (f := .noat "Chart" "entries") rfl)⟩
theorem exc_BadShape (X : K.In h) (G : h.Ns mainGlobals mg) (c : He.SaysD fas fns K) : ExcOk K mg "BadShape" (He.ga K "BadShape") := by
  obtain ⟨h1, h2, h3, h4⟩ := He.exc_ok (c.fact 97 (f := .exc "BadShape") rfl)
  exact ⟨He.glo_ok X G (c.fact 61 (f := .glo "BadShape") rfl), h1, h2, h3, h4⟩
theorem exc_BadTable (X : K.In h) (G : h.Ns mainGlobals mg) (c : He.SaysD fas fns K) : ExcOk K mg "BadTable" (He.ga K "BadTable") := by
  obtain ⟨h1, h2, h3, h4⟩ := He.exc_ok (c.fact 98 (f := .exc "BadTable") rfl)
  exact ⟨He.glo_ok X G (c.fact 62 (f := .glo "BadTable") rfl), h1, h2, h3, h4⟩
theorem exc_TooLarge (X : K.In h) (G : h.Ns mainGlobals mg) (c : He.SaysD fas fns K) : ExcOk K mg "TooLarge" (He.ga K "TooLarge") := by
  obtain ⟨h1, h2, h3, h4⟩ := He.exc_ok (c.fact 99 (f := .exc "TooLarge") rfl)
  exact ⟨He.glo_ok X G (c.fact 63 (f := .glo "TooLarge") rfl), h1, h2, h3, h4⟩
theorem catch_ok (X : K.In h) (G : h.Ns mainGlobals mg) (c : He.SaysD fas fns K) (e : exB K = true) : Catch K mg (He.ga K "BadShape") (He.ga K "BadTable") (He.ga K "TooLarge") (He.ga K "MovesError") := by
  obtain ⟨e1, e⟩ := He.ba e
  obtain ⟨e2, e⟩ := He.ba e
  obtain ⟨e3, _⟩ := He.ba e
  exact ⟨He.glo_ok X G (c.fact 61 (f := .glo "BadShape") rfl), He.glo_ok X G (c.fact 62 (f := .glo "BadTable") rfl), He.glo_ok X G (c.fact 63 (f := .glo "TooLarge") rfl), He.glo_ok X G (c.fact 64 (f := .glo "MovesError") rfl), He.free_ok X G (c.fact 81 (f := .free "ValueError") rfl), He.exm_ok (c.fact 100 (f := .exm "BadShape" "BadShape" true) rfl), He.exm_ok (c.fact 101 (f := .exm "BadTable" "BadShape" false) rfl), He.exm_ok (c.fact 102 (f := .exm "BadTable" "BadTable" true) rfl), He.exm_ok (c.fact 103 (f := .exm "TooLarge" "BadShape" false) rfl), He.exm_ok (c.fact 104 (f := .exm "TooLarge" "BadTable" false) rfl), He.exm_ok (c.fact 105 (f := .exm "TooLarge" "TooLarge" true) rfl), cat_ok (mg := mg) X (exc_BadShape X G c).b e1, cat_ok (mg := mg) X (exc_BadTable X G c).b e2, cat_ok (mg := mg) X (exc_TooLarge X G c).b e3⟩
/-! ### the chain -/
theorem chain (X : K.In h) (G : h.Ns mainGlobals mg) (c : He.SaysD fas fns K) (e : exB K = true) {fd : FuncData} (F_law : FnP K "law" s_law (He.ga K "law") fd) (TB : Tbs K mg base) : FnOk P w K mg base (L2.CX P w) 12 (He.ga K "law") fd ["_law_script"] (spR K R_law) := by
  have T := txt_ok X G c
  have cG := gcls_ok c
  have cC := ccls_ok c
  have e_BadShape := exc_BadShape X G c
  have e_BadTable := exc_BadTable X G c
  have e_TooLarge := exc_TooLarge X G c
  have Ct := catch_ok X G c e
  obtain ⟨_, F_weight⟩ : ∃ fd, FnP K "weight" s_weight (He.ga K "weight") fd := c.def_ 0 (d := dF "weight" s_weight) rfl
  have g_weight : mg "weight" = some (.ref (He.ga K "weight")) := He.glo_ok X G (c.fact 0 (f := .glo "weight") rfl)
  obtain ⟨_, F_check_shape⟩ : ∃ fd, FnP K "check_shape" s_check_shape (He.ga K "check_shape") fd := c.def_ 1 (d := dF "check_shape" s_check_shape) rfl
  have g_check_shape : mg "check_shape" = some (.ref (He.ga K "check_shape")) := He.glo_ok X G (c.fact 1 (f := .glo "check_shape") rfl)
  obtain ⟨_, F_lies_under⟩ : ∃ fd, FnP K "lies_under" s_lies_under (He.ga K "lies_under") fd := c.def_ 2 (d := dF "lies_under" s_lies_under) rfl
  have g_lies_under : mg "lies_under" = some (.ref (He.ga K "lies_under")) := He.glo_ok X G (c.fact 2 (f := .glo "lies_under") rfl)
  obtain ⟨_, F_count_inputs⟩ : ∃ fd, FnP K "count_inputs" s_count_inputs (He.ga K "count_inputs") fd := c.def_ 3 (d := dF "count_inputs" s_count_inputs) rfl
  have g_count_inputs : mg "count_inputs" = some (.ref (He.ga K "count_inputs")) := He.glo_ok X G (c.fact 3 (f := .glo "count_inputs") rfl)
  obtain ⟨_, F_check_table⟩ : ∃ fd, FnP K "check_table" s_check_table (He.ga K "check_table") fd := c.def_ 4 (d := dF "check_table" s_check_table) rfl
  have g_check_table : mg "check_table" = some (.ref (He.ga K "check_table")) := He.glo_ok X G (c.fact 4 (f := .glo "check_table") rfl)
  obtain ⟨_, F_light_inputs⟩ : ∃ fd, FnP K "light_inputs" s_light_inputs (He.ga K "light_inputs") fd := c.def_ 5 (d := dF "light_inputs" s_light_inputs) rfl
  have g_light_inputs : mg "light_inputs" = some (.ref (He.ga K "light_inputs")) := He.glo_ok X G (c.fact 5 (f := .glo "light_inputs") rfl)
  obtain ⟨_, F_inputs_of⟩ : ∃ fd, FnP K "inputs_of" s_inputs_of (He.ga K "inputs_of") fd := c.def_ 6 (d := dF "inputs_of" s_inputs_of) rfl
  have g_inputs_of : mg "inputs_of" = some (.ref (He.ga K "inputs_of")) := He.glo_ok X G (c.fact 6 (f := .glo "inputs_of") rfl)
  obtain ⟨_, F_reached⟩ : ∃ fd, FnP K "reached" s_reached (He.ga K "reached") fd := c.def_ 7 (d := dF "reached" s_reached) rfl
  have g_reached : mg "reached" = some (.ref (He.ga K "reached")) := He.glo_ok X G (c.fact 7 (f := .glo "reached") rfl)
  obtain ⟨_, F_generating_members⟩ : ∃ fd, FnP K "generating_members" s_generating_members (He.ga K "generating_members") fd := c.def_ 8 (d := dF "generating_members" s_generating_members) rfl
  have g_generating_members : mg "generating_members" = some (.ref (He.ga K "generating_members")) := He.glo_ok X G (c.fact 8 (f := .glo "generating_members") rfl)
  obtain ⟨_, F_is_associative⟩ : ∃ fd, FnP K "is_associative" s_is_associative (He.ga K "is_associative") fd := c.def_ 9 (d := dF "is_associative" s_is_associative) rfl
  have g_is_associative : mg "is_associative" = some (.ref (He.ga K "is_associative")) := He.glo_ok X G (c.fact 9 (f := .glo "is_associative") rfl)
  obtain ⟨_, F_table_fault⟩ : ∃ fd, FnP K "table_fault" s_table_fault (He.ga K "table_fault") fd := c.def_ 10 (d := dF "table_fault" s_table_fault) rfl
  have g_table_fault : mg "table_fault" = some (.ref (He.ga K "table_fault")) := He.glo_ok X G (c.fact 10 (f := .glo "table_fault") rfl)
  obtain ⟨_, F_generated⟩ : ∃ fd, FnP K "generated" s_generated (He.ga K "generated") fd := c.def_ 11 (d := dF "generated" s_generated) rfl
  have g_generated : mg "generated" = some (.ref (He.ga K "generated")) := He.glo_ok X G (c.fact 11 (f := .glo "generated") rfl)
  obtain ⟨_, F_commutator_subgroup⟩ : ∃ fd, FnP K "commutator_subgroup" s_commutator_subgroup (He.ga K "commutator_subgroup") fd := c.def_ 12 (d := dF "commutator_subgroup" s_commutator_subgroup) rfl
  have g_commutator_subgroup : mg "commutator_subgroup" = some (.ref (He.ga K "commutator_subgroup")) := He.glo_ok X G (c.fact 12 (f := .glo "commutator_subgroup") rfl)
  obtain ⟨_, F_lower_row⟩ : ∃ fd, FnP K "lower_row" s_lower_row (He.ga K "lower_row") fd := c.def_ 13 (d := dF "lower_row" s_lower_row) rfl
  have g_lower_row : mg "lower_row" = some (.ref (He.ga K "lower_row")) := He.glo_ok X G (c.fact 13 (f := .glo "lower_row") rfl)
  obtain ⟨_, F_subgroup_at⟩ : ∃ fd, FnP K "subgroup_at" s_subgroup_at (He.ga K "subgroup_at") fd := c.def_ 14 (d := dF "subgroup_at" s_subgroup_at) rfl
  have g_subgroup_at : mg "subgroup_at" = some (.ref (He.ga K "subgroup_at")) := He.glo_ok X G (c.fact 14 (f := .glo "subgroup_at") rfl)
  obtain ⟨_, F_coefficient_choices⟩ : ∃ fd, FnP K "coefficient_choices" s_coefficient_choices (He.ga K "coefficient_choices") fd := c.def_ 15 (d := dF "coefficient_choices" s_coefficient_choices) rfl
  have g_coefficient_choices : mg "coefficient_choices" = some (.ref (He.ga K "coefficient_choices")) := He.glo_ok X G (c.fact 15 (f := .glo "coefficient_choices") rfl)
  obtain ⟨_, F_check_count⟩ : ∃ fd, FnP K "check_count" s_check_count (He.ga K "check_count") fd := c.def_ 16 (d := dF "check_count" s_check_count) rfl
  have g_check_count : mg "check_count" = some (.ref (He.ga K "check_count")) := He.glo_ok X G (c.fact 16 (f := .glo "check_count") rfl)
  obtain ⟨_, F_product_below⟩ : ∃ fd, FnP K "product_below" s_product_below (He.ga K "product_below") fd := c.def_ 17 (d := dF "product_below" s_product_below) rfl
  have g_product_below : mg "product_below" = some (.ref (He.ga K "product_below")) := He.glo_ok X G (c.fact 17 (f := .glo "product_below") rfl)
  obtain ⟨_, F_coefficients⟩ : ∃ fd, FnP K "coefficients" s_coefficients (He.ga K "coefficients") fd := c.def_ 18 (d := dF "coefficients" s_coefficients) rfl
  have g_coefficients : mg "coefficients" = some (.ref (He.ga K "coefficients")) := He.glo_ok X G (c.fact 18 (f := .glo "coefficients") rfl)
  obtain ⟨_, F_obstacle⟩ : ∃ fd, FnP K "obstacle" s_obstacle (He.ga K "obstacle") fd := c.def_ 19 (d := dF "obstacle" s_obstacle) rfl
  have g_obstacle : mg "obstacle" = some (.ref (He.ga K "obstacle")) := He.glo_ok X G (c.fact 19 (f := .glo "obstacle") rfl)
  obtain ⟨_, F_choices_of⟩ : ∃ fd, FnP K "choices_of" s_choices_of (He.ga K "choices_of") fd := c.def_ 20 (d := dF "choices_of" s_choices_of) rfl
  have g_choices_of : mg "choices_of" = some (.ref (He.ga K "choices_of")) := He.glo_ok X G (c.fact 20 (f := .glo "choices_of") rfl)
  obtain ⟨_, F_chart_number⟩ : ∃ fd, FnP K "chart_number" s_chart_number (He.ga K "chart_number") fd := c.def_ 21 (d := dF "chart_number" s_chart_number) rfl
  have g_chart_number : mg "chart_number" = some (.ref (He.ga K "chart_number")) := He.glo_ok X G (c.fact 21 (f := .glo "chart_number") rfl)
  obtain ⟨_, F_searched_entries⟩ : ∃ fd, FnP K "searched_entries" s_searched (He.ga K "searched_entries") fd := c.def_ 22 (d := dF "searched_entries" s_searched) rfl
  have g_searched_entries : mg "searched_entries" = some (.ref (He.ga K "searched_entries")) := He.glo_ok X G (c.fact 22 (f := .glo "searched_entries") rfl)
  obtain ⟨_, F_chart_by_row⟩ : ∃ fd, FnP K "chart_by_row" s_chart_by_row (He.ga K "chart_by_row") fd := c.def_ 23 (d := dF "chart_by_row" s_chart_by_row) rfl
  have g_chart_by_row : mg "chart_by_row" = some (.ref (He.ga K "chart_by_row")) := He.glo_ok X G (c.fact 23 (f := .glo "chart_by_row") rfl)
  obtain ⟨_, F_deciding_chart⟩ : ∃ fd, FnP K "deciding_chart" s_deciding_chart (He.ga K "deciding_chart") fd := c.def_ 24 (d := dF "deciding_chart" s_deciding_chart) rfl
  have g_deciding_chart : mg "deciding_chart" = some (.ref (He.ga K "deciding_chart")) := He.glo_ok X G (c.fact 24 (f := .glo "deciding_chart") rfl)
  obtain ⟨_, F_deciding_charts⟩ : ∃ fd, FnP K "deciding_charts" s_deciding_charts (He.ga K "deciding_charts") fd := c.def_ 25 (d := dF "deciding_charts" s_deciding_charts) rfl
  have g_deciding_charts : mg "deciding_charts" = some (.ref (He.ga K "deciding_charts")) := He.glo_ok X G (c.fact 25 (f := .glo "deciding_charts") rfl)
  obtain ⟨_, F__law_weight⟩ : ∃ fd, FnP K "_law_weight" s_lweight (He.ga K "_law_weight") fd := c.def_ 26 (d := dF "_law_weight" s_lweight) rfl
  have g__law_weight : mg "_law_weight" = some (.ref (He.ga K "_law_weight")) := He.glo_ok X G (c.fact 26 (f := .glo "_law_weight") rfl)
  obtain ⟨_, F__law_under⟩ : ∃ fd, FnP K "_law_under" s_lunder (He.ga K "_law_under") fd := c.def_ 27 (d := dF "_law_under" s_lunder) rfl
  have g__law_under : mg "_law_under" = some (.ref (He.ga K "_law_under")) := He.glo_ok X G (c.fact 27 (f := .glo "_law_under") rfl)
  obtain ⟨_, F__law_count⟩ : ∃ fd, FnP K "_law_count" s_lcount (He.ga K "_law_count") fd := c.def_ 28 (d := dF "_law_count" s_lcount) rfl
  have g__law_count : mg "_law_count" = some (.ref (He.ga K "_law_count")) := He.glo_ok X G (c.fact 28 (f := .glo "_law_count") rfl)
  obtain ⟨_, F__law_choices⟩ : ∃ fd, FnP K "_law_choices" s_lchoices (He.ga K "_law_choices") fd := c.def_ 29 (d := dF "_law_choices" s_lchoices) rfl
  have g__law_choices : mg "_law_choices" = some (.ref (He.ga K "_law_choices")) := He.glo_ok X G (c.fact 29 (f := .glo "_law_choices") rfl)
  obtain ⟨_, F__law_below⟩ : ∃ fd, FnP K "_law_below" s_lbelow (He.ga K "_law_below") fd := c.def_ 30 (d := dF "_law_below" s_lbelow) rfl
  have g__law_below : mg "_law_below" = some (.ref (He.ga K "_law_below")) := He.glo_ok X G (c.fact 30 (f := .glo "_law_below") rfl)
  obtain ⟨_, F__law_cyclic⟩ : ∃ fd, FnP K "_law_cyclic" s_lcyclic (He.ga K "_law_cyclic") fd := c.def_ 31 (d := dF "_law_cyclic" s_lcyclic) rfl
  have g__law_cyclic : mg "_law_cyclic" = some (.ref (He.ga K "_law_cyclic")) := He.glo_ok X G (c.fact 31 (f := .glo "_law_cyclic") rfl)
  obtain ⟨_, F__law_members_at⟩ : ∃ fd, FnP K "_law_members_at" s_lmembers_at (He.ga K "_law_members_at") fd := c.def_ 32 (d := dF "_law_members_at" s_lmembers_at) rfl
  have g__law_members_at : mg "_law_members_at" = some (.ref (He.ga K "_law_members_at")) := He.glo_ok X G (c.fact 32 (f := .glo "_law_members_at") rfl)
  obtain ⟨_, F__law_entries_at⟩ : ∃ fd, FnP K "_law_entries_at" s_lentries_at (He.ga K "_law_entries_at") fd := c.def_ 33 (d := dF "_law_entries_at" s_lentries_at) rfl
  have g__law_entries_at : mg "_law_entries_at" = some (.ref (He.ga K "_law_entries_at")) := He.glo_ok X G (c.fact 33 (f := .glo "_law_entries_at") rfl)
  obtain ⟨_, F__law_no_clash⟩ : ∃ fd, FnP K "_law_no_clash" s_lno_clash (He.ga K "_law_no_clash") fd := c.def_ 34 (d := dF "_law_no_clash" s_lno_clash) rfl
  have g__law_no_clash : mg "_law_no_clash" = some (.ref (He.ga K "_law_no_clash")) := He.glo_ok X G (c.fact 34 (f := .glo "_law_no_clash") rfl)
  obtain ⟨_, F__law_cell⟩ : ∃ fd, FnP K "_law_cell" s_lcell (He.ga K "_law_cell") fd := c.def_ 35 (d := dF "_law_cell" s_lcell) rfl
  have g__law_cell : mg "_law_cell" = some (.ref (He.ga K "_law_cell")) := He.glo_ok X G (c.fact 35 (f := .glo "_law_cell") rfl)
  obtain ⟨_, F__law_least⟩ : ∃ fd, FnP K "_law_least" s_lleast (He.ga K "_law_least") fd := c.def_ 36 (d := dF "_law_least" s_lleast) rfl
  have g__law_least : mg "_law_least" = some (.ref (He.ga K "_law_least")) := He.glo_ok X G (c.fact 36 (f := .glo "_law_least") rfl)
  obtain ⟨_, F__law_labels⟩ : ∃ fd, FnP K "_law_labels" s_llabels (He.ga K "_law_labels") fd := c.def_ 37 (d := dF "_law_labels" s_llabels) rfl
  have g__law_labels : mg "_law_labels" = some (.ref (He.ga K "_law_labels")) := He.glo_ok X G (c.fact 37 (f := .glo "_law_labels") rfl)
  obtain ⟨_, F__law_numbers⟩ : ∃ fd, FnP K "_law_numbers" s_lnumbers (He.ga K "_law_numbers") fd := c.def_ 38 (d := dF "_law_numbers" s_lnumbers) rfl
  have g__law_numbers : mg "_law_numbers" = some (.ref (He.ga K "_law_numbers")) := He.glo_ok X G (c.fact 38 (f := .glo "_law_numbers") rfl)
  obtain ⟨_, F__law_generators⟩ : ∃ fd, FnP K "_law_generators" s_lgens (He.ga K "_law_generators") fd := c.def_ 39 (d := dF "_law_generators" s_lgens) rfl
  have g__law_generators : mg "_law_generators" = some (.ref (He.ga K "_law_generators")) := He.glo_ok X G (c.fact 39 (f := .glo "_law_generators") rfl)
  obtain ⟨_, F__law_close⟩ : ∃ fd, FnP K "_law_close" s_lclose (He.ga K "_law_close") fd := c.def_ 40 (d := dF "_law_close" s_lclose) rfl
  have g__law_close : mg "_law_close" = some (.ref (He.ga K "_law_close")) := He.glo_ok X G (c.fact 40 (f := .glo "_law_close") rfl)
  obtain ⟨_, F__law_table⟩ : ∃ fd, FnP K "_law_table" s_ltable (He.ga K "_law_table") fd := c.def_ 41 (d := dF "_law_table" s_ltable) rfl
  have g__law_table : mg "_law_table" = some (.ref (He.ga K "_law_table")) := He.glo_ok X G (c.fact 41 (f := .glo "_law_table") rfl)
  obtain ⟨_, F__law_renumbered⟩ : ∃ fd, FnP K "_law_renumbered" s_lrenum (He.ga K "_law_renumbered") fd := c.def_ 42 (d := dF "_law_renumbered" s_lrenum) rfl
  have g__law_renumbered : mg "_law_renumbered" = some (.ref (He.ga K "_law_renumbered")) := He.glo_ok X G (c.fact 42 (f := .glo "_law_renumbered") rfl)
  obtain ⟨_, F__law_group⟩ : ∃ fd, FnP K "_law_group" s_lgroup (He.ga K "_law_group") fd := c.def_ 43 (d := dF "_law_group" s_lgroup) rfl
  have g__law_group : mg "_law_group" = some (.ref (He.ga K "_law_group")) := He.glo_ok X G (c.fact 43 (f := .glo "_law_group") rfl)
  obtain ⟨_, F__law_closed⟩ : ∃ fd, FnP K "_law_closed" s_lclosed (He.ga K "_law_closed") fd := c.def_ 44 (d := dF "_law_closed" s_lclosed) rfl
  have g__law_closed : mg "_law_closed" = some (.ref (He.ga K "_law_closed")) := He.glo_ok X G (c.fact 44 (f := .glo "_law_closed") rfl)
  obtain ⟨_, F__law_lower⟩ : ∃ fd, FnP K "_law_lower" s_llower (He.ga K "_law_lower") fd := c.def_ 45 (d := dF "_law_lower" s_llower) rfl
  have g__law_lower : mg "_law_lower" = some (.ref (He.ga K "_law_lower")) := He.glo_ok X G (c.fact 45 (f := .glo "_law_lower") rfl)
  obtain ⟨_, F__law_inputs⟩ : ∃ fd, FnP K "_law_inputs" s_linputs (He.ga K "_law_inputs") fd := c.def_ 46 (d := dF "_law_inputs" s_linputs) rfl
  have g__law_inputs : mg "_law_inputs" = some (.ref (He.ga K "_law_inputs")) := He.glo_ok X G (c.fact 46 (f := .glo "_law_inputs") rfl)
  obtain ⟨_, F__law_wide_shape⟩ : ∃ fd, FnP K "_law_wide_shape" s_lwide (He.ga K "_law_wide_shape") fd := c.def_ 47 (d := dF "_law_wide_shape" s_lwide) rfl
  have g__law_wide_shape : mg "_law_wide_shape" = some (.ref (He.ga K "_law_wide_shape")) := He.glo_ok X G (c.fact 47 (f := .glo "_law_wide_shape") rfl)
  obtain ⟨_, F__law_world⟩ : ∃ fd, FnP K "_law_world" s_lworld (He.ga K "_law_world") fd := c.def_ 48 (d := dF "_law_world" s_lworld) rfl
  have g__law_world : mg "_law_world" = some (.ref (He.ga K "_law_world")) := He.glo_ok X G (c.fact 48 (f := .glo "_law_world") rfl)
  obtain ⟨_, F__law_told_labels⟩ : ∃ fd, FnP K "_law_told_labels" s_ltold (He.ga K "_law_told_labels") fd := c.def_ 49 (d := dF "_law_told_labels" s_ltold) rfl
  have g__law_told_labels : mg "_law_told_labels" = some (.ref (He.ga K "_law_told_labels")) := He.glo_ok X G (c.fact 49 (f := .glo "_law_told_labels") rfl)
  obtain ⟨_, F__law_same⟩ : ∃ fd, FnP K "_law_same" s_lsame (He.ga K "_law_same") fd := c.def_ 50 (d := dF "_law_same" s_lsame) rfl
  have g__law_same : mg "_law_same" = some (.ref (He.ga K "_law_same")) := He.glo_ok X G (c.fact 50 (f := .glo "_law_same") rfl)
  obtain ⟨_, F__law_is_chart⟩ : ∃ fd, FnP K "_law_is_chart" s_lis_chart (He.ga K "_law_is_chart") fd := c.def_ 51 (d := dF "_law_is_chart" s_lis_chart) rfl
  have g__law_is_chart : mg "_law_is_chart" = some (.ref (He.ga K "_law_is_chart")) := He.glo_ok X G (c.fact 51 (f := .glo "_law_is_chart") rfl)
  obtain ⟨_, F__law_least_is⟩ : ∃ fd, FnP K "_law_least_is" s_lleast_is (He.ga K "_law_least_is") fd := c.def_ 52 (d := dF "_law_least_is" s_lleast_is) rfl
  have g__law_least_is : mg "_law_least_is" = some (.ref (He.ga K "_law_least_is")) := He.glo_ok X G (c.fact 52 (f := .glo "_law_least_is") rfl)
  obtain ⟨_, F__law_yielded_are⟩ : ∃ fd, FnP K "_law_yielded_are" s_lyielded (He.ga K "_law_yielded_are") fd := c.def_ 53 (d := dF "_law_yielded_are" s_lyielded) rfl
  have g__law_yielded_are : mg "_law_yielded_are" = some (.ref (He.ga K "_law_yielded_are")) := He.glo_ok X G (c.fact 53 (f := .glo "_law_yielded_are") rfl)
  obtain ⟨_, F__law_other_group_is⟩ : ∃ fd, FnP K "_law_other_group_is" s_lother (He.ga K "_law_other_group_is") fd := c.def_ 54 (d := dF "_law_other_group_is" s_lother) rfl
  have g__law_other_group_is : mg "_law_other_group_is" = some (.ref (He.ga K "_law_other_group_is")) := He.glo_ok X G (c.fact 54 (f := .glo "_law_other_group_is") rfl)
  obtain ⟨_, F__law_raises⟩ : ∃ fd, FnP K "_law_raises" s_lraises (He.ga K "_law_raises") fd := c.def_ 55 (d := dF "_law_raises" s_lraises) rfl
  have g__law_raises : mg "_law_raises" = some (.ref (He.ga K "_law_raises")) := He.glo_ok X G (c.fact 55 (f := .glo "_law_raises") rfl)
  obtain ⟨_, F__law_refusals_are⟩ : ∃ fd, FnP K "_law_refusals_are" s_lrefuse (He.ga K "_law_refusals_are") fd := c.def_ 56 (d := dF "_law_refusals_are" s_lrefuse) rfl
  have g__law_refusals_are : mg "_law_refusals_are" = some (.ref (He.ga K "_law_refusals_are")) := He.glo_ok X G (c.fact 56 (f := .glo "_law_refusals_are") rfl)
  obtain ⟨_, F__law_large_is⟩ : ∃ fd, FnP K "_law_large_is" s_llarge (He.ga K "_law_large_is") fd := c.def_ 57 (d := dF "_law_large_is" s_llarge) rfl
  have g__law_large_is : mg "_law_large_is" = some (.ref (He.ga K "_law_large_is")) := He.glo_ok X G (c.fact 57 (f := .glo "_law_large_is") rfl)
  obtain ⟨_, F_Group⟩ : ∃ fd, FunD K "__init__" "Group.__init__" (defArgs s_Group_init) (defBody s_Group_init) (defScope s_Group_init) [] [] (He.ma K (He.ga K "Group") "__init__") fd := c.def_ 59 (d := dM "Group" "__init__" "Group.__init__" s_Group_init) rfl
  have g_Group : mg "Group" = some (.ref (He.ga K "Group")) := He.glo_ok X G (c.fact 59 (f := .glo "Group") rfl)
  have mk_G := He.mkr_ok (c.fact 86 (f := .mkr "Group") rfl)
  obtain ⟨_, F_Chart⟩ : ∃ fd, FunD K "__init__" "Chart.__init__" (defArgs s_Chart_init) (defBody s_Chart_init) (defScope s_Chart_init) [] [] (He.ma K (He.ga K "Chart") "__init__") fd := c.def_ 60 (d := dM "Chart" "__init__" "Chart.__init__" s_Chart_init) rfl
  have g_Chart : mg "Chart" = some (.ref (He.ga K "Chart")) := He.glo_ok X G (c.fact 60 (f := .glo "Chart") rfl)
  have mk_C := He.mkr_ok (c.fact 88 (f := .mkr "Chart") rfl)
  obtain ⟨_, F_check⟩ : ∃ fd, MthP K "check" "Group.check" s_check (He.ma K (He.ga K "Group") "check") fd := c.def_ 61 (d := dM "Group" "check" "Group.check" s_check) rfl
  have m_check := He.meth_ok (c.fact 95 (f := .meth "Group" "check") rfl)
  obtain ⟨_, F_commutator⟩ : ∃ fd, MthP K "commutator" "Group.commutator" s_commutator (He.ma K (He.ga K "Group") "commutator") fd := c.def_ 62 (d := dM "Group" "commutator" "Group.commutator" s_commutator) rfl
  have m_commutator := He.meth_ok (c.fact 96 (f := .meth "Group" "commutator") rfl)
  have De_weight : DefOk P w K mg base "weight" 1 R_weight := ok_weight T F_weight g_weight
  have De_check_shape : DefOk P w K mg base "check_shape" 1 (R_check_shape (He.ga K "BadShape")) := ok_check_shape (k := 0) T e_BadShape F_check_shape g_check_shape
  have De_lies_under : DefOk P w K mg base "lies_under" 1 R_lies_under := ok_lies_under (k := 0) T F_lies_under g_lies_under
  have De_count_inputs : DefOk P w K mg base "count_inputs" 1 R_count_inputs := ok_count_inputs (k := 0) T F_count_inputs g_count_inputs
  have De_check_table : DefOk P w K mg base "check_table" 2 (R_check_table (He.ga K "BadShape") (He.ga K "BadTable")) := ok_check_table (k := 0) T e_BadTable (De_check_shape.up (by decide)) (De_count_inputs.up (by decide)) F_check_table g_check_table
  have De_light_inputs : DefOk P w K mg base "light_inputs" 5 R_light_inputs := ok_light_inputs (k := 0) T TB (De_check_shape.up (by decide)) (De_weight.up (by decide)) F_light_inputs rfl g_light_inputs
  have De_inputs_of : DefOk P w K mg base "inputs_of" 6 R_inputs_of := ok_inputs_of (k := 5) T (De_light_inputs.up (by decide)) F_inputs_of g_inputs_of
  have De_reached : DefOk P w K mg base "reached" 1 R_reached := ok_reached (k := 0) T F_reached g_reached
  have De_generating_members : DefOk P w K mg base "generating_members" 2 R_generating_members := ok_generating_members (k := 1) T (De_reached.up (by decide)) F_generating_members g_generating_members
  have De_is_associative : DefOk P w K mg base "is_associative" 3 R_is_associative := ok_is_associative (k := 2) T (De_generating_members.up (by decide)) F_is_associative g_is_associative
  have De_table_fault : DefOk P w K mg base "table_fault" 4 R_table_fault := ok_table_fault (k := 3) T (De_is_associative.up (by decide)) F_table_fault g_table_fault
  have Ma_Group : MakeOk P w K mg base "Group" (He.ga K "Group") 5 R_Group := ok_Group_init (k := 4) T cG (De_table_fault.up (by decide)) F_Group g_Group mk_G
  have Me_check : MethOk P w K mg base (He.ga K "Group") "check" 1 (R_check (He.ga K "Group")) := ok_check (k := 0) T cG F_check m_check
  have Me_commutator : MethOk P w K mg base (He.ga K "Group") "commutator" 2 (R_commutator (He.ga K "Group")) := ok_commutator (k := 1) T cG (Me_check.up (by decide)) F_commutator m_commutator
  have De_generated : DefOk P w K mg base "generated" 2 (R_generated (He.ga K "Group")) := ok_generated (k := 1) T cG (Me_check.up (by decide)) (De_reached.up (by decide)) F_generated g_generated
  have De_commutator_subgroup : DefOk P w K mg base "commutator_subgroup" 3 (R_commutator_subgroup (He.ga K "Group")) := ok_commutator_subgroup (k := 2) T cG (Me_check.up (by decide)) (Me_commutator.up (by decide)) (De_generated.up (by decide)) F_commutator_subgroup g_commutator_subgroup
  have De_lower_row : DefOk P w K mg base "lower_row" 4 (R_lower_row (He.ga K "Group")) := ok_lower_row (k := 3) T cG (De_commutator_subgroup.up (by decide)) F_lower_row g_lower_row
  have De_subgroup_at : DefOk P w K mg base "subgroup_at" 1 R_subgroup_at := ok_subgroup_at (k := 0) T F_subgroup_at g_subgroup_at
  have De_coefficient_choices : DefOk P w K mg base "coefficient_choices" 2 R_coefficient_choices := ok_coefficient_choices (k := 1) T (De_subgroup_at.up (by decide)) (De_weight.up (by decide)) F_coefficient_choices g_coefficient_choices
  have De_check_count : DefOk P w K mg base "check_count" 1 (R_check_count (He.ga K "TooLarge")) := ok_check_count (k := 0) T e_TooLarge F_check_count g_check_count
  have De_product_below : DefOk P w K mg base "product_below" 2 (R_product_below (He.ga K "Group")) := ok_product_below (k := 1) T cG (De_lies_under.up (by decide)) F_product_below g_product_below
  have Ma_Chart : MakeOk P w K mg base "Chart" (He.ga K "Chart") 2 (R_Chart (He.ga K "Group")) := ok_Chart_init (k := 1) T cC cG (De_check_shape.up (by decide)) (De_count_inputs.up (by decide)) (Me_check.up (by decide)) F_Chart g_Chart mk_C
  have De_coefficients : DefOk P w K mg base "coefficients" 7 (R_coefficients (He.ga K "Chart") (He.ga K "Group")) := ok_coefficients (k := 6) T cC cG (De_inputs_of.up (by decide)) (De_product_below.up (by decide)) F_coefficients g_coefficients
  have De_obstacle : DefOk P w K mg base "obstacle" 8 (R_obstacle (He.ga K "Chart") (He.ga K "Group")) := ok_obstacle (k := 7) T cC cG (De_inputs_of.up (by decide)) (De_coefficients.up (by decide)) (De_lower_row.up (by decide)) (De_subgroup_at.up (by decide)) (De_weight.up (by decide)) F_obstacle g_obstacle
  have De_choices_of : DefOk P w K mg base "choices_of" 7 (R_choices_of (He.ga K "Group")) := ok_choices_of (k := 6) T cG (De_inputs_of.up (by decide)) (De_lower_row.up (by decide)) (De_subgroup_at.up (by decide)) (De_weight.up (by decide)) F_choices_of g_choices_of
  have De_chart_number : DefOk P w K mg base "chart_number" 9 (R_chart_number (He.ga K "Chart") (He.ga K "Group")) := ok_chart_number (k := 8) T cC cG (De_obstacle.up (by decide)) (De_coefficients.up (by decide)) (De_choices_of.up (by decide)) F_chart_number g_chart_number
  have Ge_searched_entries : GL.GenOk P w K mg base "searched_entries" 4 (R_searched (He.ga K "Group")) := ok_searched (k := 4) T cG (De_lies_under.up (by decide)) F_searched_entries g_searched_entries
  have De_chart_by_row : DefOk P w K mg base "chart_by_row" 7 (R_chart_by_row (He.ga K "Chart") (He.ga K "Group") (He.ga K "TooLarge")) := ok_chart_by_row (k := 5) T (Ma_Chart.up (by decide)) (De_inputs_of.up (by decide)) (De_coefficient_choices.up (by decide)) (De_check_count.up (by decide)) (by decide) Ge_searched_entries F_chart_by_row g_chart_by_row
  have De_deciding_chart : DefOk P w K mg base "deciding_chart" 8 (R_deciding_chart (He.ga K "Chart") (He.ga K "Group") (He.ga K "BadShape") (He.ga K "BadTable") (He.ga K "TooLarge")) := ok_deciding_chart (k := 7) T (De_check_table.up (by decide)) (De_lower_row.up (by decide)) (De_chart_by_row.up (by decide)) F_deciding_chart g_deciding_chart
  have Ge_deciding_charts : GL.GenOk P w K mg base "deciding_charts" 6 (R_deciding_charts (He.ga K "Chart") (He.ga K "Group") (He.ga K "BadShape") (He.ga K "BadTable") (He.ga K "TooLarge")) := ok_deciding_charts (k := 6) T Ma_Chart (by decide) (De_check_table.up (by decide)) (De_lower_row.up (by decide)) (De_inputs_of.up (by decide)) (De_coefficient_choices.up (by decide)) (De_check_count.up (by decide)) Ge_searched_entries (by decide) F_deciding_charts g_deciding_charts
  have De__law_weight : DefOk P w K mg base "_law_weight" 1 R_weight := ok_lweight (k := 0) T F__law_weight g__law_weight
  have De__law_under : DefOk P w K mg base "_law_under" 1 R_lunder := ok_lunder (k := 0) T F__law_under g__law_under
  have De__law_count : DefOk P w K mg base "_law_count" 1 R_lcount := ok_lcount (k := 0) T F__law_count g__law_count
  have De__law_choices : DefOk P w K mg base "_law_choices" 2 R_lchoices := ok_lchoices (k := 1) T (De__law_weight.up (by decide)) F__law_choices g__law_choices
  have De__law_below : DefOk P w K mg base "_law_below" 2 R_lbelow := ok_lbelow (k := 1) T (De__law_under.up (by decide)) F__law_below g__law_below
  have De__law_cyclic : DefOk P w K mg base "_law_cyclic" 1 R_lcyclic := ok_lcyclic (k := 0) T F__law_cyclic g__law_cyclic
  have De__law_members_at : DefOk P w K mg base "_law_members_at" 1 R_lmembers_at := ok_lmembers_at (k := 0) T F__law_members_at g__law_members_at
  have De__law_entries_at : DefOk P w K mg base "_law_entries_at" 2 R_lentries_at := ok_lentries_at (k := 1) T (De__law_members_at.up (by decide)) F__law_entries_at g__law_entries_at
  have De__law_no_clash : DefOk P w K mg base "_law_no_clash" 1 R_lno_clash := ok_lno_clash (k := 0) T F__law_no_clash g__law_no_clash
  have De__law_cell : DefOk P w K mg base "_law_cell" 1 R_lcell := ok_lcell (k := 0) T F__law_cell g__law_cell
  have De__law_least : DefOk P w K mg base "_law_least" 1 R_lleast := ok_lleast (k := 0) T F__law_least g__law_least
  have De__law_labels : DefOk P w K mg base "_law_labels" 1 R_llabels := ok_llabels (k := 0) T F__law_labels g__law_labels
  have De__law_numbers : DefOk P w K mg base "_law_numbers" 1 R_lnumbers := ok_lnumbers (k := 0) T F__law_numbers g__law_numbers
  have De__law_generators : DefOk P w K mg base "_law_generators" 1 R_lgens := ok_lgens (k := 0) T F__law_generators g__law_generators
  have De__law_close : DefOk P w K mg base "_law_close" 1 R_lclose := ok_lclose (k := 0) T F__law_close g__law_close
  have De__law_table : DefOk P w K mg base "_law_table" 1 R_ltable := ok_ltable (k := 0) T F__law_table g__law_table
  have De__law_renumbered : DefOk P w K mg base "_law_renumbered" 1 R_lrenum := ok_lrenum (k := 0) T F__law_renumbered g__law_renumbered
  have De__law_group : DefOk P w K mg base "_law_group" 2 R_lgroup := ok_lgroup (k := 1) T (De__law_numbers.up (by decide)) (De__law_table.up (by decide)) (De__law_close.up (by decide)) (De__law_generators.up (by decide)) (De__law_renumbered.up (by decide)) F__law_group g__law_group
  have De__law_closed : DefOk P w K mg base "_law_closed" 1 R_lclosed := ok_lclosed (k := 0) T F__law_closed g__law_closed
  have De__law_lower : DefOk P w K mg base "_law_lower" 2 R_llower := ok_llower (k := 1) T (De__law_closed.up (by decide)) F__law_lower g__law_lower
  have De__law_inputs : DefOk P w K mg base "_law_inputs" 5 R_linputs := ok_linputs (k := 0) T TB (De__law_weight.up (by decide)) F__law_inputs rfl g__law_inputs
  have De__law_wide_shape : DefOk P w K mg base "_law_wide_shape" 1 R_lwide := ok_lwide (k := 0) T F__law_wide_shape g__law_wide_shape
  have De__law_world : DefOk P w K mg base "_law_world" 6 R_lworld := ok_lworld (k := 5) T (De__law_group.up (by decide)) (De__law_wide_shape.up (by decide)) (De__law_numbers.up (by decide)) (De__law_cyclic.up (by decide)) (De__law_lower.up (by decide)) (De__law_count.up (by decide)) (De__law_choices.up (by decide)) (De__law_inputs.up (by decide)) F__law_world g__law_world
  have De__law_told_labels : DefOk P w K mg base "_law_told_labels" 3 R_ltold := ok_ltold (k := 2) T (De__law_labels.up (by decide)) (De__law_entries_at.up (by decide)) (De__law_count.up (by decide)) F__law_told_labels g__law_told_labels
  have De__law_same : DefOk P w K mg base "_law_same" 1 R_lsameI := ok_lsameI (k := 0) T F__law_same g__law_same
  have De__law_sameT : DefOk P w K mg base "_law_same" 2 R_lsameT := ok_lsameT (k := 1) T (De__law_same.up (by decide)) F__law_same g__law_same
  have De__law_is_chart : DefOk P w K mg base "_law_is_chart" 3 (R_lis_chart (He.ga K "Chart") (He.ga K "Group")) := ok_lis_chart (k := 2) T cC cG (De__law_sameT.up (by decide)) F__law_is_chart g__law_is_chart
  have De__law_least_is : DefOk P w K mg base "_law_least_is" 9 (R_lleast_is (He.ga K "Chart") (He.ga K "Group") (He.ga K "BadShape") (He.ga K "BadTable") (He.ga K "TooLarge")) := ok_lleast_is (k := 8) T (De_deciding_chart.up (by decide)) (De__law_is_chart.up (by decide)) F__law_least_is g__law_least_is
  have De__law_yielded_are : DefOk P w K mg base "_law_yielded_are" 10 (R_lyielded (He.ga K "Chart") (He.ga K "Group") (He.ga K "BadShape") (He.ga K "BadTable") (He.ga K "TooLarge")) := ok_lyielded (k := 9) T Ge_deciding_charts (by decide) (De__law_is_chart.up (by decide)) (De__law_same.up (by decide)) (De_chart_number.up (by decide)) (De__law_least_is.up (by decide)) F__law_yielded_are g__law_yielded_are
  have De__law_other_group_is : DefOk P w K mg base "_law_other_group_is" 10 R_lother := ok_lother (k := 9) T Ma_Group (by decide) (De__law_cyclic.up (by decide)) (De__law_lower.up (by decide)) (De__law_inputs.up (by decide)) (De__law_choices.up (by decide)) (De__law_below.up (by decide)) (De__law_count.up (by decide)) (De__law_entries_at.up (by decide)) (De__law_no_clash.up (by decide)) (De__law_least_is.up (by decide)) F__law_other_group_is g__law_other_group_is
  have De__law_raises : DefOk P w K mg base "_law_raises" 9 (R_lraises (He.ga K "Chart") (He.ga K "Group") (He.ga K "BadShape") (He.ga K "BadTable") (He.ga K "TooLarge")) := ok_lraises (k := 8) T Ct (De_deciding_chart.up (by decide)) Ge_deciding_charts (by decide) F__law_raises g__law_raises
  have De__law_refusals_are : DefOk P w K mg base "_law_refusals_are" 10 (R_lrefuse (He.ga K "Group")) := ok_lrefuse (k := 9) T (De__law_raises.up (by decide)) F__law_refusals_are g__law_refusals_are
  have De__law_large_is : DefOk P w K mg base "_law_large_is" 11 R_llarge := ok_llarge (k := 10) T Ma_Group (by decide) (De__law_cyclic.up (by decide)) (De__law_group.up (by decide)) (De__law_lower.up (by decide)) (De__law_labels.up (by decide)) (De__law_inputs.up (by decide)) (De__law_refusals_are.up (by decide)) (De__law_raises.up (by decide)) (De__law_least_is.up (by decide)) (De__law_least.up (by decide)) F__law_large_is g__law_large_is
  exact ok_law (k := 11) T Ma_Group (by decide) (De__law_numbers.up (by decide)) (De__law_cell.up (by decide)) (De__law_large_is.up (by decide)) (De__law_world.up (by decide)) (De__law_inputs.up (by decide)) (De__law_choices.up (by decide)) (De__law_below.up (by decide)) (De__law_told_labels.up (by decide)) (De__law_entries_at.up (by decide)) (De__law_count.up (by decide)) (De__law_no_clash.up (by decide)) (De__law_least.up (by decide)) (De__law_least_is.up (by decide)) (De__law_yielded_are.up (by decide)) (De__law_refusals_are.up (by decide)) (De__law_other_group_is.up (by decide)) F_law
/-- what stands at the entry answers the promise -/
theorem at_entry {H : Hp} {a : Addr} {ns : List Int} (hT : ∀ p ∈ tfs.map (He.cT K), H p.2 = some (.tbl #[])) (hS : SqL K H a (ns.map V.int)) : spR K R_law [.ref a] H (fun v _ => v = .bl true) fun _ _ _ => False := by
  refine ⟨fun b => match H b with | some (.tbl _) => none | o => o, [.scr ns], .ok (.bl true), ⟨ns, rfl, rfl⟩, fun b o e => ?_, fun b ps e => ?_, fun p hp => ?_, .cons (.scr ?_) .nil, fun d e v Z' H' _ r => ?_, fun C e => nomatch e⟩
  · cases q : H b with
    | none => simp only [q] at e; cases e
    | some u => cases u <;> simp only [q] at e <;> first | exact e | cases e
  · cases q : H b with
    | none => simp only [q] at e; cases e
    | some u => cases u <;> simp only [q] at e <;> cases e
  · have key : ∀ q ∈ tfs, ∀ nm : Str, LamX.TabS H (He.cT K q).2 nm := fun q hq nm => ⟨#[], hT _ (List.mem_map.mpr ⟨q, hq, rfl⟩), trivial, fun _ _ z => nomatch z⟩
    rcases List.mem_cons.mp hp with e | hp
    · rw [e]
      exact key lightKey (by decide) _
    · rcases List.mem_cons.mp hp with e | hp
      · rw [e]
        exact key lawKey (by decide) _
      · cases hp
  · rcases hS with (e | ⟨o, e⟩) | e
    · exact .inl (.inl (by simp only [e]))
    · exact .inl (.inr ⟨o, by simp only [e]⟩)
    · exact .inr e
  · cases e
    cases r
    rfl
end
end DL
open PySem PySem.W PySem.Calls PyProof.Rows
theorem PySem.Challenge.cw_chosenmoves_k66_whole_least_deciding_cha_holds : PySem.Challenge.rw_chosenmoves_k66_whole_least_deciding_cha.Holds := by
  w_on; o_law
  refine HandSHeadRun.head_any (r := DL.Ro) (q := DL.qv) (H := DL.hk) (ob := DL.ob) (M := 20000) (loose := DL.names) (d := HandSHeadRun.topDef DL.Ro.prog 88) (kwd := []) DL.ob_eq
    (by kernel_rfl) (fun s => by kernel_rfl) DL.run (by kernel_rfl) (by kernel_rfl) (by kernel_rfl) (by rfl) (by first | assumption | decide +kernel) (by decide +kernel) ⟨rfl, rfl, rfl, rfl, rfl, by decide +kernel⟩ ?hw ?hc
  case hw => w_witness2
  case hc =>
    refine LamX.walk_ofTsE (l := PySem.Challenge.rw_chosenmoves_k66_whole_least_deciding_cha) (n := 63) (k := 12) (x := "_law_script") (CX := fun w => L2.CX PySem.Challenge.rw_chosenmoves_k66_whole_least_deciding_cha.prog w) rfl (by decide) (by kernel_rfl) ⟨rfl, by decide, by decide⟩ ?F (fun w H s e s' ⟨_, _, _, _, _, _, _, _, _, _, _, _, z⟩ => z)
    intro w mg fa h Y G hmg0
    obtain ⟨K, KX, c⟩ := Y
    have hmg : mg ("law" : PySem.Str) = some (.ref fa) := by
      have e : (HandSHeadRun.topDef DL.Ro.prog 88).name = ("law" : PySem.Str) := by kernel_rfl
      rw [← e]
      exact hmg0
    have cd := c.d
    obtain ⟨fd, F⟩ : ∃ fd, DL.FnP K "law" DL.s_law (He.ga K "law") fd := cd.def_ 58 (d := DL.dF "law" DL.s_law) rfl
    have ef := hmg.symm.trans (He.glo_ok KX G (cd.fact 58 (f := .glo "law") rfl))
    cases ef
    have b := L2.FunD.bindsA (ps := ["_law_script"]) F fun _ _ _ _ _ _ us hl => match us, hl with | [_], _ => rfl
    refine ⟨K, KX, fd, DL.tfs.map (He.cT K), DL.spR K DL.R_law, fun p hp => ?_, fun p hp => ?_, fun p hp => ?_, fun s v => b s [v] rfl, fun H a ns _ _ hT hS => DL.at_entry hT hS, fun base Xb Gb TB => ?_⟩
    · obtain ⟨q, hq, rfl⟩ := List.mem_map.mp hp
      exact c.emp q hq
    · obtain ⟨q, hq, rfl⟩ := List.mem_map.mp hp
      exact c.out q hq
    · obtain ⟨q, hq, rfl⟩ := List.mem_map.mp hp
      exact PySem.W.codeHd_of_K KX (c.hd q hq)
    · refine DL.chain Xb Gb cd c.more F ⟨TB _ (List.mem_map.mpr ⟨DL.lightKey, by decide, rfl⟩), TB _ (List.mem_map.mpr ⟨DL.lawKey, by decide, rfl⟩), ?_⟩
      obtain ⟨_, e⟩ := He.ba c.more
      obtain ⟨_, e⟩ := He.ba e
      obtain ⟨_, e⟩ := He.ba e
      intro z
      rw [decide_eq_true z] at e
      cases e
