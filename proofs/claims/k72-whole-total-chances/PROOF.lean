import PyProof.Rows.All
import HandS.ForMost
import HandS.Deep
import HandS.Wide
import HandS.Gcd
import HandS.IsInst
import HandS.TupAny
import HandS.SortInts
import HandS.Style
import PyProof.ReprRoads
import HandS.Zip
import HandS.Conv
import KE.SortData
import KE.KRevSl
import HandS.Strs
import HandS.SetBool
import HandS.SetIn
import KE.KSetDisp
import HandS.HeadHook2
import HandS.Flow
import HandS.Defaults
import HandS.Head0
import HandS.Head1
import HandS.Head2
import HandS.Head3
import HandS.HeadHook1
import HandS.HeadHook3
import HandS.HeadHook4
import PySem.Challenge.RW_oddkeep_k72_whole_total_chances
import Wide.Walk
import OpenK.KPick
import PyProof.ReprLen
import PyProof.Rows.StrIntSpec
set_option Elab.async false
set_option linter.all false
set_option maxRecDepth 100000
set_option autoImplicit false
set_option maxHeartbeats 0
namespace DK
open PySem PySem.Spec PyProof.Rows L2
abbrev PD := PyData
abbrev Sg := L2.St
/-! ## data in the abstract heap -/
mutual
def Rep (K : PySem.W.Frag) (H : Hp) : PD → V → Prop
  | .none, v => v = .non
  | .bool b, v => v = .bl b
  | .int i, v => v = .int i
  | .str x, v => v = .str x
  | .list ds, v => ∃ a vs, v = .ref a ∧ H a = some (.lst vs) ∧ RepL K H ds vs
  | .tuple ds, v => ∃ a vs, v = .ref a ∧ SqT K H a vs ∧ RepL K H ds vs
  | .dict _, _ => False
def RepL (K : PySem.W.Frag) (H : Hp) : List PD → List V → Prop
  | [], vs => vs = []
  | d :: ds, vs => ∃ v r, vs = v :: r ∧ Rep K H d v ∧ RepL K H ds r
end
section
variable {K : PySem.W.Frag} {H H' G : Hp}
theorem sqT_mono {a : Addr} {xs : List V} (e : Same H H') (h : SqT K H a xs) : SqT K H' a xs := by
  rcases h with (h | ⟨o, h⟩) | h
  · exact .inl (.inl (e _ _ h))
  · exact .inl (.inr ⟨o, e _ _ h⟩)
  · exact .inr h
mutual
theorem Rep.mono (e : Same H H') : ∀ (d : PD) (v : V), Rep K H d v → Rep K H' d v
  | .none, _, h => h
  | .bool _, _, h => h
  | .int _, _, h => h
  | .str _, _, h => h
  | .list ds, v, h => by
    obtain ⟨a, vs, h1, h2, h3⟩ := h
    exact ⟨a, vs, h1, e _ _ h2, RepL.mono e ds vs h3⟩
  | .tuple ds, v, h => by
    obtain ⟨a, vs, h1, h2, h3⟩ := h
    exact ⟨a, vs, h1, sqT_mono e h2, RepL.mono e ds vs h3⟩
  | .dict _, _, h => h.elim
theorem RepL.mono (e : Same H H') : ∀ (ds : List PD) (vs : List V), RepL K H ds vs → RepL K H' ds vs
  | [], _, h => h
  | d :: ds, vs, h => by
    obtain ⟨v, r, h1, h2, h3⟩ := h
    exact ⟨v, r, h1, Rep.mono e d v h2, RepL.mono e ds r h3⟩
end
mutual
theorem Rep.dp : ∀ (d : PD) (v : V), Rep K H d v → Dp K H v d
  | .none, v, h => by cases (show v = .non from h); exact .non
  | .bool b, v, h => by cases (show v = .bl b from h); exact .bl b
  | .int i, v, h => by cases (show v = .int i from h); exact .int i
  | .str x, v, h => by cases (show v = .str x from h); exact .str x
  | .list ds, v, h => by
    obtain ⟨a, vs, h1, h2, h3⟩ := h
    subst h1
    exact .lst (SqL.of h2) (RepL.dp ds vs h3)
  | .tuple ds, v, h => by
    obtain ⟨a, vs, h1, h2, h3⟩ := h
    subst h1
    exact .tup h2 (RepL.dp ds vs h3)
  | .dict _, _, h => h.elim
theorem RepL.dp : ∀ (ds : List PD) (vs : List V), RepL K H ds vs → DpAll K H vs ds
  | [], vs, h => by cases (show vs = [] from h); exact .nil
  | d :: ds, vs, h => by
    obtain ⟨v, r, h1, h2, h3⟩ := h
    subst h1
    exact .cons (Rep.dp d v h2) (RepL.dp ds r h3)
end
theorem RepL.length : ∀ {ds : List PD} {vs : List V}, RepL K H ds vs → vs.length = ds.length
  | [], _, h => by cases (show _ = _ from h); rfl
  | d :: ds, vs, h => by
    obtain ⟨v, r, h1, _, h3⟩ := h
    subst h1
    simp [RepL.length h3]
theorem RepL.get : ∀ {ds : List PD} {vs : List V} {i : Nat} {v : V}, RepL K H ds vs → vs[i]? = some v → ∃ d, ds[i]? = some d ∧ Rep K H d v
  | [], vs, i, v, h, e => by
    cases (show vs = [] from h)
    simp at e
  | d :: ds, vs, 0, v, h, e => by
    obtain ⟨w, r, h1, h2, _⟩ := h
    subst h1
    simp at e
    subst e
    exact ⟨d, by simp, h2⟩
  | d :: ds, vs, i + 1, v, h, e => by
    obtain ⟨w, r, h1, _, h3⟩ := h
    subst h1
    obtain ⟨d', q1, q2⟩ := RepL.get (i := i) (v := v) h3 (by simpa using e)
    exact ⟨d', by simpa using q1, q2⟩
theorem RepL.getD : ∀ {ds : List PD} {vs : List V} {i : Nat} {d : PD}, RepL K H ds vs → ds[i]? = some d → ∃ v, vs[i]? = some v ∧ Rep K H d v := by
  intro ds vs i d h e
  have hl := h.length
  have hi : i < vs.length := by rw [hl]; exact (List.getElem?_eq_some_iff.mp e).1
  obtain ⟨d', q1, q2⟩ := h.get (List.getElem?_eq_getElem hi)
  rw [e] at q1
  cases q1
  exact ⟨_, List.getElem?_eq_getElem hi, q2⟩
theorem RepL.append : ∀ {ds es : List PD} {vs ws : List V}, RepL K H ds vs → RepL K H es ws → RepL K H (ds ++ es) (vs ++ ws)
  | [], _, vs, _, h, h' => by
    cases (show vs = [] from h)
    exact h'
  | d :: ds, es, vs, ws, h, h' => by
    obtain ⟨v, r, h1, h2, h3⟩ := h
    subst h1
    exact ⟨v, r ++ ws, rfl, h2, RepL.append h3 h'⟩
theorem RepL.one {d : PD} {v : V} (h : Rep K H d v) : RepL K H [d] [v] := ⟨v, [], rfl, h, rfl⟩
theorem RepL.set : ∀ {ds : List PD} {vs : List V} {d : PD} {v : V} (i : Nat), RepL K H ds vs → Rep K H d v → RepL K H (ds.set i d) (vs.set i v)
  | [], vs, _, _, i, h, _ => by
    cases (show vs = [] from h)
    exact rfl
  | e :: ds, vs, d, v, 0, h, hd => by
    obtain ⟨w, r, h1, _, h3⟩ := h
    subst h1
    exact ⟨v, r, rfl, hd, h3⟩
  | e :: ds, vs, d, v, i + 1, h, hd => by
    obtain ⟨w, r, h1, h2, h3⟩ := h
    subst h1
    exact ⟨w, r.set i v, rfl, h2, RepL.set i h3 hd⟩
theorem RepL.take : ∀ {ds : List PD} {vs : List V} (i : Nat), RepL K H ds vs → RepL K H (ds.take i) (vs.take i)
  | _, _, 0, _ => rfl
  | [], vs, i + 1, h => by cases (show vs = [] from h); exact rfl
  | d :: ds, vs, i + 1, h => by
    obtain ⟨w, r, h1, h2, h3⟩ := h
    subst h1
    exact ⟨w, r.take i, rfl, h2, RepL.take i h3⟩
theorem RepL.drop : ∀ {ds : List PD} {vs : List V} (i : Nat), RepL K H ds vs → RepL K H (ds.drop i) (vs.drop i)
  | _, _, 0, h => h
  | [], vs, i + 1, h => by cases (show vs = [] from h); exact rfl
  | d :: ds, vs, i + 1, h => by
    obtain ⟨w, r, h1, _, h3⟩ := h
    subst h1
    exact RepL.drop i h3
theorem RepL.nil : RepL K H [] [] := rfl
end
theorem RepL.of_get {K : PySem.W.Frag} {H : Hp} : ∀ {ds : List PD} {vs : List V}, vs.length = ds.length → (∀ (k : Nat) (v : V) (d : PD), vs[k]? = some v → ds[k]? = some d → Rep K H d v) → RepL K H ds vs
  | [], [], _, _ => rfl
  | [], v :: vs, h, _ => by simp at h
  | d :: ds, [], h, _ => by simp at h
  | d :: ds, v :: vs, h, f => ⟨v, vs, rfl, f 0 v d rfl rfl, RepL.of_get (by simpa using h) fun k w e h1 h2 => f (k + 1) w e (by simpa using h1) (by simpa using h2)⟩
/-! ## hidden lists -/
def hide (O : List Addr) (H : Hp) : Hp := fun b => if b ∈ O then none else H b
theorem hide_some {O : List Addr} {H : Hp} {b : Addr} {o : HO} : hide O H b = some o ↔ b ∉ O ∧ H b = some o := by
  unfold hide
  by_cases h : b ∈ O <;> simp [h]
theorem hide_le {O : List Addr} {H : Hp} : Same (hide O H) H := fun b o h => (hide_some.mp h).2
/-- all but the hidden lists stay -/
def Keep (O : List Addr) (H H' : Hp) : Prop := ∀ b o, b ∉ O → H b = some o → H' b = some o
theorem Keep.refl {O : List Addr} {H : Hp} : Keep O H H := fun _ _ _ h => h
theorem Keep.trans {O : List Addr} {H H1 H2 : Hp} (a : Keep O H H1) (b : Keep O H1 H2) : Keep O H H2 := fun c o n h => b c o n (a c o n h)
theorem Keep.of {O : List Addr} {H H' : Hp} (e : Same H H') : Keep O H H' := fun b o _ h => e b o h
theorem Keep.vw {O : List Addr} {H H' : Hp} (k : Keep O H H') : Same (hide O H) (hide O H') := fun b o h => by
  obtain ⟨h1, h2⟩ := hide_some.mp h
  exact hide_some.mpr ⟨h1, k b o h1 h2⟩
theorem same_upd {H : Hp} {p : Addr} {o : HO} (h : H p = none) : Same H (upd H p o) := fun b x e => by
  rw [upd_ne (ne_of_none e h)]
  exact e
/-! ## states -/
inductive Sl where
  | no
  | sh (d : PD)
  | ow (xs : List PD)
  | scr (ns : List Int)
  | raw (v : V)
  | nst (yss : List (List PD))
abbrev Stt := List Sl
structure Ctx where
  H0 : Hp
  B : List Addr
  W : List Addr
  O : List (Nat × Addr)
def Ctx.hid (C : Ctx) : List Addr := C.W ++ C.O.map (·.2)
def Ctx.own (C : Ctx) : List Addr := C.O.map (·.2)
theorem own_hid {C : Ctx} {b : Addr} (h : b ∈ C.own) : b ∈ C.hid := List.mem_append_right _ h
/-- all but the owned lists stay -/
def Kp (C : Ctx) (H H' : Hp) : Prop := ∀ b o, b ∉ C.own → H b = some o → H' b = some o
theorem Kp.refl {C : Ctx} {H : Hp} : Kp C H H := fun _ _ _ h => h
theorem Kp.trans {C : Ctx} {H H1 H2 : Hp} (a : Kp C H H1) (b : Kp C H1 H2) : Kp C H H2 := fun c o n h => b c o n (a c o n h)
theorem Kp.of {C : Ctx} {H H' : Hp} (e : Same H H') : Kp C H H' := fun b o _ h => e b o h
theorem Kp.keep {C : Ctx} {H H' : Hp} (k : Kp C H H') : Keep C.hid H H' := fun b o n h => k b o (fun z => n (own_hid z)) h
theorem Kp.vw {C : Ctx} {H H' : Hp} (k : Kp C H H') : Same (hide C.hid H) (hide C.hid H') := k.keep.vw
/-- the inner lists of a list of lists that is owned with them -/
def Cel (K : PySem.W.Frag) (C : Ctx) (H : Hp) (i : Nat) (bs : List Addr) (yss : List (List PD)) : Prop :=
  bs.length = yss.length ∧ ∀ (k : Nat) (b : Addr) (ys : List PD), bs[k]? = some b → yss[k]? = some ys → (i, b) ∈ C.O ∧ ∃ vs, H b = some (.lst vs) ∧ RepL K (hide C.hid H) ys vs
def SlOk (K : PySem.W.Frag) (C : Ctx) (H : Hp) (i : Nat) (v : Option V) : Sl → Prop
  | .no => True
  | .sh d => ∃ x, v = some x ∧ Rep K (hide C.hid H) d x
  | .ow xs => ∃ a vs, (i, a) ∈ C.O ∧ v = some (.ref a) ∧ H a = some (.lst vs) ∧ RepL K (hide C.hid H) xs vs
  | .scr ns => ∃ a, v = some (.ref a) ∧ SqL K (hide C.hid H) a (ns.map V.int)
  | .raw x => v = some x
  | .nst yss => ∃ a bs, v = some (.ref a) ∧ (i, a) ∈ C.O ∧ H a = some (.lst (bs.map V.ref)) ∧ (a :: bs).Nodup ∧ Cel K C H i bs yss
def OwnAt (σ : Sg) (S : Stt) (p : Nat × Addr) : Prop := (∃ xs, S[p.1]? = some (.ow xs) ∧ σ[p.1]? = some (some (.ref p.2))) ∨ ∃ yss, S[p.1]? = some (.nst yss)
theorem OwnAt.ne {σ σ' : Sg} {S S' : Stt} {p : Nat × Addr} (h : OwnAt σ S p) (h1 : σ'[p.1]? = σ[p.1]?) (h2 : S'[p.1]? = S[p.1]?) : OwnAt σ' S' p := by
  rcases h with ⟨xs, q1, q2⟩ | ⟨yss, q⟩
  · exact .inl ⟨xs, h2.trans q1, h1.trans q2⟩
  · exact .inr ⟨yss, h2.trans q⟩
structure Hold (K : PySem.W.Frag) (C : Ctx) (σ : Sg) (H : Hp) (S : Stt) : Prop where
  len : σ.length = S.length
  slot : ∀ (i : Nat) (v : Option V) (x : Sl), σ[i]? = some v → S[i]? = some x → SlOk K C H i v x
  own : ∀ p ∈ C.O, OwnAt σ S p
  nod : (C.O.map (·.2)).Nodup
  apart : ∀ p ∈ C.O, p.2 ∉ C.W
  wd : ∀ b ∈ C.hid, ∃ xs, H b = some (.lst xs)
  frame : ∀ b o, C.H0 b = some o → b ∉ C.B → H b = some o
  fresh : ∀ p ∈ C.O, (p.1 ≠ 0 ∧ C.H0 p.2 = none) ∨ (p.1 = 0 ∧ p.2 ∈ C.B)
  bd : ∀ b ∈ C.B, ∃ xs, H b = some (.lst xs)
section
variable {K : PySem.W.Frag} {C : Ctx} {σ : Sg} {H H' : Hp} {S : Stt}
theorem sqL_mono {a : Addr} {xs : List V} (e : Same H H') (h : SqL K H a xs) : SqL K H' a xs := e.seq h
theorem Cel.mono {C' : Ctx} {i : Nat} {bs : List Addr} {yss : List (List PD)} (h : Cel K C H i bs yss) (hO : ∀ b ∈ bs, (i, b) ∈ C.O → (i, b) ∈ C'.O) (hH : ∀ b ∈ bs, (i, b) ∈ C.O → ∀ o, H b = some o → H' b = some o) (vw : Same (hide C.hid H) (hide C'.hid H')) : Cel K C' H' i bs yss := by
  refine ⟨h.1, fun k b ys e1 e2 => ?_⟩
  obtain ⟨q1, vs, q2, q3⟩ := h.2 k b ys e1 e2
  have hb := List.mem_of_getElem? e1
  exact ⟨hO b hb q1, vs, hH b hb q1 _ q2, q3.mono vw⟩
theorem SlOk.same {i : Nat} {v : Option V} {x : Sl} (e : Same H H') (h : SlOk K C H i v x) : SlOk K C H' i v x := by
  have kv := (Keep.of (O := C.hid) e).vw
  cases x with
  | no => trivial
  | sh d =>
    obtain ⟨y, h1, h2⟩ := h
    exact ⟨y, h1, h2.mono kv⟩
  | ow xs =>
    obtain ⟨a, vs, h1, h2, h3, h4⟩ := h
    exact ⟨a, vs, h1, h2, e _ _ h3, h4.mono kv⟩
  | scr ns =>
    obtain ⟨a, h1, h2⟩ := h
    exact ⟨a, h1, sqL_mono kv h2⟩
  | raw v => exact h
  | nst yss =>
    obtain ⟨a, bs, h1, h2, h3, h4, h5⟩ := h
    exact ⟨a, bs, h1, h2, e _ _ h3, h4, h5.mono (fun _ _ z => z) (fun b _ _ o z => e b o z) kv⟩
theorem Hold.same (h : Hold K C σ H S) (e : Same H H') : Hold K C σ H' S where
  len := h.len
  slot := fun i v x h1 h2 => (h.slot i v x h1 h2).same e
  own := h.own
  nod := h.nod
  apart := h.apart
  wd := fun b hb => let ⟨xs, q⟩ := h.wd b hb; ⟨xs, e _ _ q⟩
  frame := fun b o h1 h2 => e _ _ (h.frame b o h1 h2)
  fresh := h.fresh
  bd := fun b hb => let ⟨xs, q⟩ := h.bd b hb; ⟨xs, e _ _ q⟩
/-- a new object is not hidden -/
theorem Hold.new (h : Hold K C σ H S) {p : Addr} (n : H p = none) : p ∉ C.hid := fun hp => by
  obtain ⟨xs, q⟩ := h.wd p hp
  rw [n] at q
  cases q
theorem Hold.at_sh (h : Hold K C σ H S) {i : Nat} {d : PD} (e : S[i]? = some (.sh d)) : ∃ v, σ[i]? = some (some v) ∧ Rep K (hide C.hid H) d v := by
  have hi : i < σ.length := by rw [h.len]; exact (List.getElem?_eq_some_iff.mp e).1
  obtain ⟨v, h1, h2⟩ := h.slot i _ _ (List.getElem?_eq_getElem hi) e
  exact ⟨v, by rw [← h1]; exact List.getElem?_eq_getElem hi, h2⟩
theorem Hold.at_ow (h : Hold K C σ H S) {i : Nat} {xs : List PD} (e : S[i]? = some (.ow xs)) : ∃ a vs, (i, a) ∈ C.O ∧ σ[i]? = some (some (.ref a)) ∧ H a = some (.lst vs) ∧ RepL K (hide C.hid H) xs vs := by
  have hi : i < σ.length := by rw [h.len]; exact (List.getElem?_eq_some_iff.mp e).1
  obtain ⟨a, vs, h0, h1, h2, h3⟩ := h.slot i _ _ (List.getElem?_eq_getElem hi) e
  exact ⟨a, vs, h0, by rw [← h1]; exact List.getElem?_eq_getElem hi, h2, h3⟩
theorem Hold.at_scr (h : Hold K C σ H S) {i : Nat} {ns : List Int} (e : S[i]? = some (.scr ns)) : ∃ a, σ[i]? = some (some (.ref a)) ∧ SqL K (hide C.hid H) a (ns.map V.int) := by
  have hi : i < σ.length := by rw [h.len]; exact (List.getElem?_eq_some_iff.mp e).1
  obtain ⟨a, h1, h2⟩ := h.slot i _ _ (List.getElem?_eq_getElem hi) e
  exact ⟨a, by rw [← h1]; exact List.getElem?_eq_getElem hi, h2⟩
theorem Hold.own_ow (h : Hold K C σ H S) {p : Nat × Addr} {xs : List PD} (hp : p ∈ C.O) (e : S[p.1]? = some (.ow xs)) : σ[p.1]? = some (some (.ref p.2)) := by
  rcases h.own p hp with ⟨ys, _, q⟩ | ⟨yss, q⟩
  · exact q
  · rw [e] at q; cases q
theorem Hold.addr (h : Hold K C σ H S) {i : Nat} {a b : Addr} {xs : List PD} (e : S[i]? = some (.ow xs)) (h1 : (i, a) ∈ C.O) (h2 : (i, b) ∈ C.O) : a = b := by
  have q1 := h.own_ow h1 e
  have q2 := h.own_ow h2 e
  simp only at q1 q2
  rw [q1] at q2
  cases q2
  rfl
theorem Hold.slot_inj (h : Hold K C σ H S) {i j : Nat} {a : Addr} (h1 : (i, a) ∈ C.O) (h2 : (j, a) ∈ C.O) : i = j := by
  have key : ∀ (l : List (Nat × Addr)), (l.map (·.2)).Nodup → (i, a) ∈ l → (j, a) ∈ l → i = j := by
    intro l
    induction l with
    | nil => intro _ z; cases z
    | cons p r ih =>
      intro nd q1 q2
      simp only [List.map_cons, List.nodup_cons] at nd
      rcases List.mem_cons.mp q1 with e1 | q1
      · rcases List.mem_cons.mp q2 with e2 | q2
        · rw [← e1] at e2; cases e2; rfl
        · exact absurd (List.mem_map.mpr ⟨_, q2, by rw [← e1]⟩) nd.1
      · rcases List.mem_cons.mp q2 with e2 | q2
        · exact absurd (List.mem_map.mpr ⟨_, q1, by rw [← e2]⟩) nd.1
        · exact ih nd.2 q1 q2
  exact key C.O h.nod h1 h2
theorem Hold.in_hid {p : Nat × Addr} (hp : p ∈ C.O) : p.2 ∈ C.hid := by
  unfold Ctx.hid
  exact List.mem_append_right _ (List.mem_map.mpr ⟨p, hp, rfl⟩)
end
end DK
namespace DK
open PySem PySem.Spec PyProof.Rows L2
abbrev Ev := Stt → Option (PD × Stt)
abbrev EvB := Stt → Option (Bool × Stt)
abbrev EvL := Stt → Option (List PD × Stt)
def Ctx.more (C : Ctx) (p : Addr) : Ctx := { C with W := p :: C.W }
section
variable (K : PySem.W.Frag)
def EvE (t : TE) (f : Ev) : Prop := ∀ (C : Ctx) (σ : Sg) (H : Hp) (S : Stt) (d : PD) (S' : Stt) (Q : VK), Hold K C σ H S → f S = some (d, S') →
  (∀ v H', Kp C H H' → Hold K C σ H' S' → Rep K (hide C.hid H') d v → Q v H') → t σ H Q
def EvT (t : TT) (f : EvB) : Prop := ∀ (C : Ctx) (σ : Sg) (H : Hp) (S : Stt) (b : Bool) (S' : Stt) (Q : Bool → Hp → Prop), Hold K C σ H S → f S = some (b, S') →
  (∀ H', Kp C H H' → Hold K C σ H' S' → Q b H') → t σ H Q
def EvA (t : TA) (f : EvL) : Prop := ∀ (C : Ctx) (σ : Sg) (H : Hp) (S : Stt) (ds : List PD) (S' : Stt) (Q : List V → Hp → Prop), Hold K C σ H S → f S = some (ds, S') →
  (∀ vs H', Kp C H H' → Hold K C σ H' S' → RepL K (hide C.hid H') ds vs → Q vs H') → t σ H Q
/-- a new list -/
def EvF (t : TE) (f : EvL) : Prop := ∀ (C : Ctx) (σ : Sg) (H : Hp) (S : Stt) (xs : List PD) (S' : Stt) (Q : VK), Hold K C σ H S → f S = some (xs, S') →
  (∀ p vs H', H p = none → Kp C H H' → H' p = some (.lst vs) → Hold K (C.more p) σ H' S' → RepL K (hide (C.more p).hid H') xs vs → Q (.ref p) H') → t σ H Q
end
/-! ## the weakest readings -/
def wE (X : Cx) (e : Expr) : TE := fun σ H Q => ∀ (pins : List (Addr × Obj)) (s : Shared), Inv X pins σ H s → wpAny (model X.prog X.w) X.A (eval e X.env) (EP X pins σ Q) X.xe s
def wT (X : Cx) (e : Expr) : TT := fun σ H Q => ∀ (pins : List (Addr × Obj)) (s : Shared), Inv X pins σ H s → wpAny (model X.prog X.w) X.A (isTrue e X.env (eval e X.env)) (TP X pins σ Q) X.xe s
def wA (X : Cx) (es : List Expr) : TA := fun σ H Q => ∀ (pos : Pos) (pins : List (Addr × Obj)) (s : Shared), Inv X pins σ H s → wpAny (model X.prog X.w) X.A (spliced (backTo pos (starEach es X.env))) (AP X pins σ Q) X.xe s
theorem pe_w {X : Cx} {e : Expr} : PE X e (wE X e) := ⟨fun pins s _ _ _ I h => h pins s I⟩
theorem pt_w {X : Cx} {e : Expr} : PT X e (wT X e) := ⟨fun pins s _ _ _ I h => h pins s I⟩
theorem pa_w {X : Cx} {es : List Expr} : PA X es (wA X es) := ⟨fun pos pins s _ _ _ I h => h pos pins s I⟩
def DE (X : Cx) (e : Expr) (f : Ev) : Prop := EvE X.K (wE X e) f
def DT (X : Cx) (e : Expr) (f : EvB) : Prop := EvT X.K (wT X e) f
def DA (X : Cx) (es : List Expr) (f : EvL) : Prop := EvA X.K (wA X es) f
def DF (X : Cx) (e : Expr) (f : EvL) : Prop := EvF X.K (wE X e) f
section
variable {X : Cx} {e : Expr} {es : List Expr}
theorem DE.mk {t : TE} {f : Ev} (h : PE X e t) (k : EvE X.K t f) : DE X e f := fun C σ H S d S' Q hS hf q pins s I => h.run pins s σ H Q I (k C σ H S d S' Q hS hf q)
theorem DT.mk {t : TT} {f : EvB} (h : PT X e t) (k : EvT X.K t f) : DT X e f := fun C σ H S d S' Q hS hf q pins s I => h.run pins s σ H Q I (k C σ H S d S' Q hS hf q)
theorem DA.mk {t : TA} {f : EvL} (h : PA X es t) (k : EvA X.K t f) : DA X es f := fun C σ H S d S' Q hS hf q pos pins s I => h.run pos pins s σ H Q I (k C σ H S d S' Q hS hf q)
theorem DF.mk {t : TE} {f : EvL} (h : PE X e t) (k : EvF X.K t f) : DF X e f := fun C σ H S d S' Q hS hf q pins s I => h.run pins s σ H Q I (k C σ H S d S' Q hS hf q)
end
/-! ## hiding one list more -/
section
variable {K : PySem.W.Frag} {C : Ctx} {σ : Sg} {H H' : Hp} {S : Stt} {p : Addr}
theorem hid_more : (C.more p).hid = p :: C.hid := rfl
theorem hide_more_le : Same (hide (C.more p).hid H) (hide C.hid H) := fun b o h => by
  obtain ⟨h1, h2⟩ := hide_some.mp h
  exact hide_some.mpr ⟨fun z => h1 (List.mem_cons_of_mem _ z), h2⟩
theorem SlOk.unmore {i : Nat} {v : Option V} {x : Sl} (h : SlOk K (C.more p) H i v x) : SlOk K C H i v x := by
  cases x with
  | no => trivial
  | sh d => obtain ⟨y, h1, h2⟩ := h; exact ⟨y, h1, h2.mono hide_more_le⟩
  | ow xs => obtain ⟨a, vs, h1, h2, h3, h4⟩ := h; exact ⟨a, vs, h1, h2, h3, h4.mono hide_more_le⟩
  | scr ns => obtain ⟨a, h1, h2⟩ := h; exact ⟨a, h1, sqL_mono hide_more_le h2⟩
  | raw v => exact h
  | nst yss => obtain ⟨a, bs, h1, h2, h3, h4, h5⟩ := h; exact ⟨a, bs, h1, h2, h3, h4, h5.mono (fun _ _ z => z) (fun _ _ _ _ z => z) hide_more_le⟩
theorem Hold.unmore (h : Hold K (C.more p) σ H S) : Hold K C σ H S where
  len := h.len
  slot := fun i v x h1 h2 => (h.slot i v x h1 h2).unmore
  own := h.own
  nod := h.nod
  apart := fun q hq z => h.apart q hq (List.mem_cons_of_mem _ z)
  wd := fun b hb => h.wd b (List.mem_cons_of_mem _ hb)
  frame := h.frame
  fresh := h.fresh
  bd := h.bd
/-- what was seen ahead of a new list is seen without it -/
theorem vw_more (k : Kp C H H') (n : H p = none) : Same (hide C.hid H) (hide (C.more p).hid H') := fun b o h => by
  obtain ⟨h1, h2⟩ := hide_some.mp h
  refine hide_some.mpr ⟨fun z => ?_, k.keep b o h1 h2⟩
  rcases List.mem_cons.mp z with e | z
  · rw [e, n] at h2; cases h2
  · exact h1 z
theorem SlOk.more {i : Nat} {v : Option V} {x : Sl} {o : HO} (h : SlOk K C H i v x) (n : H p = none) : SlOk K (C.more p) (upd H p o) i v x := by
  have sm := same_upd (o := o) n
  have kv := vw_more (C := C) (Kp.of sm) n
  cases x with
  | no => trivial
  | sh d => obtain ⟨y, h1, h2⟩ := h; exact ⟨y, h1, h2.mono kv⟩
  | ow xs => obtain ⟨a, vs, h1, h2, h3, h4⟩ := h; exact ⟨a, vs, h1, h2, sm _ _ h3, h4.mono kv⟩
  | scr ns => obtain ⟨a, h1, h2⟩ := h; exact ⟨a, h1, sqL_mono kv h2⟩
  | raw v => exact h
  | nst yss => obtain ⟨a, bs, h1, h2, h3, h4, h5⟩ := h; exact ⟨a, bs, h1, h2, sm _ _ h3, h4, h5.mono (fun _ _ z => z) (fun b _ _ o z => sm b o z) kv⟩
theorem Hold.more (h : Hold K C σ H S) (n : H p = none) {xs : List V} : Hold K (C.more p) σ (upd H p (.lst xs)) S where
  len := h.len
  slot := fun i v x h1 h2 => (h.slot i v x h1 h2).more n
  own := h.own
  nod := h.nod
  apart := fun q hq z => by
    rcases List.mem_cons.mp z with e | z
    · exact h.new n (by rw [← e]; exact Hold.in_hid hq)
    · exact h.apart q hq z
  wd := fun b hb => by
    rcases List.mem_cons.mp hb with e | hb
    · exact ⟨xs, by rw [e, upd_same]⟩
    · obtain ⟨ys, q⟩ := h.wd b hb
      exact ⟨ys, same_upd n _ _ q⟩
  frame := fun b o h1 h2 => same_upd n _ _ (h.frame b o h1 h2)
  fresh := h.fresh
  bd := fun b hb => let ⟨xs, q⟩ := h.bd b hb; ⟨xs, same_upd n _ _ q⟩
/-- the new list's content is changed: nothing else sees it -/
theorem vw_chg {xs : List V} : Same (hide (C.more p).hid H) (hide (C.more p).hid (upd H p (.lst xs))) := fun b o h => by
  obtain ⟨h1, h2⟩ := hide_some.mp h
  refine hide_some.mpr ⟨h1, ?_⟩
  rw [upd_ne (fun e => h1 (by rw [e, hid_more]; exact List.mem_cons_self))]
  exact h2
theorem Hold.chg {xs ys : List V} (h : Hold K (C.more p) σ H S) (e : H p = some (.lst xs)) (nO : ∀ q ∈ C.O, q.2 ≠ p) (fr : C.H0 p = none) : Hold K (C.more p) σ (upd H p (.lst ys)) S where
  len := h.len
  slot := fun i v x h1 h2 => by
    have q := h.slot i v x h1 h2
    cases x with
    | no => trivial
    | sh d => obtain ⟨y, h1, h2⟩ := q; exact ⟨y, h1, h2.mono vw_chg⟩
    | ow xs =>
      obtain ⟨a, vs, h1, h2, h3, h4⟩ := q
      exact ⟨a, vs, h1, h2, by rw [upd_ne (nO _ h1)]; exact h3, h4.mono vw_chg⟩
    | scr ns => obtain ⟨a, h1, h2⟩ := q; exact ⟨a, h1, sqL_mono vw_chg h2⟩
    | raw v => exact q
    | nst yss =>
      obtain ⟨a, bs, h1, h2, h3, h4, h5⟩ := q
      exact ⟨a, bs, h1, h2, by rw [upd_ne (nO _ h2)]; exact h3, h4, h5.mono (fun _ _ z => z) (fun b _ hb o z => by rw [upd_ne (nO _ hb)]; exact z) vw_chg⟩
  own := h.own
  nod := h.nod
  apart := h.apart
  wd := fun b hb => by
    by_cases hbp : b = p
    · exact ⟨ys, by rw [hbp, upd_same]⟩
    · obtain ⟨zs, q⟩ := h.wd b hb
      exact ⟨zs, by rw [upd_ne hbp]; exact q⟩
  frame := fun b o h1 h2 => by
    have hbp : b ≠ p := fun z => by
      rw [z] at h1
      have h1' : C.H0 p = some o := h1
      rw [fr] at h1'; cases h1'
    rw [upd_ne hbp]
    exact h.frame b o h1 h2
  fresh := h.fresh
  bd := fun b hb => by
    by_cases hbp : b = p
    · exact ⟨ys, by rw [hbp, upd_same]⟩
    · obtain ⟨zs, q⟩ := h.bd b hb
      exact ⟨zs, by rw [upd_ne hbp]; exact q⟩
end
/-! ## names, constants, displays -/
section
variable {X : Cx} {K : PySem.W.Frag}
def eNm (i : Nat) : Ev := fun S => match S[i]? with
  | some (.sh d) => some (d, S)
  | _ => none
theorem eNm_some {i : Nat} {S S' : Stt} {d : PD} (h : eNm i S = some (d, S')) : S[i]? = some (.sh d) ∧ S' = S := by
  unfold eNm at h
  split at h
  · rename_i d' e
    cases h
    exact ⟨e, rfl⟩
  · cases h
theorem ev_nm (i : Nat) : EvE K (tVar i) (eNm i) := fun C σ H S d S' Q hS hf q => by
  obtain ⟨e, rfl⟩ := eNm_some hf
  obtain ⟨v, h1, h2⟩ := hS.at_sh e
  exact ⟨v, h1, q v H Kp.refl hS h2⟩
theorem dNm (i : Nat) {x : Str} {pos : Pos} (hN : X.N[i]? = some x := by rfl) (hv : Vis X.env.scope x := by first | exact Or.inl rfl | exact Or.inr (Or.inl rfl) | exact Or.inr (Or.inr rfl)) (hd : (x == ("__debug__" : Str)) = false := by decide)
    (hcd : (x == ("__classdict__" : Str)) = false := by decide) : DE X (.Name x pos) (eNm i) := .mk (pe_var hN hv hd hcd) (ev_nm i)
def eC (d : PD) : Ev := fun S => some (d, S)
theorem ev_c {d : PD} {v : V} (h : ∀ H, Rep K H d v) : EvE K (tC v) (eC d) := fun C σ H S d' S' Q hS hf q => by
  cases hf
  exact q v H Kp.refl hS (h _)
theorem dInt {i : Int} {j : Nat} {pos : Pos} : DE X (.Constant (.int i) j pos) (eC (.int i)) := .mk pe_int (ev_c fun _ => rfl)
theorem dBl {b : Bool} {j : Nat} {pos : Pos} : DE X (.Constant (.bool b) j pos) (eC (.bool b)) := .mk pe_bl (ev_c fun _ => rfl)
theorem dNon {j : Nat} {pos : Pos} : DE X (.Constant .none j pos) (eC .none) := .mk pe_non (ev_c fun _ => rfl)
theorem dStr {x : Str} {j : Nat} {pos : Pos} : DE X (.Constant (.str x) j pos) (eC (.str x)) := .mk pe_str (ev_c fun _ => rfl)
/-- a module's constant -/
structure Glb (K : PySem.W.Frag) (mg : Str → Option Value) (x : Str) (d : PD) : Prop where
  at_ : ∃ v u, mg x = some u ∧ RelV v u ∧ ∀ H, Rep K H d v
theorem dGlb {x : Str} {d : PD} {pos : Pos} (g : Glb X.K X.mg x d) (hg : Gl X x := by rfl) (hd : (x == ("__debug__" : Str)) = false := by decide) : DE X (.Name x pos) (eC d) := by
  obtain ⟨v, u, h1, h2, h3⟩ := g.at_
  exact .mk (pe_glob hg h1 h2 hd) (ev_c h3)
def aNil : EvL := fun S => some ([], S)
def aCons (f : Ev) (g : EvL) : EvL := fun S => do
  let (d, S1) ← f S
  let (ds, S2) ← g S1
  some (d :: ds, S2)
theorem bind_some' {α β : Type} {o : Option α} {f : α → Option β} {b : β} (h : (o >>= f) = some b) : ∃ a, o = some a ∧ f a = some b := by
  cases o with
  | none => cases h
  | some a => exact ⟨a, rfl, h⟩
theorem aCons_some {f : Ev} {g : EvL} {S S' : Stt} {ds : List PD} (h : aCons f g S = some (ds, S')) : ∃ d r S1, f S = some (d, S1) ∧ g S1 = some (r, S') ∧ ds = d :: r := by
  unfold aCons at h
  obtain ⟨⟨d, S1⟩, h1, h⟩ := bind_some' h
  obtain ⟨⟨r, S2⟩, h2, h⟩ := bind_some' h
  cases h
  exact ⟨d, r, S1, h1, h2, rfl⟩
theorem dNil : DA X [] aNil := .mk pa_nil fun C σ H S ds S' Q hS hf q => by
  cases hf
  exact q [] H Kp.refl hS rfl
theorem dCons {e : Expr} {es : List Expr} {f : Ev} {g : EvL} (he : DE X e f) (hs : DA X es g) (hst : starEach (e :: es) X.env = (false, eval e X.env) :: starEach es X.env := by rfl) : DA X (e :: es) (aCons f g) :=
  .mk (pa_cons pe_w pa_w hst) fun C σ H S ds S' Q hS hf q => by
    obtain ⟨d, r, S1, h1, h2, rfl⟩ := aCons_some hf
    refine he C σ H S d S1 _ hS h1 fun v H1 k1 hS1 r1 => ?_
    refine hs C σ H1 S1 r S' _ hS1 h2 fun vs H2 k2 hS2 r2 => ?_
    exact q (v :: vs) H2 (k1.trans k2) hS2 ⟨v, vs, rfl, r1.mono k2.vw, r2⟩
def eTup (f : EvL) : Ev := fun S => do
  let (ds, S1) ← f S
  if ds.length ≤ 1000 then some (.tuple ds, S1) else none
theorem eTup_some {f : EvL} {S S' : Stt} {d : PD} (h : eTup f S = some (d, S')) : ∃ ds, f S = some (ds, S') ∧ ds.length ≤ 1000 ∧ d = .tuple ds := by
  unfold eTup at h
  obtain ⟨⟨ds, S1⟩, h1, h⟩ := bind_some' h
  dsimp only at h
  split at h
  · rename_i hl
    cases h
    exact ⟨ds, h1, hl, rfl⟩
  · cases h
theorem size1000 {n : Nat} (h : n ≤ 1000) : n ≤ sizeLine := Nat.le_of_lt (small1000 h)
theorem dTup {es : List Expr} {f : EvL} {x1 : Nat} {pos : Pos} (h : DA X es f) : DE X (.Tuple es x1 pos) (eTup f) :=
  .mk (pe_tup pa_w) fun C σ H S d S' Q hS hf q => by
    obtain ⟨ds, h1, hl, rfl⟩ := eTup_some hf
    refine h C σ H S ds S' _ hS h1 fun vs H1 k1 hS1 r1 => ⟨size1000 (by rw [r1.length]; exact hl), fun p np => ?_⟩
    have sm := same_upd (o := HO.tup vs) np
    refine q _ _ (k1.trans (.of sm)) (hS1.same sm) ⟨p, vs, rfl, ?_, r1.mono (Keep.of sm).vw⟩
    exact SqT.of (hide_some.mpr ⟨hS1.new np, upd_same⟩)
/-- a new list as a value -/
def eF (f : EvL) : Ev := fun S => do
  let (xs, S1) ← f S
  some (.list xs, S1)
theorem eF_some {f : EvL} {S S' : Stt} {d : PD} (h : eF f S = some (d, S')) : ∃ xs, f S = some (xs, S') ∧ d = .list xs := by
  unfold eF at h
  obtain ⟨⟨xs, S1⟩, h1, h⟩ := bind_some' h
  cases h
  exact ⟨xs, h1, rfl⟩
theorem dF {e : Expr} {f : EvL} (h : DF X e f) : DE X e (eF f) := fun C σ H S d S' Q hS hf q pins s I => by
  obtain ⟨xs, h1, rfl⟩ := eF_some hf
  refine h C σ H S xs S' Q hS h1 (fun p vs H' np k hp hS' r => ?_) pins s I
  refine q _ H' k hS'.unmore ⟨p, vs, rfl, ?_, r.mono hide_more_le⟩
  exact hide_some.mpr ⟨hS.new np, hp⟩
def fLst (f : EvL) : EvL := fun S => do
  let (ds, S1) ← f S
  if ds.length ≤ 1000 then some (ds, S1) else none
theorem fLst_some {f : EvL} {S S' : Stt} {ds : List PD} (h : fLst f S = some (ds, S')) : f S = some (ds, S') ∧ ds.length ≤ 1000 := by
  unfold fLst at h
  obtain ⟨⟨ds, S1⟩, h1, h⟩ := bind_some' h
  dsimp only at h
  split at h
  · rename_i hl
    cases h
    exact ⟨h1, hl⟩
  · cases h
theorem free_of {C : Ctx} {H H1 : Hp} {p : Addr} {σ : Sg} {S : Stt} (hS : Hold K C σ H S) (k : Kp C H H1) (hS1 : Hold K C σ H1 S) (n : H1 p = none) : H p = none := by
  cases e : H p with
  | none => rfl
  | some o =>
    have hp : p ∉ C.hid := hS1.new n
    rw [k.keep p o hp e] at n
    cases n
theorem free_of' {C : Ctx} {H H1 : Hp} {p : Addr} {σ : Sg} {S1 : Stt} (k : Kp C H H1) (hS1 : Hold K C σ H1 S1) (n : H1 p = none) : H p = none := by
  cases e : H p with
  | none => rfl
  | some o =>
    have hp : p ∉ C.hid := hS1.new n
    rw [k.keep p o hp e] at n
    cases n
/-- a new list of these values is laid -/
theorem new_list {C : Ctx} {σ : Sg} {H H1 : Hp} {S1 : Stt} {xs : List PD} {vs : List V} {Q : VK} (k1 : Kp C H H1) (hS1 : Hold K C σ H1 S1) (r1 : RepL K (hide C.hid H1) xs vs)
    (q : ∀ p vs H', H p = none → Kp C H H' → H' p = some (.lst vs) → Hold K (C.more p) σ H' S1 → RepL K (hide (C.more p).hid H') xs vs → Q (.ref p) H') :
    ∀ p, H1 p = none → Q (.ref p) (upd H1 p (.lst vs)) := fun p np => by
  have sm := same_upd (o := HO.lst vs) np
  exact q p vs _ (free_of' k1 hS1 np) (k1.trans (.of sm)) upd_same (hS1.more np) (r1.mono (vw_more (Kp.of sm) np))
theorem fl_lst {es : List Expr} {f : EvL} {pos : Pos} (h : DA X es f) : DF X (.List es pos) (fLst f) :=
  .mk (pe_lst pa_w) fun C σ H S ds S' Q hS hf q => by
    obtain ⟨h1, hl⟩ := fLst_some hf
    exact h C σ H S ds S' _ hS h1 fun vs H1 k1 hS1 r1 => ⟨size1000 (by rw [r1.length]; exact hl), new_list k1 hS1 r1 q⟩
end
end DK
namespace DK
open PySem PySem.Spec PyProof.Rows L2
/-! ## operators on data -/
section
variable (K : PySem.W.Frag)
def OpD (r : R2) (g : PD → PD → Option PD) : Prop := ∀ (O : List Addr) (H : Hp) (a b d : PD) (x y : V) (Q : VK), Rep K (hide O H) a x → Rep K (hide O H) b y → g a b = some d →
  (∀ p, H p = none → p ∉ O) → (∀ v H', Same H H' → Rep K (hide O H') d v → Q v H') → r x y H Q
def UnD (r : V → Hp → VK → Prop) (g : PD → Option PD) : Prop := ∀ (O : List Addr) (H : Hp) (a d : PD) (x : V) (Q : VK), Rep K (hide O H) a x → g a = some d →
  (∀ p, H p = none → p ∉ O) → (∀ v H', Same H H' → Rep K (hide O H') d v → Q v H') → r x H Q
def CallD (r : List V → Hp → VK → Prop) (g : List PD → Option PD) : Prop := ∀ (O : List Addr) (H : Hp) (ds : List PD) (d : PD) (xs : List V) (Q : VK), RepL K (hide O H) ds xs → g ds = some d →
  (∀ p, H p = none → p ∉ O) → (∀ v H', Same H H' → Rep K (hide O H') d v → Q v H') → r xs H Q
/-- a call that makes a list -/
def CallF (r : List V → Hp → VK → Prop) (g : List PD → Option (List PD)) : Prop := ∀ (O : List Addr) (H : Hp) (ds : List PD) (ys : List PD) (xs : List V) (Q : VK), RepL K (hide O H) ds xs → g ds = some ys →
  (∀ p, H p = none → p ∉ O) → (∀ p vs, H p = none → RepL K (hide O H) ys vs → Q (.ref p) (upd H p (.lst vs))) → r xs H Q
end
def orD (g g' : PD → PD → Option PD) : PD → PD → Option PD := fun a b => match g a b with
  | some d => some d
  | none => g' a b
theorem OpD.or {K : PySem.W.Frag} {r r' : R2} {g g' : PD → PD → Option PD} (h : OpD K r g) (h' : OpD K r' g') : OpD K (fun x y H Q => r x y H Q ∨ r' x y H Q) (orD g g') := fun O H a b d x y Q ra rb hg fr q => by
  unfold orD at hg
  split at hg
  · rename_i d' e
    cases hg
    exact .inl (h O H a b _ x y Q ra rb e fr q)
  · exact .inr (h' O H a b d x y Q ra rb hg fr q)
/-- a scalar, which no heap can change -/
def scl : PD → Bool
  | .none | .bool _ | .int _ | .str _ => true
  | _ => false
theorem Rep.scl {K : PySem.W.Frag} {H H' : Hp} {d : PD} {v : V} (h : scl d = true) (r : Rep K H d v) : Rep K H' d v := by
  cases d <;> first | exact r | (exact absurd h (by decide)) | (exact absurd h (by simp [DK.scl]))
/-! data in which no list stands -/
mutual
def flat : PD → Bool
  | .list _ => false
  | .tuple ds => flatL ds
  | _ => true
def flatL : List PD → Bool
  | [] => true
  | d :: ds => flat d && flatL ds
end
def eOp (g : PD → PD → Option PD) (fa fb : Ev) : Ev := fun S => do
  let (a, S1) ← fa S
  let (b, S2) ← fb S1
  let d ← g a b
  some (d, S2)
theorem eOp_some {g : PD → PD → Option PD} {fa fb : Ev} {S S' : Stt} {d : PD} (h : eOp g fa fb S = some (d, S')) : ∃ a b S1, fa S = some (a, S1) ∧ fb S1 = some (b, S') ∧ g a b = some d := by
  unfold eOp at h
  obtain ⟨⟨a, S1⟩, h1, h⟩ := bind_some' h
  obtain ⟨⟨b, S2⟩, h2, h⟩ := bind_some' h
  obtain ⟨d', h3, h⟩ := bind_some' h
  cases h
  exact ⟨a, b, S1, h1, h2, h3⟩
def eUn (g : PD → Option PD) (fa : Ev) : Ev := fun S => do
  let (a, S1) ← fa S
  let d ← g a
  some (d, S1)
theorem eUn_some {g : PD → Option PD} {fa : Ev} {S S' : Stt} {d : PD} (h : eUn g fa S = some (d, S')) : ∃ a, fa S = some (a, S') ∧ g a = some d := by
  unfold eUn at h
  obtain ⟨⟨a, S1⟩, h1, h⟩ := bind_some' h
  obtain ⟨d', h3, h⟩ := bind_some' h
  cases h
  exact ⟨a, h1, h3⟩
def eCall (g : List PD → Option PD) (f : EvL) : Ev := fun S => do
  let (a, S1) ← f S
  let d ← g a
  some (d, S1)
theorem eCall_some {g : List PD → Option PD} {f : EvL} {S S' : Stt} {d : PD} (h : eCall g f S = some (d, S')) : ∃ a, f S = some (a, S') ∧ g a = some d := by
  unfold eCall at h
  obtain ⟨⟨a, S1⟩, h1, h⟩ := bind_some' h
  obtain ⟨d', h3, h⟩ := bind_some' h
  cases h
  exact ⟨a, h1, h3⟩
def fCall (g : List PD → Option (List PD)) (f : EvL) : EvL := fun S => do
  let (a, S1) ← f S
  let d ← g a
  some (d, S1)
theorem fCall_some {g : List PD → Option (List PD)} {f : EvL} {S S' : Stt} {d : List PD} (h : fCall g f S = some (d, S')) : ∃ a, f S = some (a, S') ∧ g a = some d := by
  unfold fCall at h
  obtain ⟨⟨a, S1⟩, h1, h⟩ := bind_some' h
  obtain ⟨d', h3, h⟩ := bind_some' h
  cases h
  exact ⟨a, h1, h3⟩
section
variable {X : Cx} {K : PySem.W.Frag} {a b c e : Expr} {es : List Expr} {pos : Pos}
theorem ev_op {r : R2} {g : PD → PD → Option PD} {ta tb : TE} {fa fb : Ev} (hg : OpD K r g) (ha : EvE K ta fa) (hb : EvE K tb fb) : EvE K (tOp r ta tb) (eOp g fa fb) := fun C σ H S d S' Q hS hf q => by
  obtain ⟨da, db, S1, h1, h2, h3⟩ := eOp_some hf
  refine ha C σ H S da S1 _ hS h1 fun x H1 k1 hS1 r1 => ?_
  refine hb C σ H1 S1 db S' _ hS1 h2 fun y H2 k2 hS2 r2 => ?_
  exact hg C.hid H2 da db d x y Q (r1.mono k2.vw) r2 h3 (fun p np => hS2.new np) fun v H' sm rv => q v H' ((k1.trans k2).trans (.of sm)) (hS2.same sm) rv
theorem dOp {op : Operator} {r : R2} {g : PD → PD → Option PD} {fa fb : Ev} (ho : OpR X (binaryOp op) r) (hg : OpD X.K r g) (ha : DE X a fa) (hb : DE X b fb) : DE X (.BinOp a op b pos) (eOp g fa fb) :=
  .mk (pe_op ho pe_w pe_w) (ev_op hg ha hb)
theorem dUn {op : UnaryOp} {r : V → Hp → VK → Prop} {g : PD → Option PD} {fa : Ev} (ho : UnR X (unaryOp op) r) (hg : UnD X.K r g) (ha : DE X a fa) : DE X (.UnaryOp op a pos) (eUn g fa) :=
  .mk (pe_un ho pe_w) fun C σ H S d S' Q hS hf q => by
    obtain ⟨da, h1, h3⟩ := eUn_some hf
    refine ha C σ H S da S' _ hS h1 fun x H1 k1 hS1 r1 => ?_
    exact hg C.hid H1 da d x Q r1 h3 (fun p np => hS1.new np) fun v H' sm rv => q v H' (k1.trans (.of sm)) (hS1.same sm) rv
/-- a value's Bool -/
def eB (f : Ev) : EvB := fun S => match f S with
  | some (.bool b, S1) => some (b, S1)
  | _ => none
theorem eB_some {f : Ev} {S S' : Stt} {b : Bool} (h : eB f S = some (b, S')) : f S = some (.bool b, S') := by
  unfold eB at h
  split at h
  · rename_i e
    cases h
    exact e
  · cases h
theorem ev_test {t : TE} {f : Ev} (h : EvE K t f) : EvT K (tTest t) (eB f) := fun C σ H S b S' Q hS hf q => by
  refine h C σ H S _ S' _ hS (eB_some hf) fun v H' k hS' r => ?_
  exact ⟨b, r, q H' k hS'⟩
theorem ev_tB {t : TE} {f : Ev} (h : EvE K t f) : EvT K (tB t) (eB f) := fun C σ H S b S' Q hS hf q => by
  refine h C σ H S _ S' _ hS (eB_some hf) fun v H' k hS' r => ?_
  exact ⟨b, r, q H' k hS'⟩
theorem dCmp {op : CmpOp} {r : R2} {g : PD → PD → Option PD} {fa fb : Ev} (ho : OpR X (compareOp op) r) (hg : OpD X.K r g) (ha : DE X a fa) (hb : DE X b fb)
    (hm : behindInMarks op b = false := by first | exact nomark _ | with_unfolding_all rfl) : DE X (.Compare a [op] [b] pos) (eOp g fa fb) := .mk (pe_cmpR ho pe_w pe_w hm) (ev_op hg ha hb)
theorem dCmpT {op : CmpOp} {r : R2} {g : PD → PD → Option PD} {fa fb : Ev} (ho : OpR X (compareOp op) r) (hg : OpD X.K r g) (ha : DE X a fa) (hb : DE X b fb)
    (hm : behindInMarks op b = false := by first | exact nomark _ | with_unfolding_all rfl) : DT X (.Compare a [op] [b] pos) (eB (eOp g fa fb)) := .mk (pt_cmpR ho pe_w pe_w hm) (ev_test (ev_op hg ha hb))
/-- any expression whose value is a bool, as a test -/
theorem dVal {f : Ev} (h : DE X e f) (he : ∀ whole, isTrue e X.env whole = (do let v ← whole; standAt e.pos; holding [v] (truthy v)) := by intro _; rfl) : DT X e (eB f) := .mk (pt_val pe_w he) (ev_tB h)
/-- .. by its truth -/
def gTru : PD → Option Bool
  | .bool b => some b
  | .none => some false
  | .int i => some (i != 0)
  | .list xs => some (!xs.isEmpty)
  | .tuple xs => some (!xs.isEmpty)
  | _ => none
def eTru (f : Ev) : EvB := fun S => do
  let (d, S1) ← f S
  let b ← gTru d
  some (b, S1)
theorem RepL.isEmpty {H : Hp} {ds : List PD} {vs : List V} (r : RepL K H ds vs) : vs.isEmpty = ds.isEmpty := by
  have h := r.length
  cases vs <;> cases ds <;> simp at h ⊢
theorem gTru_ok {H G : Hp} {d : PD} {v : V} {k : Bool} (le : Same G H) (r : Rep K G d v) (h : gTru d = some k) : TruV K v H k := by
  cases d with
  | none => cases (show v = .non from r); cases h; rfl
  | bool b => cases (show v = .bl b from r); cases h; rfl
  | int i => cases (show v = .int i from r); cases h; rfl
  | str x => cases h
  | list ds =>
    obtain ⟨a, vs, h1, h2, h3⟩ := r
    subst h1
    cases h
    exact .inl ⟨vs, SqL.of (le _ _ h2), by rw [h3.isEmpty]⟩
  | tuple ds =>
    obtain ⟨a, vs, h1, h2, h3⟩ := r
    subst h1
    cases h
    exact .inr (.inl ⟨vs, sqT_mono le h2, by rw [h3.isEmpty]⟩)
  | dict _ => exact r.elim
theorem eTru_some {f : Ev} {S S' : Stt} {b : Bool} (h : eTru f S = some (b, S')) : ∃ d, f S = some (d, S') ∧ gTru d = some b := by
  unfold eTru at h
  obtain ⟨⟨d, S1⟩, h1, h⟩ := bind_some' h
  obtain ⟨k, h2, h⟩ := bind_some' h
  cases h
  exact ⟨d, h1, h2⟩
theorem dTru {f : Ev} (h : DE X e f) (he : ∀ whole, isTrue e X.env whole = (do let v ← whole; standAt e.pos; holding [v] (truthy v)) := by intro _; rfl) : DT X e (eTru f) :=
  .mk (pt_truth pe_w he) fun C σ H S b S' Q hS hf q => by
    obtain ⟨d, h1, h2⟩ := eTru_some hf
    refine h C σ H S d S' _ hS h1 fun v H' k hS' r => ?_
    exact ⟨b, gTru_ok hide_le r h2, q H' k hS'⟩
/-! ## and, or, not, if -/
def wW (X : Cx) (e : Expr) : TT := fun σ H Q => ∀ (whole : Sem Value) (pins : List (Addr × Obj)) (s : Shared), Inv X pins σ H s → wpAny (model X.prog X.w) X.A (isTrue e X.env whole) (TP X pins σ Q) X.xe s
theorem pw_w : PW X e (wW X e) := ⟨fun wh pins s _ _ _ I h => h wh pins s I⟩
def DW (X : Cx) (e : Expr) (f : EvB) : Prop := EvT X.K (wW X e) f
theorem DW.mk {t : TT} {f : EvB} (h : PW X e t) (k : EvT X.K t f) : DW X e f := fun C σ H S d S' Q hS hf q wh pins s I => h.run wh pins s σ H Q I (k C σ H S d S' Q hS hf q)
theorem DW.dt {f : EvB} (h : DW X e f) : DT X e f := .mk (PW.pt pw_w) h
def bAnd (f g : EvB) : EvB := fun S => do
  let (b, S1) ← f S
  if b then g S1 else some (false, S1)
def bOr (f g : EvB) : EvB := fun S => do
  let (b, S1) ← f S
  if b then some (true, S1) else g S1
def bNot (f : EvB) : EvB := fun S => do
  let (b, S1) ← f S
  some (!b, S1)
theorem ev_and {t u : TT} {f g : EvB} (h : EvT K t f) (h' : EvT K u g) : EvT K (tAnd t u) (bAnd f g) := fun C σ H S b S' Q hS hf q => by
  unfold bAnd at hf
  obtain ⟨⟨c, S1⟩, h1, hf⟩ := bind_some' hf
  refine h C σ H S c S1 _ hS h1 fun H1 k1 hS1 => ?_
  cases c with
  | true => exact h' C σ H1 S1 b S' Q hS1 hf fun H2 k2 hS2 => q H2 (k1.trans k2) hS2
  | false => cases hf; exact q H1 k1 hS1
theorem ev_or {t u : TT} {f g : EvB} (h : EvT K t f) (h' : EvT K u g) : EvT K (tOr t u) (bOr f g) := fun C σ H S b S' Q hS hf q => by
  unfold bOr at hf
  obtain ⟨⟨c, S1⟩, h1, hf⟩ := bind_some' hf
  refine h C σ H S c S1 _ hS h1 fun H1 k1 hS1 => ?_
  cases c with
  | false => exact h' C σ H1 S1 b S' Q hS1 hf fun H2 k2 hS2 => q H2 (k1.trans k2) hS2
  | true => cases hf; exact q H1 k1 hS1
theorem dAnd1 {f : EvB} (h : DT X a f) : DW X (.BoolOp .And [a] pos) f := .mk (pw_and1 pt_w) h
theorem dOr1 {f : EvB} (h : DT X a f) : DW X (.BoolOp .Or [a] pos) f := .mk (pw_or1 pt_w) h
theorem dAnd {f g : EvB} {rest : List Expr} (h : DT X a f) (h' : DW X (.BoolOp .And (b :: rest) pos) g) : DW X (.BoolOp .And (a :: b :: rest) pos) (bAnd f g) := .mk (pw_and pt_w pw_w) (ev_and h h')
theorem dOr {f g : EvB} {rest : List Expr} (h : DT X a f) (h' : DW X (.BoolOp .Or (b :: rest) pos) g) : DW X (.BoolOp .Or (a :: b :: rest) pos) (bOr f g) := .mk (pw_or pt_w pw_w) (ev_or h h')
theorem dNotT {f : EvB} (h : DT X a f) : DT X (.UnaryOp .Not a pos) (bNot f) := .mk (pt_not pt_w) fun C σ H S b S' Q hS hf q => by
  unfold bNot at hf
  obtain ⟨⟨c, S1⟩, h1, hf⟩ := bind_some' hf
  cases hf
  exact h C σ H S c _ _ hS h1 fun H1 k1 hS1 => q H1 k1 hS1
/-- as values -/
def eAnd (f g : Ev) : Ev := fun S => match f S with
  | some (.bool true, S1) => g S1
  | some (.bool false, S1) => some (.bool false, S1)
  | _ => none
def eOr (f g : Ev) : Ev := fun S => match f S with
  | some (.bool true, S1) => some (.bool true, S1)
  | some (.bool false, S1) => g S1
  | _ => none
def eNot (f : Ev) : Ev := fun S => match f S with
  | some (.bool b, S1) => some (.bool (!b), S1)
  | _ => none
theorem dOne {op : BoolOp} {f : Ev} (h : DE X a f) : DE X (.BoolOp op [a] pos) f := .mk (pe_one pe_w) h
theorem dAndV {f g : Ev} {rest : List Expr} (h : DE X a f) (h' : DE X (.BoolOp .And (b :: rest) pos) g) : DE X (.BoolOp .And (a :: b :: rest) pos) (eAnd f g) :=
  .mk (pe_and pe_w pe_w) fun C σ H S d S' Q hS hf q => by
    unfold eAnd at hf
    split at hf
    · rename_i S1 e
      refine h C σ H S _ S1 _ hS e fun v H1 k1 hS1 r => ⟨true, r, ?_⟩
      rw [if_pos rfl]
      exact h' C σ H1 S1 d S' Q hS1 hf fun v2 H2 k2 hS2 r2 => q v2 H2 (k1.trans k2) hS2 r2
    · rename_i S1 e
      cases hf
      refine h C σ H S _ _ _ hS e fun v H1 k1 hS1 r => ⟨false, r, ?_⟩
      rw [if_neg Bool.false_ne_true]
      exact q _ H1 k1 hS1 rfl
    · cases hf
theorem dOrV {f g : Ev} {rest : List Expr} (h : DE X a f) (h' : DE X (.BoolOp .Or (b :: rest) pos) g) : DE X (.BoolOp .Or (a :: b :: rest) pos) (eOr f g) :=
  .mk (pe_or pe_w pe_w) fun C σ H S d S' Q hS hf q => by
    unfold eOr at hf
    split at hf
    · rename_i S1 e
      cases hf
      refine h C σ H S _ _ _ hS e fun v H1 k1 hS1 r => ⟨true, r, ?_⟩
      rw [if_pos rfl]
      exact q _ H1 k1 hS1 rfl
    · rename_i S1 e
      refine h C σ H S _ S1 _ hS e fun v H1 k1 hS1 r => ⟨false, r, ?_⟩
      rw [if_neg Bool.false_ne_true]
      exact h' C σ H1 S1 d S' Q hS1 hf fun v2 H2 k2 hS2 r2 => q v2 H2 (k1.trans k2) hS2 r2
    · cases hf
theorem dNotV {f : Ev} (h : DE X a f) : DE X (.UnaryOp .Not a pos) (eNot f) :=
  .mk (pe_not pe_w) fun C σ H S d S' Q hS hf q => by
    unfold eNot at hf
    split at hf
    · rename_i b S1 e
      cases hf
      exact h C σ H S _ _ _ hS e fun v H1 k1 hS1 r => ⟨b, r, q _ H1 k1 hS1 rfl⟩
    · cases hf
def eIf (t : EvB) (f g : Ev) : Ev := fun S => do
  let (b, S1) ← t S
  if b then f S1 else g S1
theorem dIf {t : EvB} {f g : Ev} (ht : DT X c t) (h : DE X a f) (h' : DE X b g) : DE X (.IfExp c a b pos) (eIf t f g) :=
  .mk (pe_ifExp pt_w pe_w pe_w) fun C σ H S d S' Q hS hf q => by
    unfold eIf at hf
    obtain ⟨⟨k, S1⟩, h1, hf⟩ := bind_some' hf
    refine ht C σ H S k S1 _ hS h1 fun H1 k1 hS1 => ?_
    cases k with
    | true => exact h C σ H1 S1 d S' Q hS1 hf fun v2 H2 k2 hS2 r2 => q v2 H2 (k1.trans k2) hS2 r2
    | false => exact h' C σ H1 S1 d S' Q hS1 hf fun v2 H2 k2 hS2 r2 => q v2 H2 (k1.trans k2) hS2 r2
/-- a < b < c -/
def eChain (g g' : PD → PD → Option PD) (fa fb fc : Ev) : Ev := fun S => do
  let (x, S1) ← fa S
  let (y, S2) ← fb S1
  match g x y with
  | some (.bool true) => (do
    let (z, S3) ← fc S2
    let d ← g' y z
    some (d, S3))
  | some (.bool false) => some (.bool false, S2)
  | _ => none
theorem ev_chain {r r' : R2} {g g' : PD → PD → Option PD} {ta tb tc : TE} {fa fb fc : Ev} (hg : OpD K r g) (hg' : OpD K r' g') (ha : EvE K ta fa) (hb : EvE K tb fb) (hc : EvE K tc fc) : EvE K (tChain r r' ta tb tc) (eChain g g' fa fb fc) := fun C σ H S d S' Q hS hf q => by
  unfold eChain at hf
  obtain ⟨⟨x, S1⟩, h1, hf⟩ := bind_some' hf
  obtain ⟨⟨y, S2⟩, h2, hf⟩ := bind_some' hf
  dsimp only at hf
  refine ha C σ H S x S1 _ hS h1 fun vx H1 k1 hS1 r1 => ?_
  refine hb C σ H1 S1 y S2 _ hS1 h2 fun vy H2 k2 hS2 r2 => ?_
  split at hf
  · rename_i e
    refine hg C.hid H2 x y _ vx vy _ (r1.mono k2.vw) r2 e (fun p np => hS2.new np) fun v H3 sm rv => ⟨true, rv, ?_⟩
    rw [if_pos rfl]
    obtain ⟨⟨z, S3⟩, h3, hf⟩ := bind_some' hf
    obtain ⟨d', h4, hf⟩ := bind_some' hf
    cases hf
    refine hc C σ H3 S2 z _ _ (hS2.same sm) h3 fun vz H4 k4 hS4 r4 => ?_
    exact hg' C.hid H4 y z d vy vz Q ((r2.mono (Keep.of sm).vw).mono k4.vw) r4 h4 (fun p np => hS4.new np) fun w H5 sm5 rw' => q w H5 ((((k1.trans k2).trans (.of sm)).trans k4).trans (.of sm5)) (hS4.same sm5) rw'
  · rename_i e
    cases hf
    refine hg C.hid H2 x y _ vx vy _ (r1.mono k2.vw) r2 e (fun p np => hS2.new np) fun v H3 sm rv => ⟨false, rv, ?_⟩
    rw [if_neg Bool.false_ne_true]
    exact q _ H3 ((k1.trans k2).trans (.of sm)) (hS2.same sm) rfl
  · cases hf
theorem dChain {op op' : CmpOp} {r r' : R2} {g g' : PD → PD → Option PD} {fa fb fc : Ev} (ho : OpR X (compareOp op) r) (ho' : OpR X (compareOp op') r') (hg : OpD X.K r g) (hg' : OpD X.K r' g') (ha : DE X a fa) (hb : DE X b fb) (hc : DE X c fc)
    (hm : lastMarks [op, op'] [b, c] = false := by with_unfolding_all rfl) : DE X (.Compare a [op, op'] [b, c] pos) (eChain g g' fa fb fc) := .mk (pe_chain ho ho' pe_w pe_w pe_w hm) (ev_chain hg hg' ha hb hc)
theorem dChainT {op op' : CmpOp} {r r' : R2} {g g' : PD → PD → Option PD} {fa fb fc : Ev} (ho : OpR X (compareOp op) r) (ho' : OpR X (compareOp op') r') (hg : OpD X.K r g) (hg' : OpD X.K r' g') (ha : DE X a fa) (hb : DE X b fb) (hc : DE X c fc)
    (hm : lastMarks [op, op'] [b, c] = false := by with_unfolding_all rfl) : DT X (.Compare a [op, op'] [b, c] pos) (eB (eChain g g' fa fb fc)) := .mk (pt_chain ho ho' pe_w pe_w pe_w hm) (ev_test (ev_chain hg hg' ha hb hc))
/-! ## calls of built-ins -/
theorem ev_call {r : List V → Hp → VK → Prop} {g : List PD → Option PD} {t : TA} {f : EvL} (hg : CallD K r g) (ha : EvA K t f) : EvE K (tCB r t) (eCall g f) := fun C σ H S d S' Q hS hf q => by
  obtain ⟨ds, h1, h2⟩ := eCall_some hf
  refine ha C σ H S ds S' _ hS h1 fun vs H1 k1 hS1 r1 => ?_
  exact hg C.hid H1 ds d vs Q r1 h2 (fun p np => hS1.new np) fun v H' sm rv => q v H' (k1.trans (.of sm)) (hS1.same sm) rv
theorem ev_callF {r : List V → Hp → VK → Prop} {g : List PD → Option (List PD)} {t : TA} {f : EvL} (hg : CallF K r g) (ha : EvA K t f) : EvF K (tCB r t) (fCall g f) := fun C σ H S d S' Q hS hf q => by
  obtain ⟨ds, h1, h2⟩ := fCall_some hf
  refine ha C σ H S ds S' _ hS h1 fun vs H1 k1 hS1 r1 => ?_
  exact hg C.hid H1 ds d vs Q r1 h2 (fun p np => hS1.new np) fun p us np ru => new_list k1 hS1 ru q p np
/-- f(e, ..), f a built-in function or type that the module's names do not hide -/
theorem dCallB {x : Str} {id : String} {r : List V → Hp → VK → Prop} {g : List PD → Option PD} {f : EvL} {p : Pos} (hc : CallR X (.builtin id) r) (hg : CallD X.K r g) (hm : X.mg x = none) (hv : bootBuiltins x = some (.builtin id)) (ha : DA X (e :: es) f)
    (hgl : Gl X x := by rfl) (hn : x ≠ "__name__" := by decide) (hdb : (x == ("__debug__" : Str)) = false := by decide)
    (he : starEach (e :: es) X.env = (false, eval e X.env) :: starEach es X.env := by rfl) (hpl : (backTo pos (starEach es X.env)).any (·.1) = false := by rfl) : DE X (.Call (.Name x p) (e :: es) [] pos) (eCall g f) :=
  .mk (pe_callB hc hgl hm hv pa_w hn hdb he hpl) (ev_call hg ha)
theorem dCallBF {x : Str} {id : String} {r : List V → Hp → VK → Prop} {g : List PD → Option (List PD)} {f : EvL} {p : Pos} (hc : CallR X (.builtin id) r) (hg : CallF X.K r g) (hm : X.mg x = none) (hv : bootBuiltins x = some (.builtin id)) (ha : DA X (e :: es) f)
    (hgl : Gl X x := by rfl) (hn : x ≠ "__name__" := by decide) (hdb : (x == ("__debug__" : Str)) = false := by decide)
    (he : starEach (e :: es) X.env = (false, eval e X.env) :: starEach es X.env := by rfl) (hpl : (backTo pos (starEach es X.env)).any (·.1) = false := by rfl) : DF X (.Call (.Name x p) (e :: es) [] pos) (fCall g f) :=
  .mk (pe_callB hc hgl hm hv pa_w hn hdb he hpl) (ev_callF hg ha)
theorem dCallTy {x : Str} {T : String} {r : List V → Hp → VK → Prop} {g : List PD → Option PD} {f : EvL} {p : Pos} (hc : CallR X (.type T) r) (hg : CallD X.K r g) (hm : X.mg x = none) (hv : bootBuiltins x = some (.type T)) (ha : DA X (e :: es) f)
    (hgl : Gl X x := by rfl) (hn : x ≠ "__name__" := by decide) (hdb : (x == ("__debug__" : Str)) = false := by decide)
    (he : starEach (e :: es) X.env = (false, eval e X.env) :: starEach es X.env := by rfl) (hpl : (backTo pos (starEach es X.env)).any (·.1) = false := by rfl) : DE X (.Call (.Name x p) (e :: es) [] pos) (eCall g f) :=
  .mk (pe_callTy hc hgl hm hv pa_w hn hdb he hpl) (ev_call hg ha)
theorem dCallTyF {x : Str} {T : String} {r : List V → Hp → VK → Prop} {g : List PD → Option (List PD)} {f : EvL} {p : Pos} (hc : CallR X (.type T) r) (hg : CallF X.K r g) (hm : X.mg x = none) (hv : bootBuiltins x = some (.type T)) (ha : DA X (e :: es) f)
    (hgl : Gl X x := by rfl) (hn : x ≠ "__name__" := by decide) (hdb : (x == ("__debug__" : Str)) = false := by decide)
    (he : starEach (e :: es) X.env = (false, eval e X.env) :: starEach es X.env := by rfl) (hpl : (backTo pos (starEach es X.env)).any (·.1) = false := by rfl) : DF X (.Call (.Name x p) (e :: es) [] pos) (fCall g f) :=
  .mk (pe_callTy hc hgl hm hv pa_w hn hdb he hpl) (ev_callF hg ha)
/-- a built-in that the module imports: gcd -/
theorem dCallBI {x : Str} {id : String} {r : List V → Hp → VK → Prop} {g : List PD → Option PD} {f : EvL} {p : Pos} (hc : CallR X (.builtin id) r) (hg : CallD X.K r g) (hm : X.mg x = some (.builtin id)) (ha : DA X (e :: es) f)
    (hgl : Gl X x := by rfl) (hdb : (x == ("__debug__" : Str)) = false := by decide)
    (he : starEach (e :: es) X.env = (false, eval e X.env) :: starEach es X.env := by rfl) (hpl : (backTo pos (starEach es X.env)).any (·.1) = false := by rfl) : DE X (.Call (.Name x p) (e :: es) [] pos) (eCall g f) :=
  .mk (pe_callBfun hc hgl hm pa_w hdb he hpl) (ev_call hg ha)
end
end DK
namespace DK
open PySem PySem.Spec PyProof.Rows L2
section
variable {K : PySem.W.Frag} {X : Cx}
theorem bt (b : String) {v : Value} (h : bootBuiltins (Str.ofString b) = some v := by decide +kernel) : bootBuiltins (Str.ofString b) = some v := h
/-! ## ints -/
def gI (C : Int → Int → Bool) (f : Int → Int → PD) : PD → PD → Option PD
  | .int i, .int j => if C i j then some (f i j) else none
  | _, _ => none
theorem gI_some {C : Int → Int → Bool} {f : Int → Int → PD} {a b d : PD} (h : gI C f a b = some d) : ∃ i j, a = .int i ∧ b = .int j ∧ C i j = true ∧ d = f i j := by
  unfold gI at h
  split at h
  · rename_i i j
    split at h
    · rename_i hc
      cases h
      exact ⟨i, j, rfl, rfl, hc, rfl⟩
    · cases h
  · cases h
theorem od_I {C : Int → Int → Bool} {D : Int → Int → Prop} {f : Int → Int → PD} {g : Int → Int → V} (hc : ∀ i j, C i j = true → D i j) (hf : ∀ i j H, Rep K H (f i j) (g i j)) : OpD K (rI D g) (gI C f) := fun O H a b d x y Q ra rb hg fr q => by
  obtain ⟨i, j, rfl, rfl, h, rfl⟩ := gI_some hg
  cases (show x = .int i from ra)
  cases (show y = .int j from rb)
  exact ⟨i, j, rfl, rfl, hc i j h, q _ H (Same.refl H) (hf i j _)⟩
theorem od_I0 {f : Int → Int → PD} {g : Int → Int → V} (hf : ∀ i j H, Rep K H (f i j) (g i j)) : OpD K (rI0 g) (gI (fun _ _ => true) f) := fun O H a b d x y Q ra rb hg fr q => by
  obtain ⟨i, j, rfl, rfl, h, rfl⟩ := gI_some hg
  cases (show x = .int i from ra)
  cases (show y = .int j from rb)
  exact ⟨i, j, rfl, rfl, q _ H (Same.refl H) (hf i j _)⟩
/-- list + list -/
def gCat : PD → PD → Option PD
  | .list xs, .list ys => if xs.length + ys.length ≤ 100000 then some (.list (xs ++ ys)) else none
  | _, _ => none
theorem hp_lst {O : List Addr} {H : Hp} {ds : List PD} {v : V} (r : Rep K (hide O H) (.list ds) v) : ∃ a vs, v = .ref a ∧ a ∉ O ∧ H a = some (.lst vs) ∧ RepL K (hide O H) ds vs := by
  obtain ⟨a, vs, h1, h2, h3⟩ := r
  obtain ⟨n, h2⟩ := hide_some.mp h2
  exact ⟨a, vs, h1, n, h2, h3⟩
theorem size_of {n : Nat} (h : n ≤ 100000) : n ≤ sizeLine := by rw [sizeLine_eq]; omega
theorem od_cat : OpD K rCat gCat := fun O H a b d x y Q ra rb hg fr q => by
  unfold gCat at hg
  split at hg
  · rename_i xs ys
    split at hg
    · rename_i hl
      cases hg
      obtain ⟨l, vs, rfl, nl, h1, r1⟩ := hp_lst ra
      obtain ⟨m, ws, rfl, nm, h2, r2⟩ := hp_lst rb
      refine ⟨l, m, vs, ws, rfl, rfl, h1, h2, size_of (by rw [r1.length, r2.length]; exact hl), fun p np => ?_⟩
      have sm := same_upd (o := HO.lst (vs ++ ws)) np
      exact q _ _ sm ⟨p, vs ++ ws, rfl, hide_some.mpr ⟨fr p np, upd_same⟩, (r1.append r2).mono (Keep.of sm).vw⟩
    · cases hg
  · cases hg
def gAdd : PD → PD → Option PD := orD (gI (fun _ _ => true) fun i j => .int (i + j)) gCat
theorem o_add : OpR X (binaryOp .Add) (fun x y H Q => rI0 (fun i j => .int (i + j)) x y H Q ∨ rCat x y H Q) := op_add.or op_cat
theorem od_add : OpD K (fun x y H Q => rI0 (fun i j => .int (i + j)) x y H Q ∨ rCat x y H Q) gAdd := (od_I0 (by intros; rfl)).or od_cat
theorem dAdd {a b : Expr} {pos : Pos} {fa fb : Ev} (ha : DE X a fa) (hb : DE X b fb) : DE X (.BinOp a .Add b pos) (eOp gAdd fa fb) := dOp o_add od_add ha hb
def gSub : PD → PD → Option PD := gI (fun _ _ => true) fun i j => .int (i - j)
theorem dSub {a b : Expr} {pos : Pos} {fa fb : Ev} (ha : DE X a fa) (hb : DE X b fb) : DE X (.BinOp a .Sub b pos) (eOp gSub fa fb) := dOp op_sub (od_I0 (by intros; rfl)) ha hb
def okMul (i j : Int) : Bool := decide (i.natAbs.log2 + j.natAbs.log2 < 1000000) || (decide (i.natAbs < 2 ^ 64) || decide (j.natAbs < 2 ^ 64))
theorem okMul_ok {i j : Int} (h : okMul i j = true) : CMulW i j ∨ CMul i j := by
  unfold okMul at h
  simp only [Bool.or_eq_true, decide_eq_true_eq] at h
  rcases h with h | h | h
  · exact .inl h
  · exact .inr (.inl ⟨by omega, by omega⟩)
  · exact .inr (.inr ⟨by omega, by omega⟩)
theorem o_mulA : OpR X (binaryOp .Mult) (rI (fun i j => CMulW i j ∨ CMul i j) fun i j => .int (i * j)) := by
  intro pins s σ H x y v u Q I rx ry h
  obtain ⟨i, j, e1, e2, hc | hc, q⟩ := h
  · exact op_mulW pins s σ H x y v u Q I rx ry ⟨i, j, e1, e2, hc, q⟩
  · exact op_mul pins s σ H x y v u Q I rx ry ⟨i, j, e1, e2, hc, q⟩
/-- a list times an int -/
def gRep : PD → PD → Option PD
  | .list xs, .int k => if xs.length * k.toNat ≤ 100000 ∧ k < 100000 ∧ -100000 < k then some (.list (List.replicate k.toNat xs).flatten) else none
  | _, _ => none
theorem RepL.rep {H : Hp} {ds : List PD} {vs : List V} (r : RepL K H ds vs) : ∀ k : Nat, RepL K H (List.replicate k ds).flatten (List.replicate k vs).flatten
  | 0 => rfl
  | k + 1 => by
    rw [List.replicate_succ, List.replicate_succ, List.flatten_cons, List.flatten_cons]
    exact r.append (RepL.rep r k)
theorem od_rep : OpD K rRep gRep := fun O H a b d x y Q ra rb hg fr q => by
  unfold gRep at hg
  split at hg
  · rename_i xs k
    split at hg
    · rename_i hl
      obtain ⟨hl, hk, hk2⟩ := hl
      cases hg
      obtain ⟨l, vs, rfl, nl, h1, r1⟩ := hp_lst ra
      cases (show y = .int k from rb)
      refine ⟨l, k, vs, rfl, rfl, h1, by omega, by omega, size_of (by rw [r1.length]; exact hl), fun p np => ?_⟩
      have sm := same_upd (o := HO.lst (List.replicate k.toNat vs).flatten) np
      exact q _ _ sm ⟨p, _, rfl, hide_some.mpr ⟨fr p np, upd_same⟩, (r1.rep k.toNat).mono (Keep.of sm).vw⟩
    · cases hg
  · cases hg
def gMul : PD → PD → Option PD := orD (gI okMul fun i j => .int (i * j)) gRep
theorem o_mul : OpR X (binaryOp .Mult) (fun x y H Q => rI (fun i j => CMulW i j ∨ CMul i j) (fun i j => .int (i * j)) x y H Q ∨ rRep x y H Q) := o_mulA.or op_rep
theorem od_mul : OpD K (fun x y H Q => rI (fun i j => CMulW i j ∨ CMul i j) (fun i j => .int (i * j)) x y H Q ∨ rRep x y H Q) gMul := (od_I (by intro i j h; exact okMul_ok h) (by intros; rfl)).or od_rep
theorem dMul {a b : Expr} {pos : Pos} {fa fb : Ev} (ha : DE X a fa) (hb : DE X b fb) : DE X (.BinOp a .Mult b pos) (eOp gMul fa fb) := dOp o_mul od_mul ha hb
/-- a divisor of at most 300 digits (of 30 bits), or a dividend of at most 450 -/
def CDivB (i j : Int) : Prop := 0 < j ∧ (j.natAbs.log2 < 9000 ∨ i.natAbs.log2 < 13400)
theorem divB_ok {i j : Int} (h : CDivB i j) : Builtin.divisionGoesByPylong i j = false := by
  rcases h.2 with h2 | h2
  · exact PyProof.noPylong_of_log2 h2
  · show (decide ((if j == 0 then 0 else j.natAbs.log2 / 30 + 1) > 300) && decide ((if i == 0 then 0 else i.natAbs.log2 / 30 + 1) > (if j == 0 then 0 else j.natAbs.log2 / 30 + 1) + 150)) = false
    by_cases hd : (if j == 0 then 0 else j.natAbs.log2 / 30 + 1) > 300
    · have : ¬ (if i == 0 then 0 else i.natAbs.log2 / 30 + 1) > (if j == 0 then 0 else j.natAbs.log2 / 30 + 1) + 150 := by
        split <;> omega
      rw [decide_eq_false this, Bool.and_false]
    · rw [decide_eq_false hd, Bool.false_and]
theorem op_fdivB {X : Cx} : OpR X (binaryOp .FloorDiv) (rI CDivB fun i j => .int (i / j)) := opI fun i j _ _ _ _ _ hc q => by
  have h1 : (0 : Int) < j := hc.1
  exact floordiv_int (by omega) (by rw [Int.fdiv_eq_ediv_of_nonneg i (by omega)]; exact q) (.inl (divB_ok hc))
def okDiv (i j : Int) : Bool := decide (0 < j ∧ (j.natAbs.log2 < 9000 ∨ i.natAbs.log2 < 13400))
theorem okDiv_ok {i j : Int} (h : okDiv i j = true) : CDivB i j := by
  unfold okDiv at h
  have z := of_decide_eq_true h
  exact z
def gDiv : PD → PD → Option PD := gI okDiv fun i j => .int (i / j)
theorem dDiv {a b : Expr} {pos : Pos} {fa fb : Ev} (ha : DE X a fa) (hb : DE X b fb) : DE X (.BinOp a .FloorDiv b pos) (eOp gDiv fa fb) := dOp op_fdivB (od_I (by intro i j h; exact okDiv_ok h) (by intros; rfl)) ha hb
def gMod : PD → PD → Option PD := gI (fun _ j => decide (0 < j)) fun i j => .int (i % j)
theorem dMod {a b : Expr} {pos : Pos} {fa fb : Ev} (ha : DE X a fa) (hb : DE X b fb) : DE X (.BinOp a .Mod b pos) (eOp gMod fa fb) := dOp op_mod (od_I (by intro i j h; exact of_decide_eq_true h) (by intros; rfl)) ha hb
def gPow : PD → PD → Option PD := gI (fun i j => decide (0 ≤ j ∧ j ≤ 1000 ∧ i.natAbs < 2 ^ 64)) fun i j => .int (i ^ j.toNat)
theorem dPow {a b : Expr} {pos : Pos} {fa fb : Ev} (ha : DE X a fa) (hb : DE X b fb) : DE X (.BinOp a .Pow b pos) (eOp gPow fa fb) :=
  dOp op_pow (od_I (by intro i j h; have h := of_decide_eq_true h; exact ⟨h.1, by omega, h.2.2⟩) (by intros; rfl)) ha hb
def gNeg : PD → Option PD
  | .int i => some (.int (-i))
  | _ => none
theorem dNeg {a : Expr} {pos : Pos} {fa : Ev} (ha : DE X a fa) : DE X (.UnaryOp .USub a pos) (eUn gNeg fa) := dUn un_neg (fun O H a d x Q ra hg fr q => by
  unfold gNeg at hg
  split at hg
  · rename_i i
    cases hg
    cases (show x = .int i from ra)
    exact ⟨i, rfl, q _ H (Same.refl H) rfl⟩
  · cases hg) ha
/-! ## comparisons -/
def gCmp (p : Int → Int → Bool) : PD → PD → Option PD := gI (fun _ _ => true) fun i j => .bool (p i j)
abbrev gLt : PD → PD → Option PD := gCmp fun i j => decide (i < j)
abbrev gLe : PD → PD → Option PD := gCmp fun i j => decide (i ≤ j)
abbrev gGt : PD → PD → Option PD := gCmp fun i j => decide (j < i)
abbrev gGe : PD → PD → Option PD := gCmp fun i j => decide (j ≤ i)
theorem od_cmp {p : Int → Int → Bool} : OpD K (rI0 fun i j => .bl (p i j)) (gCmp p) := od_I0 (by intros; rfl)
/-- of plain shape -/
def shpN : Nat → PD → Bool
  | _, .none => true
  | _, .bool _ => true
  | _, .int _ => true
  | _, .str x => PyData.strOk x
  | n + 1, .list xs => xs.all fun d => shpN n d
  | n + 1, .tuple xs => xs.all fun d => shpN n d
  | _, _ => false
theorem shpN_lay : ∀ (n : Nat) (d : PD), shpN n d = true → d.canLay0 = true ∧ d.depth ≤ n := by
  intro n
  induction n with
  | zero =>
    intro d h
    cases d <;> simp [shpN, PyData.canLay0, PyData.depth] at h ⊢
    exact h
  | succ n ih =>
    have al : ∀ xs : List PD, (∀ x ∈ xs, shpN n x = true) → PyData.canLayAll0 xs = true ∧ PyData.depthAll xs ≤ n := by
      intro xs
      induction xs with
      | nil => intro _; simp [PyData.canLayAll0, PyData.depthAll]
      | cons y r ihr =>
        intro h
        obtain ⟨h1, h2⟩ := ih y (h y List.mem_cons_self)
        obtain ⟨h3, h4⟩ := ihr fun x hx => h x (List.mem_cons_of_mem _ hx)
        simp only [PyData.canLayAll0, PyData.depthAll, h1, h3, Bool.and_self, true_and]
        omega
    intro d h
    cases d with
    | list xs =>
      have h' : ∀ x ∈ xs, shpN n x = true := by simpa [shpN] using h
      obtain ⟨h1, h2⟩ := al xs h'
      simp only [PyData.canLay0, PyData.depth, h1, true_and]
      omega
    | tuple xs =>
      have h' : ∀ x ∈ xs, shpN n x = true := by simpa [shpN] using h
      obtain ⟨h1, h2⟩ := al xs h'
      simp only [PyData.canLay0, PyData.depth, h1, true_and]
      omega
    | str x => simp [shpN, PyData.canLay0, PyData.depth] at h ⊢; exact h
    | none => simp [PyData.canLay0, PyData.depth]
    | bool b => simp [PyData.canLay0, PyData.depth]
    | int i => simp [PyData.canLay0, PyData.depth]
    | dict kvs => simp [shpN] at h
def shp (d : PD) : Bool := shpN 20 d
theorem shp_shaped {d : PD} (h : shp d = true) : SeqAt.shaped d = true := by
  obtain ⟨h1, h2⟩ := shpN_lay 20 d h
  unfold SeqAt.shaped
  rw [h1, Bool.true_and]
  exact decide_eq_true (by omega)
def gEqN (neg : Bool) : PD → PD → Option PD
  | .str x, .str y => some (.bool (neg != decide (x = y)))
  | a, b => if shp a && shp b then some (.bool (neg != PyData.eqv a b)) else none
abbrev gEq : PD → PD → Option PD := gEqN false
abbrev gNe : PD → PD → Option PD := gEqN true
def rEqA (K : PySem.W.Frag) : R2 := fun x y H Q => rEq x y H Q ∨ rEqD K x y H Q
def rNeA (K : PySem.W.Frag) : R2 := fun x y H Q => rNe x y H Q ∨ rNeD K x y H Q
theorem o_eq (hu : X.A.units + 64 < cLine) : OpR X (compareOp .Eq) (rEqA X.K) := op_eq.or (op_eqD hu)
theorem o_ne (hu : X.A.units + 64 < cLine) : OpR X (compareOp .NotEq) (rNeA X.K) := op_ne.or (op_neD hu)
theorem od_eq : OpD K (rEqA K) gEq := fun O H a b d x y Q ra rb hg fr q => by
  unfold gEq gEqN at hg
  split at hg
  · rename_i u w
    cases hg
    cases (show x = .str u from ra)
    cases (show y = .str w from rb)
    refine .inl ⟨rfl, q _ H (Same.refl H) ?_⟩
    show V.bl (decide (V.str u = V.str w)) = V.bl (false != decide (u = w))
    simp
  · split at hg
    · rename_i h
      cases hg
      rw [Bool.and_eq_true] at h
      refine .inr ⟨a, b, (ra.mono hide_le).dp, (rb.mono hide_le).dp, shp_shaped h.1, shp_shaped h.2, q _ H (Same.refl H) ?_⟩
      show V.bl (PyData.eqv a b) = V.bl (false != PyData.eqv a b)
      simp
    · cases hg
theorem od_ne : OpD K (rNeA K) gNe := fun O H a b d x y Q ra rb hg fr q => by
  unfold gNe gEqN at hg
  split at hg
  · rename_i u w
    cases hg
    cases (show x = .str u from ra)
    cases (show y = .str w from rb)
    refine .inl ⟨rfl, q _ H (Same.refl H) ?_⟩
    show V.bl (!decide (V.str u = V.str w)) = V.bl (true != decide (u = w))
    simp
  · split at hg
    · rename_i h
      cases hg
      rw [Bool.and_eq_true] at h
      refine .inr ⟨a, b, (ra.mono hide_le).dp, (rb.mono hide_le).dp, shp_shaped h.1, shp_shaped h.2, q _ H (Same.refl H) ?_⟩
      show V.bl (!PyData.eqv a b) = V.bl (true != PyData.eqv a b)
      simp
    · cases hg
/-- in a list, at any depth; in a tuple of flat things -/
def flatD : PD → Bool
  | .none | .int _ | .str _ => true
  | _ => false
def gIn (neg : Bool) : PD → PD → Option PD := fun a b => match b with
  | .list ds => if shp a && shp (.list ds) then some (.bool (neg != ds.any fun z => PyData.eqv z a)) else none
  | .tuple ds => if flatD a && ds.all flatD then some (.bool (neg != ds.any fun z => PyData.eqv z a)) else none
  | _ => none
def rInA (K : PySem.W.Frag) (neg : Bool) : R2 := fun x y H Q => (if neg then rNotInD K x y H Q else rInD K x y H Q) ∨ rIn K neg x y H Q
theorem flat_rep {H : Hp} {d : PD} {v : V} (h : flatD d = true) (r : Rep K H d v) : flatV v = true := by
  cases d with
  | none => cases (show v = .non from r); rfl
  | int i => cases (show v = .int i from r); rfl
  | str i => cases (show v = .str i from r); rfl
  | bool b => cases h
  | list ds => cases h
  | tuple ds => cases h
  | dict ds => cases h
theorem flat_all {H : Hp} : ∀ {ds : List PD} {vs : List V}, RepL K H ds vs → ds.all flatD = true → vs.all flatV = true
  | [], vs, r, _ => by cases (show vs = [] from r); rfl
  | d :: ds, vs, r, h => by
    obtain ⟨v, r', h1, h2, h3⟩ := r
    subst h1
    simp only [List.all_cons, Bool.and_eq_true] at h ⊢
    exact ⟨flat_rep h.1 h2, flat_all h3 h.2⟩
theorem flat_eqv {H : Hp} {d e : PD} {v w : V} (h : flatD d = true) (h' : flatD e = true) (r : Rep K H d v) (r' : Rep K H e w) : eqV v w = PyData.eqv d e := by
  cases d <;> cases e <;> first | (cases h; done) | (cases h'; done) | skip
  all_goals
    simp only [Rep] at r r'
    subst r
    subst r'
    simp [eqV, PyData.eqv]
  all_goals first
    | rfl
    | (rw [Bool.eq_iff_iff]; simp)
theorem flat_in {H : Hp} {a : PD} {x : V} (ha : flatD a = true) (ra : Rep K H a x) : ∀ {ds : List PD} {vs : List V}, RepL K H ds vs → ds.all flatD = true → inV x vs = ds.any fun z => PyData.eqv z a
  | [], vs, r, _ => by cases (show vs = [] from r); rfl
  | d :: ds, vs, r, h => by
    obtain ⟨v, r', h1, h2, h3⟩ := r
    subst h1
    simp only [List.all_cons, Bool.and_eq_true] at h
    have ih := flat_in ha ra h3 h.2
    unfold inV at ih ⊢
    rw [List.any_cons, List.any_cons, ih, flat_eqv h.1 ha h2 ra]
theorem od_in {neg : Bool} : OpD K (rInA K neg) (gIn neg) := fun O H a b d x y Q ra rb hg fr q => by
  unfold gIn at hg
  split at hg
  · rename_i ds
    split at hg
    · rename_i h
      cases hg
      rw [Bool.and_eq_true] at h
      refine .inl ?_
      cases neg with
      | false => exact ⟨a, ds, (ra.mono hide_le).dp, (rb.mono hide_le).dp, shp_shaped h.1, shp_shaped h.2, q _ H (Same.refl H) (by simp [Rep])⟩
      | true => exact ⟨a, ds, (ra.mono hide_le).dp, (rb.mono hide_le).dp, shp_shaped h.1, shp_shaped h.2, q _ H (Same.refl H) (by simp [Rep])⟩
    · cases hg
  · rename_i ds
    split at hg
    · rename_i h
      cases hg
      rw [Bool.and_eq_true] at h
      obtain ⟨p, vs, rfl, h1, h2⟩ := rb
      refine .inr ⟨p, vs, rfl, .inr (sqT_mono hide_le h1), flat_rep h.1 ra, flat_all h2 h.2, q _ H (Same.refl H) ?_⟩
      rw [flat_in h.1 ra h2 h.2]
      cases neg <;> simp [Rep]
    · cases hg
  · cases hg
theorem o_in (hu : X.A.units + 65 < cLine) : OpR X (compareOp .In) (rInA X.K false) := (op_inD hu).or op_in_seq
theorem o_nin (hu : X.A.units + 65 < cLine) : OpR X (compareOp .NotIn) (rInA X.K true) := (op_notInD hu).or op_notIn_seq
/-- is None -/
def gIs (neg : Bool) : PD → PD → Option PD := fun a b => match b with
  | .none => some (.bool (neg != (match a with | .none => true | _ => false)))
  | _ => none
theorem rep_non {H : Hp} {d : PD} {v : V} (r : Rep K H d v) : decide (v = .non) = (match d with | .none => true | _ => false) := by
  cases d with
  | none => cases (show v = .non from r); rfl
  | bool b => cases (show v = .bl b from r); rfl
  | int i => cases (show v = .int i from r); rfl
  | str x => cases (show v = .str x from r); rfl
  | list ds => obtain ⟨a, vs, h1, _⟩ := r; subst h1; rfl
  | tuple ds => obtain ⟨a, vs, h1, _⟩ := r; subst h1; rfl
  | dict _ => exact r.elim
theorem od_is : OpD K (fun x y H Q => y = .non ∧ Q (.bl (decide (x = .non))) H) (gIs false) := fun O H a b d x y Q ra rb hg fr q => by
  unfold gIs at hg
  split at hg
  · cases hg
    exact ⟨rb, q _ H (Same.refl H) (by have z := rep_non ra; cases a <;> simp_all [Rep])⟩
  · cases hg
theorem od_isn : OpD K (fun x y H Q => y = .non ∧ Q (.bl (!decide (x = .non))) H) (gIs true) := fun O H a b d x y Q ra rb hg fr q => by
  unfold gIs at hg
  split at hg
  · cases hg
    exact ⟨rb, q _ H (Same.refl H) (by have z := rep_non ra; cases a <;> simp_all [Rep])⟩
  · cases hg
end
end DK
namespace DK
open PySem PySem.Spec PyProof.Rows L2
section
variable {K : PySem.W.Frag} {X : Cx}
/-! ## subscripts -/
theorem RepL.atI {H : Hp} {ds : List PD} {vs : List V} {i : Int} {d : PD} (r : RepL K H ds vs) (h : atI ds i = some d) : ∃ v, L2.atI vs i = some v ∧ Rep K H d v := by
  unfold L2.atI at h ⊢
  rw [r.length]
  cases e : ixN ds.length i with
  | none => rw [e] at h; cases h
  | some j =>
    rw [e] at h
    exact r.getD (show ds[j]? = some d from h)
def gIx : PD → PD → Option PD
  | .list xs, .int i => atI xs i
  | .tuple xs, .int i => atI xs i
  | _, _ => none
def rIxA (K : PySem.W.Frag) : R2 := fun x y H Q => rIxL K x y H Q ∨ rIxT K x y H Q
theorem ix_a : IxR X (rIxA X.K) := ix_list.or ix_tup
theorem od_ix : OpD K (rIxA K) gIx := fun O H a b d x y Q ra rb hg fr q => by
  unfold gIx at hg
  split at hg
  · rename_i xs i
    obtain ⟨p, vs, rfl, n, h1, r⟩ := hp_lst ra
    cases (show y = .int i from rb)
    obtain ⟨v, h2, h3⟩ := r.atI hg
    exact .inl ⟨p, vs, i, v, rfl, rfl, SqL.of h1, h2, q v H (Same.refl H) h3⟩
  · rename_i xs i
    obtain ⟨p, vs, rfl, h1, r⟩ := ra
    cases (show y = .int i from rb)
    obtain ⟨v, h2, h3⟩ := r.atI hg
    exact .inr ⟨p, vs, i, v, rfl, rfl, sqT_mono hide_le h1, h2, q v H (Same.refl H) h3⟩
  · cases hg
theorem dIx {a b : Expr} {pos : Pos} {fa fb : Ev} (ha : DE X a fa) (hb : DE X b fb) (hs : PlainIx b := by exact fun _ _ => rfl) : DE X (.Subscript a b pos) (eOp gIx fa fb) := .mk (pe_ix ix_a pe_w pe_w hs) (ev_op od_ix ha hb)
/-- the value of an owned name -/
def OwN (X : Cx) (e : Expr) (i : Nat) : Prop := PE X e (tVar i)
theorem owN (i : Nat) {x : Str} {pos : Pos} (hN : X.N[i]? = some x := by rfl) (hv : Vis X.env.scope x := by first | exact Or.inl rfl | exact Or.inr (Or.inl rfl) | exact Or.inr (Or.inr rfl)) (hd : (x == ("__debug__" : Str)) = false := by decide)
    (hcd : (x == ("__classdict__" : Str)) = false := by decide) : OwN X (.Name x pos) i := pe_var hN hv hd hcd
def isOw : Option Sl → Bool
  | some (.ow _) => true
  | _ => false
theorem isOw_some {x : Option Sl} (h : isOw x = true) : ∃ xs, x = some (.ow xs) := by
  unfold isOw at h
  split at h
  · exact ⟨_, rfl⟩
  · cases h
/-- an owned list at a place -/
def eIxO (i : Nat) (f : Ev) : Ev := fun S => if isOw S[i]? then (do
  let (k, S1) ← f S
  match S1[i]? with
  | some (.ow xs) => (do
    let d ← gIx (.list xs) k
    some (d, S1))
  | _ => none) else none
theorem Hold.ref_same {C : Ctx} {σ : Sg} {H H1 : Hp} {S S1 : Stt} (h : Hold K C σ H S) (h1 : Hold K C σ H1 S1) {i : Nat} {a : Addr} {xs : List PD} (e : σ[i]? = some (some (.ref a))) (e1 : S1[i]? = some (.ow xs)) :
    (i, a) ∈ C.O ∧ ∃ vs, H1 a = some (.lst vs) ∧ RepL K (hide C.hid H1) xs vs := by
  obtain ⟨b, vs, q0, q1, q2, q3⟩ := h1.at_ow e1
  rw [e] at q1
  cases q1
  exact ⟨q0, vs, q2, q3⟩
theorem dIxO {a b : Expr} {pos : Pos} {i : Nat} {fb : Ev} (ha : OwN X a i) (hb : DE X b fb) (hs : PlainIx b := by exact fun _ _ => rfl) : DE X (.Subscript a b pos) (eIxO i fb) :=
  .mk (pe_ix ix_a ha pe_w hs) fun C σ H S d S' Q hS hf q => by
    unfold eIxO at hf
    split at hf
    · rename_i hw
      obtain ⟨xs0, e0⟩ := isOw_some hw
      obtain ⟨ad, vs0, p0, p1, p2, p3⟩ := hS.at_ow e0
      obtain ⟨⟨k, S1⟩, h1, hf⟩ := bind_some' hf
      dsimp only at hf
      refine ⟨.ref ad, p1, hb C σ H S k S1 _ hS h1 fun y H1 k1 hS1 r1 => ?_⟩
      split at hf
      · rename_i xs e
        obtain ⟨d', h2, hf⟩ := bind_some' hf
        cases hf
        obtain ⟨q0, vs, q2, q3⟩ := Hold.ref_same hS hS1 p1 e
        unfold gIx at h2
        split at h2
        · rename_i xs' j he
          cases he
          cases (show y = .int j from r1)
          obtain ⟨v, w1, w2⟩ := q3.atI h2
          exact .inl ⟨ad, vs, j, v, rfl, rfl, SqL.of q2, w1, q v H1 k1 hS1 w2⟩
        · rename_i he; cases he
        · cases h2
      · cases hf
    · cases hf
/-! ## slices -/
abbrev EvO := Stt → Option (Option Int × Stt)
def EvOk (K : PySem.W.Frag) (t : TO) (f : EvO) : Prop := ∀ (C : Ctx) (σ : Sg) (H : Hp) (S : Stt) (o : Option Int) (S' : Stt) (Q : Option Int → Hp → Prop), Hold K C σ H S → f S = some (o, S') →
  (∀ H', Kp C H H' → Hold K C σ H' S' → Q o H') → t σ H Q
structure DO (X : Cx) (e : Option Expr) (f : EvO) : Prop where
  ok : ∃ t, PO X e t ∧ EvOk X.K t f
def oNo : EvO := fun S => some (none, S)
def oSo (f : Ev) : EvO := fun S => match f S with
  | some (.int i, S1) => some (some i, S1)
  | _ => none
theorem dNo : DO X none oNo := ⟨_, po_none, fun C σ H S o S' Q hS hf q => by cases hf; exact q H Kp.refl hS⟩
theorem dSo {e : Expr} {f : Ev} (h : DE X e f) : DO X (some e) (oSo f) := ⟨_, po_some pe_w, fun C σ H S o S' Q hS hf q => by
  unfold oSo at hf
  split at hf
  · rename_i i S1 e
    cases hf
    refine h C σ H S _ _ _ hS e fun v H1 k1 hS1 r1 => ⟨i, r1, q H1 k1 hS1⟩
  · cases hf⟩
def cutL {α : Type} (xs : List α) (lo hi : Option Int) : List α := (xs.drop (HT.sIx xs.length 0 lo)).take (HT.sIx xs.length xs.length hi - HT.sIx xs.length 0 lo)
theorem RepL.cut {H : Hp} {ds : List PD} {vs : List V} (r : RepL K H ds vs) (lo hi : Option Int) : RepL K H (cutL ds lo hi) (cutV vs lo hi) := by
  unfold cutL cutV
  rw [r.length]
  exact (r.drop _).take _
def gSl (d : PD) (lo hi : Option Int) : Option PD := match d with
  | .list xs => some (.list (cutL xs lo hi))
  | .tuple xs => some (.tuple (cutL xs lo hi))
  | _ => none
def eSl (f : Ev) (g h : EvO) : Ev := fun S => do
  let (d, S1) ← f S
  let (lo, S2) ← g S1
  let (hi, S3) ← h S2
  let r ← gSl d lo hi
  some (r, S3)
theorem cut_whole {α : Type} {xs : List α} {lo hi : Option Int} (h : HT.sIx xs.length 0 lo = 0 ∧ HT.sIx xs.length xs.length hi = xs.length) : cutL xs lo hi = xs := by
  unfold cutL
  rw [h.1, h.2]
  simp
theorem sl_a : SlR X (fun x lo hi H Q => rSlL X.K x lo hi H Q ∨ rSlA X.K x lo hi H Q) := sl_list.or sl_tupA
theorem dSl {e : Expr} {lo hi : Option Expr} {f : Ev} {g h : EvO} {p2 pos : Pos} (he : DE X e f) (hl : DO X lo g) (hh : DO X hi h) : DE X (.Subscript e (.Slice lo hi none p2) pos) (eSl f g h) := by
  obtain ⟨tl, pl, el⟩ := hl.ok
  obtain ⟨th, ph, eh⟩ := hh.ok
  refine .mk (pe_slice sl_a pe_w pl ph) fun C σ H S d S' Q hS hf q => ?_
  unfold eSl at hf
  obtain ⟨⟨d0, S1⟩, h1, hf⟩ := bind_some' hf
  obtain ⟨⟨o1, S2⟩, h2, hf⟩ := bind_some' hf
  obtain ⟨⟨o2, S3⟩, h3, hf⟩ := bind_some' hf
  obtain ⟨r0, h4, hf⟩ := bind_some' hf
  cases hf
  refine he C σ H S d0 S1 _ hS h1 fun v H1 k1 hS1 r1 => ?_
  refine el C σ H1 S1 o1 S2 _ hS1 h2 fun H2 k2 hS2 => ?_
  refine eh C σ H2 S2 o2 _ _ hS2 h3 fun H3 k3 hS3 => ?_
  have r3 := (r1.mono k2.vw).mono k3.vw
  cases d0 with
  | list xs =>
    cases (show some (PyData.list (cutL xs o1 o2)) = some d from h4)
    obtain ⟨p, vs, rfl, n, hp, r⟩ := hp_lst r3
    refine .inl ⟨p, vs, rfl, SqL.of hp, fun l nl => ?_⟩
    have sm := same_upd (o := HO.lst (cutV vs o1 o2)) nl
    exact q _ _ (((k1.trans k2).trans k3).trans (.of sm)) (hS3.same sm) ⟨l, _, rfl, hide_some.mpr ⟨hS3.new nl, upd_same⟩, (r.cut o1 o2).mono (Keep.of sm).vw⟩
  | tuple xs =>
    cases (show some (PyData.tuple (cutL xs o1 o2)) = some d from h4)
    obtain ⟨p, vs, rfl, hp, r⟩ := r3
    refine .inr ⟨p, vs, rfl, sqT_mono hide_le hp, fun hw => ?_, fun hw l nl => ?_⟩
    · have ew : cutL xs o1 o2 = xs := cut_whole (by rw [← r.length]; exact hw)
      rw [ew] at q
      exact q _ _ ((k1.trans k2).trans k3) hS3 ⟨p, vs, rfl, hp, r⟩
    · have sm := same_upd (o := HO.tup (cutV vs o1 o2)) nl
      exact q _ _ (((k1.trans k2).trans k3).trans (.of sm)) (hS3.same sm) ⟨l, _, rfl, SqT.of (hide_some.mpr ⟨hS3.new nl, upd_same⟩), (r.cut o1 o2).mono (Keep.of sm).vw⟩
  | _ => cases h4
/-- xs[::-1] -/
def gRev : PD → Option (List PD)
  | .list xs => some xs.reverse
  | _ => none
def fRev (f : Ev) : EvL := fun S => do
  let (d, S1) ← f S
  let r ← gRev d
  some (r, S1)
theorem RepL.reverse {H : Hp} : ∀ {ds : List PD} {vs : List V}, RepL K H ds vs → RepL K H ds.reverse vs.reverse
  | [], vs, r => by cases (show vs = [] from r); exact rfl
  | d :: ds, vs, r => by
    obtain ⟨v, r', h1, h2, h3⟩ := r
    subst h1
    rw [List.reverse_cons, List.reverse_cons]
    exact (RepL.reverse h3).append (.one h2)
theorem dRev {e : Expr} {f : Ev} {k : Nat} {p1 p2 p3 pos : Pos} (he : DE X e f) : DF X (.Subscript e (.Slice none none (some (.UnaryOp .USub (.Constant (.int 1) k p1) p2)) p3) pos) (fRev f) :=
  .mk (pe_revL pe_w) fun C σ H S xs S' Q hS hf q => by
    unfold fRev at hf
    obtain ⟨⟨d0, S1⟩, h1, hf⟩ := bind_some' hf
    obtain ⟨r0, h4, hf⟩ := bind_some' hf
    cases hf
    refine he C σ H S d0 _ _ hS h1 fun v H1 k1 hS1 r1 => ?_
    unfold gRev at h4
    split at h4
    · cases h4
      obtain ⟨p, vs, rfl, n, hp, r⟩ := hp_lst r1
      exact ⟨p, vs, rfl, SqL.of hp, new_list k1 hS1 r.reverse q⟩
    · cases h4
/-! ## calls of built-ins -/
def gLen : List PD → Option PD
  | [.list xs] => some (.int xs.length)
  | [.tuple xs] => some (.int xs.length)
  | _ => none
theorem rep1 {H : Hp} {d : PD} {vs : List V} (r : RepL K H [d] vs) : ∃ v, vs = [v] ∧ Rep K H d v := by
  obtain ⟨v, r', h1, h2, h3⟩ := r
  cases (show r' = [] from h3)
  exact ⟨v, h1, h2⟩
theorem rep2 {H : Hp} {d e : PD} {vs : List V} (r : RepL K H [d, e] vs) : ∃ v w, vs = [v, w] ∧ Rep K H d v ∧ Rep K H e w := by
  obtain ⟨v, r', h1, h2, h3⟩ := r
  obtain ⟨w, rfl, h4⟩ := rep1 h3
  exact ⟨v, w, h1, h2, h4⟩
theorem cd_len : CallD K (fun xs H Q => ∃ p ys, xs = [.ref p] ∧ (SqL K H p ys ∨ SqT K H p ys) ∧ Q (.int ys.length) H) gLen := fun O H ds d xs Q ra hg fr q => by
  unfold gLen at hg
  split at hg
  · rename_i ys
    cases hg
    obtain ⟨v, rfl, r⟩ := rep1 ra
    obtain ⟨p, vs, rfl, n, hp, r⟩ := hp_lst r
    exact ⟨p, vs, rfl, .inl (SqL.of hp), q _ H (Same.refl H) (by rw [r.length]; rfl)⟩
  · rename_i ys
    cases hg
    obtain ⟨v, rfl, r⟩ := rep1 ra
    obtain ⟨p, vs, rfl, hp, r⟩ := r
    exact ⟨p, vs, rfl, .inr (sqT_mono hide_le hp), q _ H (Same.refl H) (by rw [r.length]; rfl)⟩
  · cases hg
def gAbs : List PD → Option PD
  | [.int i] => some (.int (if i < 0 then -i else i))
  | _ => none
theorem cd_abs : CallD K (fun xs H Q => ∃ i, xs = [.int i] ∧ Q (.int (if i < 0 then -i else i)) H) gAbs := fun O H ds d xs Q ra hg fr q => by
  unfold gAbs at hg
  split at hg
  · rename_i i
    cases hg
    obtain ⟨v, rfl, r⟩ := rep1 ra
    cases (show v = .int i from r)
    exact ⟨i, rfl, q _ H (Same.refl H) rfl⟩
  · cases hg
def gInt : List PD → Option PD
  | [.int i] => some (.int i)
  | [.bool b] => some (.int (if b then 1 else 0))
  | _ => none
theorem cd_int : CallD K (fun xs H Q => (∃ i, xs = [.int i] ∧ Q (.int i) H) ∨ ∃ k, xs = [.bl k] ∧ Q (.int (if k then 1 else 0)) H) gInt := fun O H ds d xs Q ra hg fr q => by
  unfold gInt at hg
  split at hg
  · rename_i i
    cases hg
    obtain ⟨v, rfl, r⟩ := rep1 ra
    cases (show v = .int i from r)
    exact .inl ⟨i, rfl, q _ H (Same.refl H) rfl⟩
  · rename_i b
    cases hg
    obtain ⟨v, rfl, r⟩ := rep1 ra
    cases (show v = .bl b from r)
    exact .inr ⟨b, rfl, q _ H (Same.refl H) rfl⟩
  · cases hg
def gII (f : Int → Int → Int) : List PD → Option PD
  | [.int i, .int j] => some (.int (f i j))
  | _ => none
theorem cd_II {f : Int → Int → Int} : CallD K (fun xs H Q => ∃ i j, xs = [.int i, .int j] ∧ Q (.int (f i j)) H) (gII f) := fun O H ds d xs Q ra hg fr q => by
  unfold gII at hg
  split at hg
  · rename_i i j
    cases hg
    obtain ⟨v, w, rfl, r1, r2⟩ := rep2 ra
    cases (show v = .int i from r1)
    cases (show w = .int j from r2)
    exact ⟨i, j, rfl, q _ H (Same.refl H) rfl⟩
  · cases hg
abbrev gMax2 : List PD → Option PD := gII fun i j => if j > i then j else i
abbrev gMin2 : List PD → Option PD := gII fun i j => if j < i then j else i
abbrev gGcd : List PD → Option PD := gII fun i j => ((Nat.gcd i.natAbs j.natAbs : Nat) : Int)
def intsOf : List PD → Option (List Int)
  | [] => some []
  | .int i :: r => (intsOf r).map (i :: ·)
  | _ => none
theorem intsOf_rep {H : Hp} : ∀ {ds : List PD} {vs : List V} {ns : List Int}, RepL K H ds vs → intsOf ds = some ns → vs = ns.map V.int ∧ ds = ns.map PyData.int
  | [], vs, ns, r, h => by cases (show vs = [] from r); cases h; exact ⟨rfl, rfl⟩
  | d :: ds, vs, ns, r, h => by
    obtain ⟨v, r', h1, h2, h3⟩ := r
    subst h1
    unfold intsOf at h
    split at h
    · rename_i he; cases he
    · rename_i i r0 he
      cases he
      cases e : intsOf ds with
      | none => rw [e] at h; cases h
      | some ms =>
        rw [e] at h
        cases h
        obtain ⟨q1, q2⟩ := intsOf_rep h3 e
        cases (show v = .int i from h2)
        exact ⟨by rw [q1]; rfl, by rw [q2]; rfl⟩
    · cases h
def boolsOf : List PD → Option (List Bool)
  | [] => some []
  | .bool i :: r => (boolsOf r).map (i :: ·)
  | _ => none
theorem boolsOf_rep {H : Hp} : ∀ {ds : List PD} {vs : List V} {ns : List Bool}, RepL K H ds vs → boolsOf ds = some ns → vs = ns.map V.bl
  | [], vs, ns, r, h => by cases (show vs = [] from r); cases h; rfl
  | d :: ds, vs, ns, r, h => by
    obtain ⟨v, r', h1, h2, h3⟩ := r
    subst h1
    unfold boolsOf at h
    split at h
    · rename_i he; cases he
    · rename_i i r0 he
      cases he
      cases e : boolsOf ds with
      | none => rw [e] at h; cases h
      | some ms =>
        rw [e] at h
        cases h
        have q1 := boolsOf_rep h3 e
        cases (show v = .bl i from h2)
        rw [q1]; rfl
    · cases h
def gSum : List PD → Option PD
  | [.list ds] => (intsOf ds).map fun ns => .int ns.sum
  | _ => none
theorem cd_sum : CallD K (rSum K) gSum := fun O H ds d xs Q ra hg fr q => by
  unfold gSum at hg
  split at hg
  · rename_i es
    cases e : intsOf es with
    | none => rw [e] at hg; cases hg
    | some ns =>
      rw [e] at hg
      cases hg
      obtain ⟨v, rfl, r⟩ := rep1 ra
      obtain ⟨p, vs, rfl, n, hp, r⟩ := hp_lst r
      obtain ⟨e1, _⟩ := intsOf_rep r e
      exact ⟨p, ns, rfl, by rw [← e1]; exact SqL.of hp, q _ H (Same.refl H) rfl⟩
  · cases hg
def gAny : List PD → Option PD
  | [.list ds] => (boolsOf ds).map fun bs => .bool (bs.any id)
  | _ => none
def gAll : List PD → Option PD
  | [.list ds] => (boolsOf ds).map fun bs => .bool (bs.all id)
  | _ => none
theorem cd_any : CallD K (rAny K) gAny := fun O H ds d xs Q ra hg fr q => by
  unfold gAny at hg
  split at hg
  · rename_i es
    cases e : boolsOf es with
    | none => rw [e] at hg; cases hg
    | some ns =>
      rw [e] at hg
      cases hg
      obtain ⟨v, rfl, r⟩ := rep1 ra
      obtain ⟨p, vs, rfl, n, hp, r⟩ := hp_lst r
      have e1 := boolsOf_rep r e
      exact ⟨p, ns, rfl, by rw [← e1]; exact SqL.of hp, q _ H (Same.refl H) rfl⟩
  · cases hg
theorem cd_all : CallD K (rAll K) gAll := fun O H ds d xs Q ra hg fr q => by
  unfold gAll at hg
  split at hg
  · rename_i es
    cases e : boolsOf es with
    | none => rw [e] at hg; cases hg
    | some ns =>
      rw [e] at hg
      cases hg
      obtain ⟨v, rfl, r⟩ := rep1 ra
      obtain ⟨p, vs, rfl, n, hp, r⟩ := hp_lst r
      have e1 := boolsOf_rep r e
      exact ⟨p, ns, rfl, by rw [← e1]; exact SqL.of hp, q _ H (Same.refl H) rfl⟩
  · cases hg
/-- sorted, of ints -/
def srt (ns : List Int) : List Int := ns.mergeSort fun a b => decide (a ≤ b)
theorem srt_perm (ns : List Int) : (srt ns).Perm ns := List.mergeSort_perm _ _
theorem srt_up (ns : List Int) : (srt ns).Pairwise (· ≤ ·) := by
  have h := List.pairwise_mergeSort (le := fun (a b : Int) => decide (a ≤ b)) (by intro a b c; simp; omega) (by intro a b; simp; omega) ns
  exact h.imp fun {a b} q => by simpa using q
theorem srt_uniq {ns ms : List Int} (h : ms.Perm ns) (h' : ms.Pairwise (· ≤ ·)) : ms = srt ns :=
  List.Perm.eq_of_pairwise (le := (· ≤ ·)) (fun a b _ _ h1 h2 => Int.le_antisymm h1 h2) h' (srt_up ns) (h.trans (srt_perm ns).symm)
theorem rep_ints {H : Hp} : ∀ ns : List Int, RepL K H (ns.map PyData.int) (ns.map V.int)
  | [] => rfl
  | n :: r => ⟨_, _, rfl, rfl, rep_ints r⟩
def gSorted : List PD → Option (List PD)
  | [.list ds] => (intsOf ds).map fun ns => (srt ns).map PyData.int
  | _ => none
theorem cf_sorted : CallF K (rSortedI K) gSorted := fun O H ds ys xs Q ra hg fr q => by
  unfold gSorted at hg
  split at hg
  · rename_i es
    cases e : intsOf es with
    | none => rw [e] at hg; cases hg
    | some ns =>
      rw [e] at hg
      cases hg
      obtain ⟨v, rfl, r⟩ := rep1 ra
      obtain ⟨p, vs, rfl, n, hp, r⟩ := hp_lst r
      obtain ⟨e1, _⟩ := intsOf_rep r e
      refine ⟨p, ns, rfl, by rw [← e1]; exact SqL.of hp, fun ms l hm hu nl => ?_⟩
      rw [srt_uniq hm hu]
      exact q l _ nl (rep_ints _)
  · cases hg
def gList : List PD → Option (List PD)
  | [.list ds] => some ds
  | [.tuple ds] => some ds
  | _ => none
theorem cf_list : CallF K (fun xs H Q => ∃ p ys, xs = [.ref p] ∧ (SqL K H p ys ∨ SqT K H p ys) ∧ ∀ l, H l = none → Q (.ref l) (upd H l (.lst ys))) gList := fun O H ds ys xs Q ra hg fr q => by
  unfold gList at hg
  split at hg
  · cases hg
    obtain ⟨v, rfl, r⟩ := rep1 ra
    obtain ⟨p, vs, rfl, n, hp, r⟩ := hp_lst r
    exact ⟨p, vs, rfl, .inl (SqL.of hp), fun l nl => q l vs nl r⟩
  · cases hg
    obtain ⟨v, rfl, r⟩ := rep1 ra
    obtain ⟨p, vs, rfl, hp, r⟩ := r
    exact ⟨p, vs, rfl, .inr (sqT_mono hide_le hp), fun l nl => q l vs nl r⟩
  · cases hg
/-! isinstance(x, T) -/
def tyD : PD → String
  | .none => "NoneType"
  | .bool _ => "bool"
  | .int _ => "int"
  | .str _ => "str"
  | .list _ => "list"
  | .tuple _ => "tuple"
  | .dict _ => "dict"
theorem ty_of {O : List Addr} {H : Hp} {d : PD} {v : V} (r : Rep K (hide O H) d v) : TyX K H v (.type (tyD d)) := by
  cases d with
  | none => cases (show v = .non from r); exact .base .non
  | bool b => cases (show v = .bl b from r); exact .base (.bl b)
  | int i => cases (show v = .int i from r); exact .base (.int i)
  | str x => cases (show v = .str x from r); exact .base (.str x)
  | list ds =>
    obtain ⟨a, vs, rfl, n, h1, _⟩ := hp_lst r
    exact .base (.lst h1)
  | tuple ds =>
    obtain ⟨a, vs, rfl, h1, _⟩ := r
    rcases sqT_mono hide_le h1 with (h | ⟨o, h⟩) | ⟨o, its, n, h, hc, _⟩
    · exact .base (.tup h)
    · exact .fTuple h
    · exact .kTuple h hc
  | dict _ => exact r.elim
def gIsi (T : String) : List PD → Option PD
  | [d] => (kitB (tyD d) T).map .bool
  | _ => none
/-- the class as a second argument -/
def aTy (f : Ev) : EvL := fun S => do
  let (d, S1) ← f S
  some ([d], S1)
theorem dIsi {e : Expr} {f : Ev} {T : String} {p p2 pos : Pos} (he : DE X e f) (hm : X.mg (Str.ofString "isinstance") = none) (hm2 : X.mg (Str.ofString T) = none) (hv : bootBuiltins (Str.ofString T) = some (.type T) := by decide +kernel)
    (hg : Gl X (Str.ofString "isinstance") := by rfl) (hg2 : Gl X (Str.ofString T) := by rfl) (hn : Str.ofString T ≠ "__name__" := by decide) (hdb : (Str.ofString T == ("__debug__" : Str)) = false := by decide)
    (hst : starEach [e, .Name (Str.ofString T) p2] X.env = (false, eval e X.env) :: starEach [.Name (Str.ofString T) p2] X.env := by rfl) (hst2 : starEach [.Name (Str.ofString T) p2] X.env = (false, eval (.Name (Str.ofString T) p2) X.env) :: starEach [] X.env := by rfl)
    (hpl : (backTo pos (starEach [.Name (Str.ofString T) p2] X.env)).any (·.1) = false := by rfl) :
    DE X (.Call (.Name (Str.ofString "isinstance") p) [e, .Name (Str.ofString T) p2] [] pos) (eCall (gIsi T) (aTy f)) :=
  .mk (pe_callB call_isi hg hm (bt "isinstance") (pa_cons pe_w (pa_cons (pe_bltn (v := .ty T) hg2 hm2 hv rfl hn hdb) pa_nil hst2) hst) (by decide) (by decide) hst hpl) fun C σ H S d S' Q hS hf q => by
    obtain ⟨ds, h1, h2⟩ := eCall_some hf
    unfold aTy at h1
    obtain ⟨⟨d0, S1⟩, h1, h3⟩ := bind_some' h1
    cases h3
    refine he C σ H S d0 _ _ hS h1 fun v H1 k1 hS1 r1 => ?_
    have h2 : Option.map PyData.bool (kitB (tyD d0) T) = some d := h2
    cases e2 : kitB (tyD d0) T with
    | none => rw [e2] at h2; cases h2
    | some b =>
      rw [e2] at h2
      cases h2
      exact ⟨v, .ty T, .type (tyD d0), .type T, b, rfl, .ty T, ty_of r1, kit_ty e2, q _ H1 k1 hS1 rfl⟩
end
end DK
namespace DK
open PySem PySem.Spec PyProof.Rows L2
/-! ## the state changes -/
def Ctx.drop (C : Ctx) (i : Nat) : Ctx := { C with O := C.O.filter fun p => decide (p.1 ≠ i) }
def Ctx.gain (C : Ctx) (i : Nat) (a : Addr) : Ctx := { C with O := (i, a) :: C.O }
section
variable {K : PySem.W.Frag} {C C' : Ctx} {σ : Sg} {H H' : Hp} {S : Stt} {i : Nat}
theorem drop_hid {b : Addr} (h : b ∈ (C.drop i).hid) : b ∈ C.hid := by
  unfold Ctx.hid Ctx.drop at *
  simp only [List.mem_append, List.mem_map, List.mem_filter] at h ⊢
  rcases h with h | ⟨p, ⟨h1, _⟩, h2⟩
  · exact .inl h
  · exact .inr ⟨p, h1, h2⟩
theorem mem_drop {p : Nat × Addr} : p ∈ (C.drop i).O ↔ p ∈ C.O ∧ p.1 ≠ i := by
  unfold Ctx.drop
  simp [List.mem_filter]
theorem vw_drop : Same (hide C.hid H) (hide (C.drop i).hid H) := fun b o h => by
  obtain ⟨h1, h2⟩ := hide_some.mp h
  exact hide_some.mpr ⟨fun z => h1 (drop_hid z), h2⟩
theorem set_get {α : Type} {l : List α} {i j : Nat} {x y : α} (h : (l.set i x)[j]? = some y) : (i = j ∧ y = x ∧ i < l.length) ∨ (i ≠ j ∧ l[j]? = some y) := by
  by_cases e : i = j
  · subst e
    by_cases hl : i < l.length
    · rw [List.getElem?_set_self hl] at h
      cases h
      exact .inl ⟨rfl, rfl, hl⟩
    · rw [List.getElem?_eq_none (by simpa using hl)] at h
      cases h
  · rw [List.getElem?_set_ne e] at h
    exact .inr ⟨e, h⟩
/-- forget a slot, and its list -/
theorem Hold.drop (h : Hold K C σ H S) (i : Nat) : Hold K (C.drop i) σ H (S.set i .no) where
  len := by rw [List.length_set]; exact h.len
  slot := fun j v x h1 h2 => by
    rcases set_get h2 with ⟨_, rfl, _⟩ | ⟨hne, h2⟩
    · trivial
    · have q := h.slot j v x h1 h2
      cases x with
      | no => trivial
      | sh d => obtain ⟨y, q1, q2⟩ := q; exact ⟨y, q1, q2.mono vw_drop⟩
      | ow xs => obtain ⟨a, vs, q1, q2, q3, q4⟩ := q; exact ⟨a, vs, mem_drop.mpr ⟨q1, fun z => hne z.symm⟩, q2, q3, q4.mono vw_drop⟩
      | scr ns => obtain ⟨a, q1, q2⟩ := q; exact ⟨a, q1, sqL_mono vw_drop q2⟩
      | raw v => exact q
      | nst yss => obtain ⟨a, bs, q1, q2, q3, q4, q5⟩ := q; exact ⟨a, bs, q1, mem_drop.mpr ⟨q2, fun z => hne z.symm⟩, q3, q4, q5.mono (fun _ _ z => mem_drop.mpr ⟨z, fun z => hne z.symm⟩) (fun _ _ _ _ z => z) vw_drop⟩
  own := fun p hp => by
    obtain ⟨h1, h2⟩ := mem_drop.mp hp
    exact (h.own p h1).ne rfl (List.getElem?_set_ne (Ne.symm h2))
  nod := by
    have hs : ((C.drop i).O.map (·.2)).Sublist (C.O.map (·.2)) := (List.filter_sublist).map _
    exact h.nod.sublist hs
  apart := fun p hp => h.apart p (mem_drop.mp hp).1
  wd := fun b hb => h.wd b (drop_hid hb)
  frame := h.frame
  fresh := fun p hp => h.fresh p (mem_drop.mp hp).1
  bd := h.bd
/-- a slot that owns nothing gets a value -/
theorem Hold.putSh (h : Hold K C σ H S) (no : ∀ p ∈ C.O, p.1 ≠ i) {d : PD} {v : V} (r : Rep K (hide C.hid H) d v) : Hold K C (σ.set i (some v)) H (S.set i (.sh d)) where
  len := by rw [List.length_set, List.length_set]; exact h.len
  slot := fun j w x h1 h2 => by
    rcases set_get h2 with ⟨rfl, rfl, hl⟩ | ⟨hne, h2⟩
    · rw [List.getElem?_set_self (by rw [h.len]; exact hl)] at h1
      cases h1
      exact ⟨v, rfl, r⟩
    · rw [List.getElem?_set_ne hne] at h1
      exact h.slot j w x h1 h2
  own := fun p hp => by
    have hne := no p hp
    exact (h.own p hp).ne (List.getElem?_set_ne (Ne.symm hne)) (List.getElem?_set_ne (Ne.symm hne))
  nod := h.nod
  apart := h.apart
  wd := h.wd
  frame := h.frame
  fresh := h.fresh
  bd := h.bd
theorem drop_no : ∀ p ∈ (C.drop i).O, p.1 ≠ i := fun p hp => (mem_drop.mp hp).2
theorem set_set {α : Type} (l : List α) (i : Nat) (x y : α) : (l.set i x).set i y = l.set i y := by simp
theorem Hold.setSh (h : Hold K C σ H S) {d : PD} {v : V} (r : Rep K (hide C.hid H) d v) : Hold K (C.drop i) (σ.set i (some v)) H (S.set i (.sh d)) := by
  have q := (h.drop i).putSh (i := i) drop_no (r.mono vw_drop)
  rw [set_set] at q
  exact q
/-- .. or a list of its own -/
theorem Hold.putOw {p : Addr} (h : Hold K (C.more p) σ H S) (no : ∀ q ∈ C.O, q.1 ≠ i) (hi0 : i ≠ 0) (hi : i < S.length) {xs : List PD} {vs : List V} (hp : H p = some (.lst vs)) (r : RepL K (hide (C.more p).hid H) xs vs) (f0 : C.H0 p = none) (nh : p ∉ C.hid) :
    Hold K (C.gain i p) (σ.set i (some (.ref p))) H (S.set i (.ow xs)) := by
  have eq : ∀ b, b ∈ (C.gain i p).hid ↔ b ∈ (C.more p).hid := fun b => by
    unfold Ctx.hid Ctx.gain Ctx.more
    simp only [List.mem_append, List.map_cons, List.mem_cons]
    constructor
    · rintro (q | q | q)
      · exact .inl (.inr q)
      · exact .inl (.inl q)
      · exact .inr q
    · rintro ((q | q) | q)
      · exact .inr (.inl q)
      · exact .inl q
      · exact .inr (.inr q)
  have vw : Same (hide (C.more p).hid H) (hide (C.gain i p).hid H) := fun b o z => by
    obtain ⟨h1, h2⟩ := hide_some.mp z
    exact hide_some.mpr ⟨fun w => h1 ((eq b).mp w), h2⟩
  refine ⟨by rw [List.length_set, List.length_set]; exact h.len, fun j w x h1 h2 => ?_, fun q hq => ?_, ?_, fun q hq => ?_, fun b hb => h.wd b ((eq b).mp hb), h.frame, fun q hq => ?_, h.bd⟩
  · rcases set_get h2 with ⟨rfl, rfl, hl⟩ | ⟨hne, h2⟩
    · rw [List.getElem?_set_self (by rw [h.len]; exact hl)] at h1
      cases h1
      exact ⟨p, vs, List.mem_cons_self, rfl, hp, r.mono vw⟩
    · rw [List.getElem?_set_ne hne] at h1
      have q := h.slot j w x h1 h2
      cases x with
      | no => trivial
      | sh d => obtain ⟨y, q1, q2⟩ := q; exact ⟨y, q1, q2.mono vw⟩
      | ow xs => obtain ⟨a, vs, q1, q2, q3, q4⟩ := q; exact ⟨a, vs, List.mem_cons_of_mem _ q1, q2, q3, q4.mono vw⟩
      | scr ns => obtain ⟨a, q1, q2⟩ := q; exact ⟨a, q1, sqL_mono vw q2⟩
      | raw v => exact q
      | nst yss => obtain ⟨a, bs, q1, q2, q3, q4, q5⟩ := q; exact ⟨a, bs, q1, List.mem_cons_of_mem _ q2, q3, q4, q5.mono (fun _ _ z => List.mem_cons_of_mem _ z) (fun _ _ _ _ z => z) vw⟩
  · rcases List.mem_cons.mp hq with e | hq
    · subst e
      exact .inl ⟨xs, List.getElem?_set_self hi, List.getElem?_set_self (by rw [h.len]; exact hi)⟩
    · have hne := no q hq
      exact (h.own q hq).ne (List.getElem?_set_ne (Ne.symm hne)) (List.getElem?_set_ne (Ne.symm hne))
  · show (p :: C.O.map (·.2)).Nodup
    refine List.nodup_cons.mpr ⟨fun z => nh (List.mem_append_right _ z), h.nod⟩
  · rcases List.mem_cons.mp hq with e | hq
    · subst e
      exact fun z => nh (List.mem_append_left _ z)
    · exact fun z => h.apart q hq (List.mem_cons_of_mem _ z)
  · rcases List.mem_cons.mp hq with e | hq
    · subst e
      exact .inl ⟨hi0, f0⟩
    · exact h.fresh q hq
theorem more_drop {p : Addr} : (C.more p).drop i = (C.drop i).more p := rfl
theorem Hold.setOw {p : Addr} (h : Hold K (C.more p) σ H S) (hi0 : i ≠ 0) (hi : i < S.length) {xs : List PD} {vs : List V} (hp : H p = some (.lst vs)) (r : RepL K (hide (C.more p).hid H) xs vs) (f0 : C.H0 p = none) (nh : p ∉ C.hid) :
    Hold K ((C.drop i).gain i p) (σ.set i (some (.ref p))) H (S.set i (.ow xs)) := by
  have q := h.drop i
  rw [more_drop] at q
  have q2 := q.putOw (i := i) drop_no hi0 (by rw [List.length_set]; exact hi) hp (r.mono vw_drop) f0 fun z => nh (drop_hid z)
  rw [set_set] at q2
  exact q2
/-- an owned list's content is changed -/
theorem Hold.chgOw (h : Hold K C σ H S) {a : Addr} {xs ys : List PD} {us : List V} (e : S[i]? = some (.ow xs)) (ha : (i, a) ∈ C.O) (k : ∀ b o, b ≠ a → H b = some o → H' b = some o) (h' : H' a = some (.lst us)) (r : RepL K (hide C.hid H') ys us) :
    Hold K C σ H' (S.set i (.ow ys)) := by
  have hin : a ∈ C.hid := Hold.in_hid ha
  have vw : Same (hide C.hid H) (hide C.hid H') := fun b o z => by
    obtain ⟨h1, h2⟩ := hide_some.mp z
    exact hide_some.mpr ⟨h1, k b o (fun q => h1 (by rw [q]; exact hin)) h2⟩
  have hi : i < S.length := (List.getElem?_eq_some_iff.mp e).1
  refine ⟨by rw [List.length_set]; exact h.len, fun j w x h1 h2 => ?_, fun q hq => ?_, h.nod, h.apart, fun b hb => ?_, fun b o h1 h2 => ?_, h.fresh, fun b hb => ?_⟩
  · rcases set_get h2 with ⟨rfl, rfl, hl⟩ | ⟨hne, h2⟩
    · have q1 := h.own_ow ha e
      rw [h1] at q1
      cases q1
      exact ⟨a, us, ha, rfl, h', r⟩
    · have q := h.slot j w x h1 h2
      cases x with
      | no => trivial
      | sh d => obtain ⟨y, q1, q2⟩ := q; exact ⟨y, q1, q2.mono vw⟩
      | ow zs =>
        obtain ⟨b, vs, q1, q2, q3, q4⟩ := q
        refine ⟨b, vs, q1, q2, k b _ (fun z => ?_) q3, q4.mono vw⟩
        subst z
        exact hne (h.slot_inj ha q1)
      | scr ns => obtain ⟨b, q1, q2⟩ := q; exact ⟨b, q1, sqL_mono vw q2⟩
      | raw v => exact q
      | nst yss =>
        obtain ⟨b, bs, q1, q2, q3, q4, q5⟩ := q
        have na : ∀ b, (j, b) ∈ C.O → b ≠ a := fun b hb z => by
          subst z
          exact hne (h.slot_inj ha hb)
        exact ⟨b, bs, q1, q2, k b _ (na b q2) q3, q4, q5.mono (fun _ _ z => z) (fun b _ hb o z => k b o (na b hb) z) vw⟩
  · by_cases hne : i = q.1
    · refine .inl ⟨ys, by rw [← hne]; exact List.getElem?_set_self hi, h.own_ow hq (by rw [← hne]; exact e)⟩
    · exact (h.own q hq).ne rfl (List.getElem?_set_ne hne)
  · by_cases hb' : b = a
    · exact ⟨us, by rw [hb']; exact h'⟩
    · obtain ⟨zs, q⟩ := h.wd b hb
      exact ⟨zs, k b _ hb' q⟩
  · refine k b o (fun z => ?_) (h.frame b o h1 h2)
    subst z
    rcases h.fresh _ ha with q | ⟨_, q⟩
    · rw [q.2] at h1; cases h1
    · exact h2 q
  · by_cases hb' : b = a
    · exact ⟨us, by rw [hb']; exact h'⟩
    · obtain ⟨zs, q⟩ := h.bd b hb
      exact ⟨zs, k b _ hb' q⟩
/-- an owned list becomes shared data -/
def frz (i : Nat) (S : Stt) : Stt := match S[i]? with
  | some (.ow xs) => S.set i (.sh (.list xs))
  | some (.nst yss) => S.set i (.sh (.list (yss.map PyData.list)))
  | _ => S
def ownD : Sl → Option (List PD)
  | .ow xs => some xs
  | .nst yss => some (yss.map PyData.list)
  | _ => none
theorem frz_of {x : Sl} {i : Nat} {S : Stt} (e : S[i]? = some x) : frz i S = match ownD x with
  | some xs => S.set i (.sh (.list xs))
  | none => S := by
  unfold frz
  rw [e]
  cases x <;> rfl
theorem Hold.at_nst (h : Hold K C σ H S) {yss : List (List PD)} (e : S[i]? = some (.nst yss)) : ∃ a bs, σ[i]? = some (some (.ref a)) ∧ (i, a) ∈ C.O ∧ H a = some (.lst (bs.map V.ref)) ∧ (a :: bs).Nodup ∧ Cel K C H i bs yss := by
  have hi : i < σ.length := by rw [h.len]; exact (List.getElem?_eq_some_iff.mp e).1
  obtain ⟨a, bs, h1, h2, h3, h4, h5⟩ := h.slot i _ _ (List.getElem?_eq_getElem hi) e
  exact ⟨a, bs, by rw [← h1]; exact List.getElem?_eq_getElem hi, h2, h3, h4, h5⟩
theorem Hold.out (h : Hold K C σ H S) {a : Addr} (h0 : (i, a) ∈ C.O) : a ∉ (C.drop i).hid := fun z => by
  unfold Ctx.hid at z
  rcases List.mem_append.mp z with z | z
  · exact h.apart _ h0 z
  · obtain ⟨p, hp, e2⟩ := List.mem_map.mp z
    obtain ⟨hp, hne⟩ := mem_drop.mp hp
    have hp' : (p.1, a) ∈ C.O := by rw [← e2]; exact hp
    exact hne (h.slot_inj hp' h0)
theorem Cel.rep (h : Hold K C σ H S) {bs : List Addr} {yss : List (List PD)} (c : Cel K C H i bs yss) {O : List Addr} (sub : ∀ x ∈ O, x ∈ C.hid) (nb : ∀ b ∈ bs, b ∉ O) : RepL K (hide O H) (yss.map PyData.list) (bs.map V.ref) := by
  refine RepL.of_get (by simp [c.1]) fun k v d h1 h2 => ?_
  rw [List.getElem?_map] at h1 h2
  cases e1 : bs[k]? with
  | none => rw [e1] at h1; cases h1
  | some b =>
    cases e2 : yss[k]? with
    | none => rw [e2] at h2; cases h2
    | some ys =>
      rw [e1] at h1; rw [e2] at h2
      cases h1; cases h2
      obtain ⟨_, vs, q2, q3⟩ := c.2 k b ys e1 e2
      refine ⟨b, vs, rfl, hide_some.mpr ⟨nb b (List.mem_of_getElem? e1), q2⟩, q3.mono fun x o z => ?_⟩
      obtain ⟨z1, z2⟩ := hide_some.mp z
      exact hide_some.mpr ⟨fun w => z1 (sub x w), z2⟩
theorem Cel.in_O {bs : List Addr} {yss : List (List PD)} (c : Cel K C H i bs yss) : ∀ b ∈ bs, (i, b) ∈ C.O := fun b hb => by
  obtain ⟨k, hk, e⟩ := List.getElem_of_mem hb
  have e1 : bs[k]? = some b := by rw [List.getElem?_eq_getElem hk, e]
  have hk2 : k < yss.length := by rw [← c.1]; exact hk
  exact (c.2 k b yss[k] e1 (List.getElem?_eq_getElem hk2)).1
theorem more_sub {a : Addr} (ha : (i, a) ∈ C.O) : ∀ x ∈ ((C.drop i).more a).hid, x ∈ C.hid := fun x hx => by
  rcases List.mem_cons.mp hx with e | hx
  · rw [e]; exact Hold.in_hid ha
  · exact drop_hid hx
theorem Hold.at_own (h : Hold K C σ H S) {x : Sl} {xs : List PD} (e : S[i]? = some x) (ed : ownD x = some xs) : ∃ a vs, (i, a) ∈ C.O ∧ σ[i]? = some (some (.ref a)) ∧ H a = some (.lst vs) ∧ RepL K (hide ((C.drop i).more a).hid H) xs vs := by
  cases x with
  | ow ys =>
    cases ed
    obtain ⟨a, vs, h0, h1, h2, h3⟩ := h.at_ow e
    refine ⟨a, vs, h0, h1, h2, h3.mono fun x o z => ?_⟩
    obtain ⟨z1, z2⟩ := hide_some.mp z
    exact hide_some.mpr ⟨fun w => z1 (more_sub h0 x w), z2⟩
  | nst yss =>
    cases ed
    obtain ⟨a, bs, h1, h0, h2, h3, h4⟩ := h.at_nst e
    refine ⟨a, _, h0, h1, h2, h4.rep h (more_sub h0) fun b hb z => ?_⟩
    rcases List.mem_cons.mp z with e2 | z
    · exact (List.nodup_cons.mp h3).1 (by rw [← e2]; exact hb)
    · exact h.out (h4.in_O b hb) z
  | no => cases ed
  | sh d => cases ed
  | scr ns => cases ed
  | raw v => cases ed
/-- an owned slot's data becomes shared -/
theorem Hold.frzD (h : Hold K C σ H S) {x : Sl} {xs : List PD} (e : S[i]? = some x) (ed : ownD x = some xs) : Hold K (C.drop i) σ H (S.set i (.sh (.list xs))) := by
  obtain ⟨a, vs, h0, h1, h2, h3⟩ := h.at_own e ed
  have q := (h.drop i).putSh (i := i) (d := .list xs) (v := .ref a) drop_no ⟨a, vs, rfl, hide_some.mpr ⟨h.out h0, h2⟩, h3.mono hide_more_le⟩
  rw [set_set] at q
  have hi : i < σ.length := (List.getElem?_eq_some_iff.mp h1).1
  have e3 : σ.set i (some (.ref a)) = σ := by
    refine List.ext_getElem? fun j => ?_
    by_cases hj : i = j
    · subst hj
      rw [List.getElem?_set_self hi, h1]
    · rw [List.getElem?_set_ne hj]
  rw [e3] at q
  exact q
/-! ## steps -/
structure Step (C : Ctx) (H : Hp) (C' : Ctx) (H' : Hp) : Prop where
  h0 : C'.H0 = C.H0
  b : C'.B = C.B
  w : C'.W = C.W
  keep : Kp C H H'
  own : ∀ b ∈ C'.own, b ∈ C.own ∨ H b = none
theorem Step.hid (s : Step C H C' H') : ∀ b ∈ C'.hid, b ∈ C.hid ∨ H b = none := fun b hb => by
  unfold Ctx.hid at hb ⊢
  rcases List.mem_append.mp hb with q | q
  · exact .inl (List.mem_append_left _ (by rw [← s.w]; exact q))
  · rcases s.own b q with z | z
    · exact .inl (List.mem_append_right _ z)
    · exact .inr z
theorem Step.refl : Step C H C H := ⟨rfl, rfl, rfl, Kp.refl, fun _ h => .inl h⟩
theorem Step.trans {C1 C2 : Ctx} {H1 H2 : Hp} (a : Step C H C1 H1) (b : Step C1 H1 C2 H2) : Step C H C2 H2 where
  h0 := b.h0.trans a.h0
  b := b.b.trans a.b
  w := b.w.trans a.w
  keep := fun c o hc e => b.keep c o (fun z => (a.own c z).elim hc fun q => by rw [q] at e; cases e) (a.keep c o hc e)
  own := fun c hc => by
    rcases b.own c hc with q | q
    · exact a.own c q
    · cases e : H c with
      | none => exact .inr rfl
      | some o =>
        by_cases hm : c ∈ C.own
        · exact .inl hm
        · rw [a.keep c o hm e] at q; cases q
theorem drop_own {b : Addr} (h : b ∈ (C.drop i).own) : b ∈ C.own := by
  unfold Ctx.own at *
  obtain ⟨p, hp, e⟩ := List.mem_map.mp h
  exact List.mem_map.mpr ⟨p, (mem_drop.mp hp).1, e⟩
theorem Step.keep1 (k : Kp C H H') : Step C H C H' := ⟨rfl, rfl, rfl, k, fun _ h => .inl h⟩
theorem Step.drop (i : Nat) : Step C H (C.drop i) H := ⟨rfl, rfl, rfl, Kp.refl, fun b h => .inl (drop_own h)⟩
theorem own_gain {p b : Addr} (h : b ∈ ((C.drop i).gain i p).own) : b = p ∨ b ∈ C.own := by
  unfold Ctx.own Ctx.gain at h
  rcases List.mem_cons.mp h with q | q
  · exact .inl q
  · exact .inr (drop_own q)
theorem Step.gain {p : Addr} (n : H p = none) (k : Kp C H H') : Step C H ((C.drop i).gain i p) H' := by
  refine ⟨rfl, rfl, rfl, k, fun b hb => ?_⟩
  rcases own_gain hb with q | q
  · rw [q]; exact .inr n
  · exact .inl q
theorem in_own {p : Nat × Addr} (hp : p ∈ C.O) : p.2 ∈ C.own := List.mem_map.mpr ⟨p, hp, rfl⟩
end
end DK
namespace DK
open PySem PySem.Spec PyProof.Rows L2
inductive Out where
  | nx (S : Stt)
  | rt (d : PD) (S : Stt)
  | rtF (xs : List PD) (S : Stt)
  | bk (S : Stt)
  | ct (S : Stt)
abbrev EvSt := Stt → Option Out
def Fin (K : PySem.W.Frag) (C : Ctx) (H : Hp) (D : Ends) : Out → Prop
  | .nx S' => ∀ C' σ' H', Step C H C' H' → Hold K C' σ' H' S' → D.nx σ' H'
  | .bk S' => ∀ C' σ' H', Step C H C' H' → Hold K C' σ' H' S' → D.bk σ' H'
  | .ct S' => ∀ C' σ' H', Step C H C' H' → Hold K C' σ' H' S' → D.ct σ' H'
  | .rt d S' => ∀ C' σ' v H', Step C H C' H' → Hold K C' σ' H' S' → Rep K (hide C'.hid H') d v → D.rt v H'
  | .rtF xs S' => ∀ C' σ' p us H', Step C H C' H' → Hold K (C'.more p) σ' H' S' → H' p = some (.lst us) → C.H0 p = none → RepL K (hide (C'.more p).hid H') xs us → D.rt (.ref p) H'
def EvS (K : PySem.W.Frag) (t : TS) (g : EvSt) : Prop := ∀ (C : Ctx) (σ : Sg) (H : Hp) (S : Stt) (o : Out) (D : Ends), Hold K C σ H S → g S = some o → Fin K C H D o → t D σ H
def wS (X : Cx) (st : Stmt) : TS := fun D σ H => ∀ (pins : List (Addr × Obj)) (s : Shared), Inv X pins σ H s → wpAny (model X.prog X.w) X.A (exec st X.env) (SP X pins D) X.xe s
def wSs (X : Cx) (st : List Stmt) : TS := fun D σ H => ∀ (pins : List (Addr × Obj)) (s : Shared), Inv X pins σ H s → wpAny (model X.prog X.w) X.A (execs st X.env) (SP X pins D) X.xe s
theorem ps_w {X : Cx} {st : Stmt} : PS X st (wS X st) := ⟨fun pins s _ _ _ I h => h pins s I⟩
theorem pss_w {X : Cx} {st : List Stmt} : PSs X st (wSs X st) := ⟨fun pins s _ _ _ I h => h pins s I⟩
def DS (X : Cx) (st : Stmt) (g : EvSt) : Prop := EvS X.K (wS X st) g
def DSs (X : Cx) (st : List Stmt) (g : EvSt) : Prop := EvS X.K (wSs X st) g
section
variable {X : Cx} {st : Stmt} {sts : List Stmt}
theorem DS.mk {t : TS} {g : EvSt} (h : PS X st t) (k : EvS X.K t g) : DS X st g := fun C σ H S o D hS hf q pins s I => h.run pins s σ H D I (k C σ H S o D hS hf q)
theorem DSs.mk {t : TS} {g : EvSt} (h : PSs X sts t) (k : EvS X.K t g) : DSs X sts g := fun C σ H S o D hS hf q pins s I => h.run pins s σ H D I (k C σ H S o D hS hf q)
theorem Fin.step {K : PySem.W.Frag} {C C1 : Ctx} {H H1 : Hp} {D : Ends} {o : Out} (h : Fin K C H D o) (s : Step C H C1 H1) : Fin K C1 H1 D o := by
  cases o with
  | nx S' => exact fun C' σ' H' s' => h C' σ' H' (s.trans s')
  | bk S' => exact fun C' σ' H' s' => h C' σ' H' (s.trans s')
  | ct S' => exact fun C' σ' H' s' => h C' σ' H' (s.trans s')
  | rt d S' => exact fun C' σ' v H' s' => h C' σ' v H' (s.trans s')
  | rtF xs S' => exact fun C' σ' p us H' s' a1 a2 a3 a4 => h C' σ' p us H' (s.trans s') a1 a2 (by rw [← s.h0]; exact a3) a4
/-! ## blocks -/
def sNil : EvSt := fun S => some (.nx S)
def sSeq (g h : EvSt) : EvSt := fun S => match g S with
  | some (.nx S1) => h S1
  | o => o
theorem dsNil : DSs X [] sNil := .mk pss_nil fun C σ H S o D hS hf q => by
  cases hf
  exact q C σ H Step.refl hS
theorem dsCons {g h : EvSt} (a : DS X st g) (b : DSs X sts h) : DSs X (st :: sts) (sSeq g h) :=
  .mk (pss_cons ps_w pss_w) fun C σ H S o D hS hf q => by
    unfold sSeq at hf
    cases e : g S with
    | none => rw [e] at hf; cases hf
    | some o1 =>
      rw [e] at hf
      refine a C σ H S o1 _ hS e ?_
      cases o1 with
      | nx S1 => exact fun C1 σ1 H1 s1 hS1 => b C1 σ1 H1 S1 o D hS1 hf (q.step s1)
      | rt d S1 => cases hf; exact q
      | rtF d S1 => cases hf; exact q
      | bk S1 => cases hf; exact q
      | ct S1 => cases hf; exact q
theorem dsOne {g : EvSt} (a : DS X st g) : DSs X [st] g := .mk (pss_one ps_w) a
/-- code that is never come to -/
def sNever : EvSt := fun _ => none
theorem dNever : DS X st sNever := .mk ps_never fun C σ H S o D hS hf q => by cases hf
theorem dsNever : DSs X sts sNever := .mk pss_never fun C σ H S o D hS hf q => by cases hf
theorem dPass {pos : Pos} : DS X (.Pass pos) sNil := .mk ps_pass fun C σ H S o D hS hf q => by
  cases hf
  exact q C σ H Step.refl hS
def sBreak : EvSt := fun S => some (.bk S)
def sCont : EvSt := fun S => some (.ct S)
theorem dBreak {pos : Pos} : DS X (.Break pos) sBreak := .mk ps_break fun C σ H S o D hS hf q => by
  cases hf
  exact q C σ H Step.refl hS
theorem dCont {pos : Pos} : DS X (.Continue pos) sCont := .mk ps_continue fun C σ H S o D hS hf q => by
  cases hf
  exact q C σ H Step.refl hS
/-- an owned name's list is shared from here on -/
def sFrz (i : Nat) (g : EvSt) : EvSt := fun S => g (frz i S)
theorem ev_frz {t : TS} {g : EvSt} {K : PySem.W.Frag} (i : Nat) (h : EvS K t g) : EvS K t (sFrz i g) := fun C σ H S o D hS hf q => by
  unfold sFrz at hf
  cases e : S[i]? with
  | none =>
    have ef : frz i S = S := by unfold frz; rw [e]
    rw [ef] at hf
    exact h C σ H S o D hS hf q
  | some x =>
    rw [frz_of e] at hf
    cases ed : ownD x with
    | none => rw [ed] at hf; exact h C σ H S o D hS hf q
    | some xs => rw [ed] at hf; exact h _ σ H _ o D (hS.frzD e ed) hf (q.step (.drop i))
theorem dFrz (i : Nat) {g : EvSt} (h : DS X st g) : DS X st (sFrz i g) := ev_frz i h
theorem dsFrz (i : Nat) {g : EvSt} (h : DSs X sts g) : DSs X sts (sFrz i g) := ev_frz i h
/-! ## plain statements -/
variable {e c : Expr} {pos : Pos}
def sExpr (f : Ev) : EvSt := fun S => do
  let (_, S1) ← f S
  some (.nx S1)
theorem dExpr {f : Ev} (h : DE X e f) (hs : swapsWith e none pos.line X.env = pure false := by rfl) : DS X (.Expr e pos) (sExpr f) :=
  .mk (ps_expr pe_w hs) fun C σ H S o D hS hf q => by
    unfold sExpr at hf
    obtain ⟨⟨d, S1⟩, h1, hf⟩ := bind_some' hf
    cases hf
    exact h C σ H S d S1 _ hS h1 fun v H1 k1 hS1 r1 => q C σ H1 (.keep1 k1) hS1
def sRet (f : Ev) : EvSt := fun S => do
  let (d, S1) ← f S
  some (.rt d S1)
theorem dRet {f : Ev} (h : DE X e f) : DS X (.Return (some e) pos) (sRet f) :=
  .mk (ps_ret pe_w) fun C σ H S o D hS hf q => by
    unfold sRet at hf
    obtain ⟨⟨d, S1⟩, h1, hf⟩ := bind_some' hf
    cases hf
    exact h C σ H S d S1 _ hS h1 fun v H1 k1 hS1 r1 => q C σ v H1 (.keep1 k1) hS1 r1
theorem dRetNone : DS X (.Return none pos) (sRet (eC .none)) := .mk ps_retN fun C σ H S o D hS hf q => by
  cases hf
  exact q C σ _ H Step.refl hS rfl
def sRetF (f : EvL) : EvSt := fun S => do
  let (xs, S1) ← f S
  some (.rtF xs S1)
theorem H0_none {K : PySem.W.Frag} {C : Ctx} {σ : Sg} {H : Hp} {S : Stt} {p : Addr} (hS : Hold K C σ H S) (n : H p = none) : C.H0 p = none := by
  cases e : C.H0 p with
  | none => rfl
  | some o =>
    by_cases hb : p ∈ C.B
    · obtain ⟨xs, z⟩ := hS.bd p hb
      rw [n] at z; cases z
    · rw [hS.frame p o e hb] at n; cases n
theorem dRetF {f : EvL} (h : DF X e f) : DS X (.Return (some e) pos) (sRetF f) :=
  .mk (ps_ret pe_w) fun C σ H S o D hS hf q => by
    unfold sRetF at hf
    obtain ⟨⟨xs, S1⟩, h1, hf⟩ := bind_some' hf
    cases hf
    exact h C σ H S xs S1 _ hS h1 fun p vs H1 np k1 hp hS1 r1 => q C σ p vs H1 (.keep1 k1) hS1 hp (H0_none hS np) r1
/-- return of an owned name -/
def sRetOw (i : Nat) : EvSt := fun S => if i = 0 then none else match S[i]? with
  | some (.ow xs) => some (.rtF xs (S.set i .no))
  | _ => none
def sRetN (i : Nat) : EvSt := fun S => if i = 0 then none else match S[i]? with
  | some (.nst yss) => some (.rtF (yss.map PyData.list) (S.set i .no))
  | _ => none
theorem Hold.unown {K : PySem.W.Frag} {C : Ctx} {σ : Sg} {H : Hp} {S : Stt} {i : Nat} {a : Addr} (h : Hold K C σ H S) (ha : (i, a) ∈ C.O) : Hold K ((C.drop i).more a) σ H (S.set i .no) := by
  have hd := h.drop i
  have eq : ∀ b, b ∈ ((C.drop i).more a).hid → b ∈ C.hid := more_sub ha
  have vw : Same (hide C.hid H) (hide ((C.drop i).more a).hid H) := fun b o z => by
    obtain ⟨h1, h2⟩ := hide_some.mp z
    exact hide_some.mpr ⟨fun w => h1 (eq b w), h2⟩
  refine ⟨hd.len, fun j v x h1 h2 => ?_, hd.own, hd.nod, fun p hp z => ?_, fun b hb => h.wd b (eq b hb), h.frame, hd.fresh, h.bd⟩
  · rcases set_get h2 with ⟨_, rfl, _⟩ | ⟨hne, h2⟩
    · trivial
    · have q := h.slot j v x h1 h2
      cases x with
      | no => trivial
      | sh d => obtain ⟨y, q1, q2⟩ := q; exact ⟨y, q1, q2.mono vw⟩
      | ow xs => obtain ⟨b, vs, q1, q2, q3, q4⟩ := q; exact ⟨b, vs, mem_drop.mpr ⟨q1, fun z => hne z.symm⟩, q2, q3, q4.mono vw⟩
      | scr ns => obtain ⟨b, q1, q2⟩ := q; exact ⟨b, q1, sqL_mono vw q2⟩
      | raw v => exact q
      | nst yss =>
        obtain ⟨b, bs, q1, q2, q3, q4, q5⟩ := q
        have nO : ∀ b, (j, b) ∈ C.O → (j, b) ∈ (C.drop i).O := fun b z => mem_drop.mpr ⟨z, fun z => hne z.symm⟩
        exact ⟨b, bs, q1, nO _ q2, q3, q4, q5.mono (fun b _ z => nO b z) (fun _ _ _ _ z => z) vw⟩
  · rcases List.mem_cons.mp z with e | z
    · have hp := mem_drop.mp hp
      have hp2 : (p.1, a) ∈ C.O := by rw [← e]; exact hp.1
      exact hp.2 (h.slot_inj hp2 ha)
    · exact hd.apart p hp z
theorem ret_own {K : PySem.W.Frag} {i : Nat} {C : Ctx} {σ : Sg} {H : Hp} {S : Stt} {D : Ends} {x : Sl} {xs : List PD} (hS : Hold K C σ H S) (h0 : i ≠ 0) (e1 : S[i]? = some x) (ed : ownD x = some xs) (q : Fin K C H D (.rtF xs (S.set i .no))) : tRet (tVar i) D σ H := by
  obtain ⟨a, vs, p0, p1, p2, p3⟩ := hS.at_own e1 ed
  have hu := hS.unown p0
  refine ⟨.ref a, p1, q (C.drop i) σ a vs H (.drop i) hu p2 ?_ p3⟩
  rcases hS.fresh _ p0 with z | ⟨z, _⟩
  · exact z.2
  · exact absurd z h0
theorem dRetOw {i : Nat} (h : OwN X e i) : DS X (.Return (some e) pos) (sRetOw i) :=
  .mk (ps_ret h) fun C σ H S o D hS hf q => by
    unfold sRetOw at hf
    split at hf
    · cases hf
    · rename_i h0
      split at hf
      · rename_i xs e1
        cases hf
        exact ret_own hS h0 e1 rfl q
      · cases hf
theorem dRetN {i : Nat} (h : OwN X e i) : DS X (.Return (some e) pos) (sRetN i) :=
  .mk (ps_ret h) fun C σ H S o D hS hf q => by
    unfold sRetN at hf
    split at hf
    · cases hf
    · rename_i h0
      split at hf
      · rename_i xs e1
        cases hf
        exact ret_own hS h0 e1 rfl q
      · cases hf
/-! ## names stored -/
def sSet (i : Nat) (f : Ev) : EvSt := fun S => do
  let (d, S1) ← f S
  some (.nx (S1.set i (.sh d)))
theorem ev_set {K : PySem.W.Frag} {i : Nat} {t : TE} {f : Ev} (h : EvE K t f) : EvS K (tAsg t (gName i)) (sSet i f) := fun C σ H S o D hS hf q => by
  unfold sSet at hf
  obtain ⟨⟨d, S1⟩, h1, hf⟩ := bind_some' hf
  cases hf
  refine h C σ H S d S1 _ hS h1 fun v H1 k1 hS1 r1 => ?_
  exact q (C.drop i) (σ.set i (some v)) H1 ((Step.keep1 k1).trans (.drop i)) (hS1.setSh r1)
def sSetF (i : Nat) (f : EvL) : EvSt := fun S => do
  let (xs, S1) ← f S
  if i ≠ 0 ∧ i < S1.length then some (.nx (S1.set i (.ow xs))) else none
theorem ev_setF {K : PySem.W.Frag} {i : Nat} {t : TE} {f : EvL} (h : EvF K t f) : EvS K (tAsg t (gName i)) (sSetF i f) := fun C σ H S o D hS hf q => by
  unfold sSetF at hf
  obtain ⟨⟨d, S1⟩, h1, hf⟩ := bind_some' hf
  dsimp only at hf
  split at hf
  · rename_i hi
    cases hf
    refine h C σ H S d S1 _ hS h1 fun p vs H1 np k1 hp hS1 r1 => ?_
    exact q _ (σ.set i (some (.ref p))) H1 (.gain np k1) (hS1.setOw hi.1 hi.2 hp r1 (H0_none hS np) (hS.new np))
  · cases hf
section
variable {i : Nat} {x : Str} {pos' : Pos}
theorem dSet {f : Ev} (i : Nat) (h : DE X e f) (hN : X.N.Nodup) (hi : X.N[i]? = some x := by rfl) (hx : Loc X.env.scope x := by first | exact Or.inl rfl | exact Or.inr rfl)
    (hs : swapsWith e (some (.Name x pos')) pos.line X.env = pure false := by rfl) (hf : X.fn x = true ∨ X.env.scope.names.lookup x = some .local := by first | exact .inl rfl | exact .inr rfl | assumption) :
    DS X (.Assign [.Name x pos'] e pos) (sSet i f) := .mk (ps_set hN hi hx pe_w hs hf) (ev_set h)
theorem dSetF {f : EvL} (i : Nat) (h : DF X e f) (hN : X.N.Nodup) (hi : X.N[i]? = some x := by rfl) (hx : Loc X.env.scope x := by first | exact Or.inl rfl | exact Or.inr rfl)
    (hs : swapsWith e (some (.Name x pos')) pos.line X.env = pure false := by rfl) (hf : X.fn x = true ∨ X.env.scope.names.lookup x = some .local := by first | exact .inl rfl | exact .inr rfl | assumption) :
    DS X (.Assign [.Name x pos'] e pos) (sSetF i f) := .mk (ps_set hN hi hx pe_w hs hf) (ev_setF h)
end
/-- the list of one name goes over to another -/
def sMove (i j : Nat) : EvSt := fun S => if j = 0 ∨ i = j ∨ i = 0 ∨ ¬ i < S.length then none else match S[j]? with
  | some (.ow xs) => some (.nx ((S.set j .no).set i (.ow xs)))
  | _ => none
theorem dMove {x : Str} {pos' : Pos} (i j : Nat) (h : OwN X e j) (hN : X.N.Nodup) (hi : X.N[i]? = some x := by rfl) (hx : Loc X.env.scope x := by first | exact Or.inl rfl | exact Or.inr rfl)
    (hs : swapsWith e (some (.Name x pos')) pos.line X.env = pure false := by rfl) (hf : X.fn x = true ∨ X.env.scope.names.lookup x = some .local := by first | exact .inl rfl | exact .inr rfl | assumption) :
    DS X (.Assign [.Name x pos'] e pos) (sMove i j) := .mk (ps_set hN hi hx h hs hf) fun C σ H S o D hS hg q => by
  unfold sMove at hg
  split at hg
  · cases hg
  · rename_i h0
    split at hg
    · rename_i xs e1
      cases hg
      obtain ⟨a, vs, p0, p1, p2, p3⟩ := hS.at_ow e1
      have hu := hS.unown p0
      have hj0 : j ≠ 0 := fun z => h0 (.inl z)
      have hij : i ≠ j := fun z => h0 (.inr (.inl z))
      have hil : i < S.length := by
        by_cases z : i < S.length
        · exact z
        · exact absurd (.inr (.inr (.inr z))) h0
      have hi0 : i ≠ 0 := fun z => h0 (.inr (.inr (.inl z)))
      have f0 : C.H0 a = none := by
        rcases hS.fresh _ p0 with z | ⟨z, _⟩
        · exact z.2
        · exact absurd z hj0
      have na : a ∉ (C.drop j).hid := fun z => by
        unfold Ctx.hid at z
        rcases List.mem_append.mp z with z | z
        · exact hS.apart _ p0 z
        · obtain ⟨p, hp, e2⟩ := List.mem_map.mp z
          obtain ⟨hp, hne⟩ := mem_drop.mp hp
          have hp' : (p.1, a) ∈ C.O := by rw [← e2]; exact hp
          exact hne (hS.slot_inj hp' p0)
      have r2 : RepL X.K (hide ((C.drop j).more a).hid H) xs vs := p3.mono fun b o z => by
        obtain ⟨z1, z2⟩ := hide_some.mp z
        refine hide_some.mpr ⟨fun w => z1 ?_, z2⟩
        rcases List.mem_cons.mp w with e2 | w
        · rw [e2]; exact Hold.in_hid p0
        · exact drop_hid w
      have fin := hu.setOw (i := i) hi0 (by rw [List.length_set]; exact hil) p2 r2 f0 na
      refine ⟨.ref a, p1, q (((C.drop j).drop i).gain i a) _ H ⟨rfl, rfl, rfl, Kp.refl, fun b hb => .inl ?_⟩ fin⟩
      rcases own_gain hb with z | z
      · rw [z]; exact in_own p0
      · exact drop_own z
    · cases hg
/-- name op= e on ints -/
def sAug (g : PD → PD → Option PD) (i : Nat) (f : Ev) : EvSt := fun S => match S[i]? with
  | some (.sh a) => (do
    let (b, S1) ← f S
    let d ← g a b
    some (.nx (S1.set i (.sh d))))
  | _ => none
theorem dAugAdd {x : Str} {pos' : Pos} {f : Ev} (i : Nat) (h : DE X e f) (hN : X.N.Nodup) (hi : X.N[i]? = some x := by rfl) (hx : Loc X.env.scope x := by first | exact Or.inl rfl | exact Or.inr rfl)
    (hf : X.fn x = true ∨ X.env.scope.names.lookup x = some .local := by first | exact .inl rfl | exact .inr rfl | assumption) :
    DS X (.AugAssign (.Name x pos') .Add e pos) (sAug (gI (fun _ _ => true) fun i j => .int (i + j)) i f) := .mk (ps_aug hN hi hx pe_w ip_add hf) fun C σ H S o D hS hg q => by
  unfold sAug at hg
  split at hg
  · rename_i a e1
    obtain ⟨v, p1, p2⟩ := hS.at_sh e1
    obtain ⟨⟨b, S1⟩, h1, hg⟩ := bind_some' hg
    obtain ⟨d, h2, hg⟩ := bind_some' hg
    cases hg
    obtain ⟨m, n, rfl, rfl, _, rfl⟩ := gI_some h2
    refine ⟨v, p1, h C σ H S _ S1 _ hS h1 fun w H1 k1 hS1 r1 => ?_⟩
    exact ⟨m, n, p2, r1, q (C.drop i) _ H1 ((Step.keep1 k1).trans (.drop i)) (hS1.setSh (d := .int (m + n)) rfl)⟩
  · cases hg
end
end DK
namespace DK
open PySem PySem.Spec PyProof.Rows L2
section
variable {X : Cx} {st : Stmt} {sts : List Stmt} {e c : Expr} {pos : Pos}
/-! ## owned lists changed in place -/
theorem ow_keep {K : PySem.W.Frag} {C : Ctx} {H : Hp} {i : Nat} {a : Addr} {us : List V} (ha : (i, a) ∈ C.O) : Kp C H (upd H a (.lst us)) := fun b o hb h => by
  rw [upd_ne (fun z => hb (by rw [z]; exact in_own ha))]
  exact h
theorem ow_vw {C : Ctx} {H : Hp} {i : Nat} {a : Addr} {us : List V} (ha : (i, a) ∈ C.O) : Same (hide C.hid H) (hide C.hid (upd H a (.lst us))) := (ow_keep (K := []) ha).vw
theorem Hold.updOw {K : PySem.W.Frag} {C : Ctx} {σ : Sg} {H : Hp} {S : Stt} {i : Nat} {a : Addr} {xs ys : List PD} {us : List V} (h : Hold K C σ H S) (e : S[i]? = some (.ow xs)) (ha : (i, a) ∈ C.O) (r : RepL K (hide C.hid H) ys us) :
    Hold K C σ (upd H a (.lst us)) (S.set i (.ow ys)) :=
  h.chgOw e ha (fun b o hb q => by rw [upd_ne hb]; exact q) upd_same (r.mono (ow_vw ha))
/-- x.append(e) -/
def sApp (i : Nat) (f : Ev) : EvSt := fun S => if isOw S[i]? then (do
  let (d, S1) ← f S
  match S1[i]? with
  | some (.ow xs) => if xs.length < 100000 then some (.nx (S1.set i (.ow (xs ++ [d])))) else none
  | _ => none) else none
theorem dApp {i : Nat} {l a : Expr} {f : Ev} {p1 p2 : Pos} (hb : PE X (.Call (.Attribute l "append" p1) [a] [] p2) (tBM X.K "list" rAppend (tVar i) (tCons (wE X a) tNil))) (ha : DE X a f)
    (hs : swapsWith (.Call (.Attribute l "append" p1) [a] [] p2) none pos.line X.env = pure false := by rfl) :
    DS X (.Expr (.Call (.Attribute l "append" p1) [a] [] p2) pos) (sApp i f) := by
  refine .mk (ps_expr hb hs) fun C σ H S o D hS hf q => ?_
  unfold sApp at hf
  split at hf
  · rename_i hw
    obtain ⟨xs0, e0⟩ := isOw_some hw
    obtain ⟨ad, vs0, q0, q1, q2, q3⟩ := hS.at_ow e0
    obtain ⟨⟨d, S1⟩, h1, hf⟩ := bind_some' hf
    dsimp only at hf
    refine ⟨.ref ad, q1, .inl ⟨rfl, _, SqL.of q2⟩, ha C σ H S d S1 _ hS h1 fun v H1 k1 hS1 r1 => ?_⟩
    split at hf
    · rename_i xs e1
      split at hf
      · rename_i hl
        cases hf
        obtain ⟨a0, vs, a2, a3⟩ := Hold.ref_same hS hS1 q1 e1
        refine ⟨ad, vs, v, rfl, rfl, a2, by rw [a3.length, sizeLine_eq]; omega, ?_⟩
        exact q C σ _ ((Step.keep1 k1).trans (.keep1 (ow_keep (K := X.K) a0))) (hS1.updOw e1 a0 (a3.append (.one r1)))
      · cases hf
    · cases hf
  · cases hf
/-- x.extend(e), e a list -/
def sExt (i : Nat) (f : Ev) : EvSt := fun S => if isOw S[i]? then (do
  let (d, S1) ← f S
  match S1[i]?, d with
  | some (.ow xs), .list ys => if xs.length + ys.length < 100000 then some (.nx (S1.set i (.ow (xs ++ ys)))) else none
  | _, _ => none) else none
theorem dExt {i : Nat} {l a : Expr} {f : Ev} {p1 p2 : Pos} (hb : PE X (.Call (.Attribute l "extend" p1) [a] [] p2) (tBM X.K "list" rExtend (tVar i) (tCons (wE X a) tNil))) (ha : DE X a f)
    (hs : swapsWith (.Call (.Attribute l "extend" p1) [a] [] p2) none pos.line X.env = pure false := by rfl) :
    DS X (.Expr (.Call (.Attribute l "extend" p1) [a] [] p2) pos) (sExt i f) := by
  refine .mk (ps_expr hb hs) fun C σ H S o D hS hf q => ?_
  unfold sExt at hf
  split at hf
  · rename_i hw
    obtain ⟨xs0, e0⟩ := isOw_some hw
    obtain ⟨ad, vs0, q0, q1, q2, q3⟩ := hS.at_ow e0
    obtain ⟨⟨d, S1⟩, h1, hf⟩ := bind_some' hf
    dsimp only at hf
    refine ⟨.ref ad, q1, .inl ⟨rfl, _, SqL.of q2⟩, ha C σ H S d S1 _ hS h1 fun v H1 k1 hS1 r1 => ?_⟩
    split at hf
    · rename_i xs ys e1
      split at hf
      · rename_i hl
        cases hf
        obtain ⟨a0, vs, a2, a3⟩ := Hold.ref_same hS hS1 q1 e1
        obtain ⟨b, ws, rfl, nb, b1, b2⟩ := hp_lst r1
        refine ⟨ad, b, vs, ws, rfl, rfl, a2, b1, by rw [a3.length, b2.length, sizeLine_eq]; omega, ?_⟩
        exact q C σ _ ((Step.keep1 k1).trans (.keep1 (ow_keep (K := X.K) a0))) (hS1.updOw e1 a0 (a3.append b2))
      · cases hf
    · cases hf
  · cases hf
/-- x.clear() -/
def sClr (i : Nat) : EvSt := fun S => if isOw S[i]? then some (.nx (S.set i (.ow []))) else none
theorem dClr {i : Nat} {l : Expr} {p1 p2 : Pos} (hb : PE X (.Call (.Attribute l "clear" p1) [] [] p2) (tBM0 X.K "list" rClear (tVar i)))
    (hs : swapsWith (.Call (.Attribute l "clear" p1) [] [] p2) none pos.line X.env = pure false := by rfl) :
    DS X (.Expr (.Call (.Attribute l "clear" p1) [] [] p2) pos) (sClr i) := by
  refine .mk (ps_expr hb hs) fun C σ H S o D hS hf q => ?_
  unfold sClr at hf
  split at hf
  · rename_i hw
    cases hf
    obtain ⟨xs0, e0⟩ := isOw_some hw
    obtain ⟨ad, vs0, q0, q1, q2, q3⟩ := hS.at_ow e0
    refine ⟨.ref ad, q1, .inl ⟨rfl, _, SqL.of q2⟩, ad, vs0, rfl, rfl, q2, ?_⟩
    exact q C σ _ (.keep1 (ow_keep (K := X.K) q0)) (hS.updOw e0 q0 rfl)
  · cases hf
/-- x[k] = v -/
def sSto (i : Nat) (f g : Ev) : EvSt := fun S => do
  let (d, S1) ← f S
  if isOw S1[i]? then (do
    let (k, S2) ← g S1
    match S2[i]?, k with
    | some (.ow xs), .int j => (match ixN xs.length j with
      | some n => some (.nx (S2.set i (.ow (xs.set n d))))
      | none => none)
    | _, _ => none) else none
theorem dSto {i : Nat} {l a v : Expr} {f g : Ev} {p1 : Pos} (hv : DE X v f) (h : OwN X l i) (ha : DE X a g)
    (has : ∀ v, assign (.Subscript l a p1) X.env v = (do
      let ov ← holding [v] (eval l X.env)
      let iv ← holding [v, ov] (eval a X.env)
      standAt p1
      holding [v, ov, iv] (setItem ov iv v)
      release [v, ov, iv] []) := by intro _; rfl)
    (hs : swapsWithSole [.Subscript l a p1] v pos.line X.env = pure false := by rfl) (hw : swappedStores [.Subscript l a p1] v X.env = pure none := by rfl)
    (h1 : (assignEach [.Subscript l a p1] X.env).map (·.2) = [assign (.Subscript l a p1) X.env] := by rfl) : DS X (.Assign [.Subscript l a p1] v pos) (sSto i f g) := by
  refine .mk (ps_asg pe_w (pg_sub h pe_w set_list has) hs hw h1) fun C σ H S o D hS hf q => ?_
  unfold sSto at hf
  obtain ⟨⟨d, S1⟩, h1, hf⟩ := bind_some' hf
  dsimp only at hf
  refine hv C σ H S d S1 _ hS h1 fun vv H1 k1 hS1 r1 => ?_
  split at hf
  · rename_i hw
    obtain ⟨xs0, e0⟩ := isOw_some hw
    obtain ⟨ad, vs0, q0, q1, q2, q3⟩ := hS1.at_ow e0
    obtain ⟨⟨k, S2⟩, h2, hf⟩ := bind_some' hf
    dsimp only at hf
    refine ⟨.ref ad, q1, ha C σ H1 S1 k S2 _ hS1 h2 fun iv H2 k2 hS2 r2 => ?_⟩
    split at hf
    · rename_i xs j e1
      split at hf
      · rename_i n hn
        cases hf
        obtain ⟨a0, vs, a2, a3⟩ := Hold.ref_same hS1 hS2 q1 e1
        cases (show iv = .int j from r2)
        refine ⟨ad, vs, j, n, rfl, rfl, a2, by rw [a3.length]; exact hn, ?_⟩
        exact q C σ _ (((Step.keep1 k1).trans (.keep1 k2)).trans (.keep1 (ow_keep (K := X.K) a0))) (hS2.updOw e1 a0 (a3.set n (r1.mono k2.vw)))
      · cases hf
    · cases hf
  · cases hf
/-! ## if, while -/
def sIf (t : EvB) (g h : EvSt) : EvSt := fun S => do
  let (b, S1) ← t S
  if b then g S1 else h S1
theorem dIfS {a b : List Stmt} {t : EvB} {g h : EvSt} (ht : DT X c t) (ha : DSs X a g) (hb : DSs X b h) : DS X (.If c a b pos) (sIf t g h) :=
  .mk (ps_if pt_w pss_w pss_w) fun C σ H S o D hS hf q => by
    unfold sIf at hf
    obtain ⟨⟨k, S1⟩, h1, hf⟩ := bind_some' hf
    refine ht C σ H S k S1 _ hS h1 fun H1 k1 hS1 => ?_
    cases k with
    | true => exact ha C σ H1 S1 o D hS1 hf (q.step (.keep1 k1))
    | false => exact hb C σ H1 S1 o D hS1 hf (q.step (.keep1 k1))
/-- at most n turns -/
def whileN (t : EvB) (g : EvSt) : Nat → Stt → Option Out
  | 0, _ => none
  | n + 1, S => match t S with
    | some (true, S1) => (match g S1 with
      | some (.nx S2) => whileN t g n S2
      | some (.ct S2) => whileN t g n S2
      | some (.bk S2) => some (.nx S2)
      | o => o)
    | some (false, S1) => some (.nx S1)
    | none => none
theorem whileN_more {t : EvB} {g : EvSt} : ∀ {n : Nat} {S : Stt} {o : Out}, whileN t g n S = some o → ∀ m, n ≤ m → whileN t g m S = some o := by
  intro n
  induction n with
  | zero => intro S o h; cases h
  | succ n ih =>
    intro S o h m hm
    obtain ⟨m, rfl⟩ : ∃ k, m = k + 1 := ⟨m - 1, by omega⟩
    unfold whileN at h ⊢
    cases e : t S with
    | none => rw [e] at h; cases h
    | some p =>
      obtain ⟨b, S1⟩ := p
      rw [e] at h
      cases b with
      | false => exact h
      | true =>
        dsimp only at h ⊢
        cases e2 : g S1 with
        | none => rw [e2] at h; cases h
        | some o1 =>
          rw [e2] at h
          cases o1 with
          | nx S2 => exact ih h m (by omega)
          | ct S2 => exact ih h m (by omega)
          | bk S2 => exact h
          | rt d S2 => exact h
          | rtF d S2 => exact h
/-- more turns than any loop here takes -/
def most : Nat := 2 ^ 200
def sWhile (t : EvB) (g : EvSt) : EvSt := fun S => whileN t g most S
theorem sWhile_of {t : EvB} {g : EvSt} {n : Nat} {S : Stt} {o : Out} (h : whileN t g n S = some o) (hn : n ≤ most) : sWhile t g S = some o := whileN_more h most hn
theorem dWhile {body : List Stmt} {t : EvB} {g : EvSt} (hp : PassesOwn (model X.prog X.w) X.A X.env X.xe) (ht : DT X c t) (hb : DSs X body g) : DS X (.While c body [] pos) (sWhile t g) :=
  .mk (ps_while hp pt_w pss_w) fun C σ H S o D hS hf q => by
    have hn : whileN t g most S = some o := hf
    refine ⟨fun m σ' H' => ∃ C' S', Step C H C' H' ∧ Hold X.K C' σ' H' S' ∧ whileN t g m S' = some o, ⟨most, C, S, Step.refl, hS, hn⟩, ?_⟩
    rintro m σ' H' ⟨C', S', s', hS', hm⟩
    cases m with
    | zero => cases hm
    | succ m =>
      unfold whileN at hm
      split at hm
      · rename_i S1 e
        refine ht C' σ' H' S' true S1 _ hS' e fun H1 k1 hS1 => ?_
        rw [if_pos rfl]
        refine ⟨fun σ2 H2 => ∃ C2 S2, Step C H C2 H2 ∧ Hold X.K C2 σ2 H2 S2 ∧ whileN t g m S2 = some o, fun σ2 H2 h => ⟨m, Nat.lt_succ_self m, h⟩, ?_⟩
        have s1 : Step C H C' H1 := s'.trans (.keep1 k1)
        split at hm
        · rename_i S2 e2
          exact hb C' σ' H1 S1 _ _ hS1 e2 fun C2 σ2 H2 s2 hS2 => ⟨C2, S2, s1.trans s2, hS2, hm⟩
        · rename_i S2 e2
          exact hb C' σ' H1 S1 _ _ hS1 e2 fun C2 σ2 H2 s2 hS2 => ⟨C2, S2, s1.trans s2, hS2, hm⟩
        · rename_i S2 e2
          cases hm
          exact hb C' σ' H1 S1 _ _ hS1 e2 fun C2 σ2 H2 s2 hS2 => q C2 σ2 H2 (s1.trans s2) hS2
        · rename_i n1 n2 n3
          cases o with
          | rt d S2 => exact hb C' σ' H1 S1 _ _ hS1 hm (q.step s1)
          | rtF d S2 => exact hb C' σ' H1 S1 _ _ hS1 hm (q.step s1)
          | nx S2 => exact absurd hm (n1 S2)
          | ct S2 => exact absurd hm (n2 S2)
          | bk S2 => exact absurd hm (n3 S2)
      · rename_i S1 e
        cases hm
        refine ht C' σ' H' S' false S1 _ hS' e fun H1 k1 hS1 => ?_
        rw [if_neg Bool.false_ne_true]
        exact q C' σ' H1 (s'.trans (.keep1 k1)) hS1
      · cases hm
end
end DK
namespace DK
open PySem PySem.Spec PyProof.Rows L2
/-! ## iterators -/
def ItOk (K : PySem.W.Frag) (G : Hp) (J : It) (ds : List PD) : Prop := ∀ (Hn : Hp) (O : List Addr), Same G (hide O Hn) → (∀ p, Hn p = none → p ∉ O) →
  (∀ i, i < ds.length → J.go i Hn) ∧ (∀ i, ds.length ≤ i → J.stop i Hn) ∧ ∀ i d x H', ds[i]? = some d → J.yld i Hn x H' → Same Hn H' ∧ Rep K (hide O H') d x
def EvI (K : PySem.W.Frag) (w : TI) (f : EvL) : Prop := ∀ (C : Ctx) (σ : Sg) (H : Hp) (S : Stt) (ds : List PD) (S' : Stt) (R : It → Hp → Prop), Hold K C σ H S → f S = some (ds, S') →
  (∀ J H1, Kp C H H1 → Hold K C σ H1 S' → ItOk K (hide C.hid H1) J ds → R J H1) → w σ H R
def wI (X : Cx) (tg iter : Expr) : TI := fun σ H R => ∀ (pins : List (Addr × Obj)) (s : Shared), Inv X pins σ H s → wpAny (model X.prog X.w) X.A (eval iter X.env) (fun v s1 => wpAny (model X.prog X.w) X.A (pyIter v) (PIE X pins σ tg R) X.xe s1) X.xe s
theorem pi_w {X : Cx} {tg iter : Expr} : PI X tg iter (wI X tg iter) := ⟨fun pins s _ _ _ I h => h pins s I⟩
def DI (X : Cx) (tg iter : Expr) (f : EvL) : Prop := EvI X.K (wI X tg iter) f
section
variable {X : Cx} {K : PySem.W.Frag} {tg e : Expr} {pos : Pos}
theorem DI.mk {t : TI} {f : EvL} (h : PI X tg e t) (k : EvI X.K t f) : DI X tg e f := fun C σ H S ds S' R hS hf q pins s I => h.run pins s σ H R I (k C σ H S ds S' R hS hf q)
theorem it_list {G : Hp} {a : Addr} {ds : List PD} {vs : List V} (h : G a = some (.lst vs)) (r : RepL K G ds vs) : ItOk K G (Itl K a) ds := fun Hn O sm fr => by
  have hn : SqL K Hn a vs := SqL.of (hide_le _ _ (sm _ _ h))
  have hl := r.length
  refine ⟨fun i hi => ⟨vs, vs[i]'(by omega), hn, List.getElem?_eq_getElem _⟩, fun i hi => ⟨vs, hn, by omega⟩, fun i d x H' hd hy => ?_⟩
  obtain ⟨rfl, hy⟩ := hy
  obtain ⟨d', q1, q2⟩ := r.get (hy vs hn)
  rw [hd] at q1
  cases q1
  exact ⟨Same.refl _, q2.mono sm⟩
theorem it_tup {G : Hp} {a : Addr} {ds : List PD} {vs : List V} (h : SqT K G a vs) (r : RepL K G ds vs) : ItOk K G (Itt K a) ds := fun Hn O sm fr => by
  have hn : SqT K Hn a vs := sqT_mono (fun b o z => hide_le _ _ (sm b o z)) h
  have hl := r.length
  refine ⟨fun i hi => ⟨vs, vs[i]'(by omega), hn, List.getElem?_eq_getElem _⟩, fun i hi => ⟨vs, hn, by omega⟩, fun i d x H' hd hy => ?_⟩
  obtain ⟨rfl, hy⟩ := hy
  obtain ⟨d', q1, q2⟩ := r.get (hy vs hn)
  rw [hd] at q1
  cases q1
  exact ⟨Same.refl _, q2.mono sm⟩
/-- over a list -/
def iLst (f : Ev) : EvL := fun S => match f S with
  | some (.list ds, S1) => some (ds, S1)
  | _ => none
theorem iLst_some {f : Ev} {S S' : Stt} {ds : List PD} (h : iLst f S = some (ds, S')) : f S = some (.list ds, S') := by
  unfold iLst at h
  split at h
  · rename_i e; cases h; exact e
  · cases h
theorem diList {f : Ev} (h : DE X e f) : DI X tg e (iLst f) := .mk (pi_list pe_w) fun C σ H S ds S' R hS hf q => by
  refine h C σ H S _ S' _ hS (iLst_some hf) fun v H1 k1 hS1 r1 => ?_
  obtain ⟨a, vs, rfl, h1, r⟩ := r1
  exact ⟨a, rfl, ⟨vs, SqL.of (hide_le _ _ h1)⟩, q _ H1 k1 hS1 (it_list h1 r)⟩
/-- over a tuple -/
def iTupl (f : Ev) : EvL := fun S => match f S with
  | some (.tuple ds, S1) => some (ds, S1)
  | _ => none
theorem diTup {f : Ev} (h : DE X e f) : DI X tg e (iTupl f) := .mk (pi_tup pe_w) fun C σ H S ds S' R hS hf q => by
  unfold iTupl at hf
  split at hf
  · rename_i ds' S1 e1
    cases hf
    refine h C σ H S _ _ _ hS e1 fun v H1 k1 hS1 r1 => ?_
    obtain ⟨a, vs, rfl, h1, r⟩ := r1
    exact ⟨a, rfl, ⟨vs, sqT_mono hide_le h1⟩, q _ H1 k1 hS1 (it_tup h1 r)⟩
  · cases hf
/-- over a new list -/
theorem diListF {f : EvL} (h : DF X e f) : DI X tg e f := .mk (pi_list pe_w) fun C σ H S ds S' R hS hf q => by
  refine h C σ H S ds S' _ hS hf fun p vs H1 np k1 hp hS1 r => ?_
  have np1 : p ∉ C.hid := hS.new np
  exact ⟨p, rfl, ⟨vs, SqL.of hp⟩, q _ H1 k1 hS1.unmore (it_list (hide_some.mpr ⟨np1, hp⟩) (r.mono hide_more_le))⟩
/-- the script -/
def iScr (i : Nat) : EvL := fun S => match S[i]? with
  | some (.scr ns) => some (ns.map PyData.int, S)
  | _ => none
theorem vals_of {H : Hp} {ns : List Int} : RepL K H (ns.map PyData.int) (ns.map V.int) := rep_ints ns
theorem diScr {i : Nat} (h : OwN X e i) : DI X tg e (iScr i) := .mk (pi_list h) fun C σ H S ds S' R hS hf q => by
  unfold iScr at hf
  split at hf
  · rename_i ns e1
    cases hf
    obtain ⟨a, h1, h2⟩ := hS.at_scr e1
    refine ⟨.ref a, h1, a, rfl, ⟨_, sqL_mono hide_le h2⟩, q _ H Kp.refl hS fun Hn O sm fr => ?_⟩
    have hn : SqL X.K Hn a (ns.map V.int) := sqL_mono (fun b o z => hide_le _ _ (sm b o z)) h2
    refine ⟨fun i hi => ⟨_, (ns.map V.int)[i]'(by simpa using hi), hn, List.getElem?_eq_getElem _⟩, fun i hi => ⟨_, hn, by simpa using hi⟩, fun i d x H' hd hy => ?_⟩
    obtain ⟨rfl, hy⟩ := hy
    obtain ⟨d', q1, q2⟩ := (rep_ints (K := X.K) (H := hide O H') ns).get (hy _ hn)
    rw [hd] at q1
    cases q1
    exact ⟨Same.refl _, q2⟩
  · cases hf
/-- ranges -/
def rng (lo : Int) (n : Nat) : List PD := (List.range n).map fun (i : Nat) => PyData.int (lo + (i : Int))
theorem rng_len {lo : Int} {n : Nat} : (rng lo n).length = n := by simp [rng]
theorem rng_get {lo : Int} {n i : Nat} {d : PD} (h : (rng lo n)[i]? = some d) : d = .int (lo + (i : Int)) := by
  unfold rng at h
  rw [List.getElem?_map] at h
  have hi : i < n := by
    by_cases z : i < n
    · exact z
    · rw [List.getElem?_eq_none (by simpa using z)] at h; cases h
  rw [List.getElem?_range hi] at h
  cases h
  rfl
theorem it_rng {G : Hp} {lo : Int} {n : Nat} : ItOk K G (Itr lo n) (rng lo n) := fun Hn O sm fr => by
  refine ⟨fun i hi => by rw [rng_len] at hi; exact hi, fun i hi => by rw [rng_len] at hi; exact hi, fun i d x H' hd hy => ?_⟩
  obtain ⟨rfl, rfl⟩ := hy
  have hd := rng_get hd
  subst hd
  exact ⟨Same.refl _, rfl⟩
def okR (i : Int) : Bool := decide (-100000 ≤ i ∧ i ≤ 100000)
def iRng1 (f : EvL) : EvL := fun S => match f S with
  | some ([.int j], S1) => if okR j then some (rng 0 j.toNat, S1) else none
  | _ => none
def iRng2 (f : EvL) : EvL := fun S => match f S with
  | some ([.int i, .int j], S1) => if okR i && okR j then some (rng i (j - i).toNat, S1) else none
  | _ => none
theorem okR_some {i : Int} (h : okR i = true) : -(2 ^ 62) ≤ i ∧ i < 2 ^ 62 := by
  unfold okR at h
  have := of_decide_eq_true h
  omega
theorem diRange1 {a : Expr} {f : EvL} {p : Pos} (h : DA X [a] f) (hm : X.mg "range" = none) (hg : Gl X "range" := by rfl) (hs : starEach [a] X.env = [(false, eval a X.env)] := by rfl) : DI X tg (.Call (.Name "range" p) [a] [] pos) (iRng1 f) :=
  .mk (pi_range1 hg hm pa_w hs) fun C σ H S ds S' R hS hf q => by
    unfold iRng1 at hf
    split at hf
    · rename_i j S1 e1
      split at hf
      · rename_i hj
        cases hf
        refine h C σ H S _ _ _ hS e1 fun vs H1 k1 hS1 r1 => ?_
        obtain ⟨v, rfl, r⟩ := rep1 r1
        cases (show v = .int j from r)
        obtain ⟨q1, q2⟩ := okR_some hj
        exact ⟨j, rfl, q1, q2, q _ H1 k1 hS1 it_rng⟩
      · cases hf
    · cases hf
theorem diRange2 {a b : Expr} {f : EvL} {p : Pos} (h : DA X [a, b] f) (hm : X.mg "range" = none) (hg : Gl X "range" := by rfl) (hs : starEach [a, b] X.env = [(false, eval a X.env), (false, eval b X.env)] := by rfl) (hs2 : starEach [b] X.env = [(false, eval b X.env)] := by rfl) :
    DI X tg (.Call (.Name "range" p) [a, b] [] pos) (iRng2 f) :=
  .mk (pi_range2 hg hm pa_w hs hs2) fun C σ H S ds S' R hS hf q => by
    unfold iRng2 at hf
    split at hf
    · rename_i i j S1 e1
      split at hf
      · rename_i hj
        cases hf
        rw [Bool.and_eq_true] at hj
        refine h C σ H S _ _ _ hS e1 fun vs H1 k1 hS1 r1 => ?_
        obtain ⟨v, w, rfl, r, r'⟩ := rep2 r1
        cases (show v = .int i from r)
        cases (show w = .int j from r')
        obtain ⟨q1, q2⟩ := okR_some hj.1
        obtain ⟨q3, q4⟩ := okR_some hj.2
        exact ⟨i, j, rfl, ⟨q1, q2, q3, q4⟩, q _ H1 k1 hS1 it_rng⟩
      · cases hf
    · cases hf
/-- enumerate, zip -/
def enumD : Nat → List PD → List PD
  | _, [] => []
  | i, d :: ds => .tuple [.int (i : Int), d] :: enumD (i + 1) ds
theorem enumD_len : ∀ (ds : List PD) (i : Nat), (enumD i ds).length = ds.length
  | [], _ => rfl
  | d :: ds, i => by simp [enumD, enumD_len ds]
theorem enumD_get : ∀ {ds : List PD} {k i : Nat} {d : PD}, (enumD k ds)[i]? = some d → ∃ x, ds[i]? = some x ∧ d = .tuple [.int ((k + i : Nat) : Int), x]
  | [], _, _, _, h => by simp [enumD] at h
  | x :: ds, k, 0, d, h => by
    simp [enumD] at h
    exact ⟨x, by simp, by simp [h]⟩
  | x :: ds, k, i + 1, d, h => by
    simp only [enumD, List.getElem?_cons_succ] at h
    obtain ⟨y, h1, h2⟩ := enumD_get h
    refine ⟨y, by simpa using h1, ?_⟩
    rw [h2]
    have : k + 1 + i = k + (i + 1) := by omega
    rw [this]
def iEnumD (f : EvL) : EvL := fun S => match f S with
  | some ([.list ds], S1) => some (enumD 0 ds, S1)
  | _ => none
theorem it_enum {G : Hp} {a : Addr} {ds : List PD} {vs : List V} (h : G a = some (.lst vs)) (r : RepL K G ds vs) : ItOk K G (Ite K a) (enumD 0 ds) := fun Hn O sm fr => by
  have hn : SqL K Hn a vs := SqL.of (hide_le _ _ (sm _ _ h))
  have hl := r.length
  refine ⟨fun i hi => ⟨vs, vs[i]'(by rw [enumD_len] at hi; omega), hn, List.getElem?_eq_getElem _⟩, fun i hi => ⟨vs, hn, by rw [enumD_len] at hi; omega⟩, fun i d x H' hd hy => ?_⟩
  obtain ⟨T, y, rfl, nT, rfl, hy⟩ := hy
  obtain ⟨z, h1, rfl⟩ := enumD_get hd
  obtain ⟨d', q1, q2⟩ := r.get (hy vs hn)
  rw [h1] at q1
  cases q1
  have s2 := same_upd (o := HO.tup [.int (i : Nat), y]) nT
  refine ⟨s2, T, [.int (i : Nat), y], rfl, SqT.of (hide_some.mpr ⟨fr T nT, upd_same⟩), _, _, rfl, by simp [Rep], y, [], rfl, ?_, rfl⟩
  exact (q2.mono sm).mono (Keep.of (O := O) s2).vw
theorem diEnum {a : Expr} {f : EvL} {p tpos : Pos} {elts : List Expr} {kk : Nat} (h : DA X [a] f) (hm : X.mg "enumerate" = none) (hg : Gl X "enumerate" := by rfl) (hs : starEach [a] X.env = [(false, eval a X.env)] := by rfl) :
    DI X (.Tuple elts kk tpos) (.Call (.Name "enumerate" p) [a] [] pos) (iEnumD f) :=
  .mk (pi_enum hg hm pa_w hs) fun C σ H S ds S' R hS hf q => by
    unfold iEnumD at hf
    split at hf
    · rename_i es S1 e1
      cases hf
      refine h C σ H S _ _ _ hS e1 fun vs H1 k1 hS1 r1 => ?_
      obtain ⟨v, rfl, r⟩ := rep1 r1
      obtain ⟨b, ws, rfl, h1, r⟩ := r
      exact ⟨b, ws, rfl, SqL.of (hide_le _ _ h1), q _ H1 k1 hS1 (it_enum h1 r)⟩
    · cases hf
def zipD (xs ys : List PD) : List PD := List.zipWith (fun a b => .tuple [a, b]) xs ys
def iZipD (f : EvL) : EvL := fun S => match f S with
  | some ([.list xs, .list ys], S1) => some (zipD xs ys, S1)
  | _ => none
theorem it_zip {G : Hp} {a b : Addr} {ds es : List PD} {vs ws : List V} (h : G a = some (.lst vs)) (r : RepL K G ds vs) (h' : G b = some (.lst ws)) (r' : RepL K G es ws) : ItOk K G (Itz K a b) (zipD ds es) := fun Hn O sm fr => by
  have hn : SqL K Hn a vs := SqL.of (hide_le _ _ (sm _ _ h))
  have hn' : SqL K Hn b ws := SqL.of (hide_le _ _ (sm _ _ h'))
  have hl := r.length
  have hl' := r'.length
  have hz : (zipD ds es).length = min ds.length es.length := by simp [zipD]
  refine ⟨fun i hi => ⟨vs, ws, vs[i]'(by omega), ws[i]'(by omega), hn, hn', List.getElem?_eq_getElem _, List.getElem?_eq_getElem _⟩, fun i hi => ⟨vs, ws, hn, hn', by omega⟩, fun i d x H' hd hy => ?_⟩
  obtain ⟨T, y, z, rfl, nT, rfl, hy, hy'⟩ := hy
  obtain ⟨d1, q1, q2⟩ := r.get (hy vs hn)
  obtain ⟨d2, q3, q4⟩ := r'.get (hy' ws hn')
  have ed : d = .tuple [d1, d2] := by
    unfold zipD at hd
    rw [List.getElem?_zipWith, q1, q3] at hd
    cases hd
    rfl
  subst ed
  have s2 := same_upd (o := HO.tup [y, z]) nT
  refine ⟨s2, T, [y, z], rfl, SqT.of (hide_some.mpr ⟨fr T nT, upd_same⟩), y, [z], rfl, (q2.mono sm).mono (Keep.of (O := O) s2).vw, z, [], rfl, (q4.mono sm).mono (Keep.of (O := O) s2).vw, rfl⟩
theorem diZip {a b : Expr} {f : EvL} {p tpos : Pos} {elts : List Expr} {kk : Nat} (h : DA X [a, b] f) (hp : PI X (.Tuple elts kk tpos) (.Call (.Name "zip" p) [a, b] [] pos) (iZip X.K (wA X [a, b]))) :
    DI X (.Tuple elts kk tpos) (.Call (.Name "zip" p) [a, b] [] pos) (iZipD f) :=
  .mk hp fun C σ H S ds S' R hS hf q => by
    unfold iZipD at hf
    split at hf
    · rename_i xs ys S1 e1
      cases hf
      refine h C σ H S _ _ _ hS e1 fun vs H1 k1 hS1 r1 => ?_
      obtain ⟨v, w, rfl, r, r'⟩ := rep2 r1
      obtain ⟨b, us, rfl, h1, r⟩ := r
      obtain ⟨c, ws, rfl, h2, r'⟩ := r'
      exact ⟨b, c, us, ws, rfl, SqL.of (hide_le _ _ h1), SqL.of (hide_le _ _ h2), q _ H1 k1 hS1 (it_zip h1 r h2 r')⟩
    · cases hf
/-! ## targets -/
def EvG (K : PySem.W.Frag) (g : TG) (vs : List Nat) (f : PD → Stt → Option Stt) : Prop := ∀ (C : Ctx) (σ : Sg) (H : Hp) (S : Stt) (d : PD) (v : V) (S' : Stt) (Q : Sg → Hp → Prop), Hold K C σ H S → (∀ p ∈ C.O, p.1 ∉ vs) →
  Rep K (hide C.hid H) d v → f d S = some S' → (∀ σ', Hold K C σ' H S' → wipe σ' vs = wipe σ vs → Q σ' H) → g v σ H Q
def EvGs (K : PySem.W.Frag) (g : TGs) (vs : List Nat) (f : List PD → Stt → Option Stt) : Prop := ∀ (C : Ctx) (σ : Sg) (H : Hp) (S : Stt) (ds : List PD) (us : List V) (S' : Stt) (Q : Sg → Hp → Prop), Hold K C σ H S → (∀ p ∈ C.O, p.1 ∉ vs) →
  RepL K (hide C.hid H) ds us → f ds S = some S' → (∀ σ', Hold K C σ' H S' → wipe σ' vs = wipe σ vs → Q σ' H) → g us σ H Q
theorem wipe_get {σ : Sg} {j : Nat} : ∀ {vs : List Nat}, (wipe σ vs)[j]? = if j ∈ vs ∧ j < σ.length then some none else σ[j]?
  | [] => by simp [wipe]
  | v :: vs => by
    unfold wipe
    by_cases h : v = j
    · subst h
      by_cases hl : v < σ.length
      · rw [List.getElem?_set_self (by rw [wipe_length]; exact hl)]
        simp [hl]
      · rw [List.getElem?_eq_none (by simp [wipe_length]; omega)]
        rw [if_neg (fun z => hl z.2), List.getElem?_eq_none (by omega)]
    · rw [List.getElem?_set_ne h, wipe_get]
      have : j ∈ v :: vs ↔ j ∈ vs := by
        simp [List.mem_cons]
        intro z
        exact absurd z.symm h
      simp [this]
theorem wipe_set {σ : Sg} {i : Nat} {x : Option V} {vs : List Nat} (h : i ∈ vs) : wipe (σ.set i x) vs = wipe σ vs := by
  refine List.ext_getElem? fun j => ?_
  rw [wipe_get, wipe_get, List.length_set]
  by_cases hj : j ∈ vs ∧ j < σ.length
  · rw [if_pos hj, if_pos hj]
  · rw [if_neg hj, if_neg hj]
    by_cases e : i = j
    · subst e
      have hl : ¬ i < σ.length := fun z => hj ⟨h, z⟩
      rw [List.getElem?_eq_none (by simp; omega), List.getElem?_eq_none (by omega)]
    · rw [List.getElem?_set_ne e]
structure DG (X : Cx) (tg : Expr) (vs : List Nat) (f : PD → Stt → Option Stt) : Prop where
  ok : ∃ g, PG X tg g ∧ EvG X.K g vs f
structure DGs (X : Cx) (tgs : List Expr) (vs : List Nat) (f : List PD → Stt → Option Stt) : Prop where
  ok : ∃ g, PGs X tgs g ∧ EvGs X.K g vs f
def tNm (i : Nat) : PD → Stt → Option Stt := fun d S => some (S.set i (.sh d))
def tsNil : List PD → Stt → Option Stt := fun ds S => match ds with
  | [] => some S
  | _ => none
def tsCons (f : PD → Stt → Option Stt) (g : List PD → Stt → Option Stt) : List PD → Stt → Option Stt := fun ds S => match ds with
  | d :: r => (f d S).bind (g r)
  | [] => none
def tTp (n : Nat) (g : List PD → Stt → Option Stt) : PD → Stt → Option Stt := fun d S => match d with
  | .tuple ds => if ds.length = n then g ds S else none
  | _ => none
theorem eg_nm {i : Nat} {vs : List Nat} (h : i ∈ vs) : EvG K (gName i) vs (tNm i) := fun C σ H S d v S' Q hS no r hf q => by
  cases hf
  exact q _ (hS.putSh (fun p hp e => no p hp (by rw [e]; exact h)) r) (wipe_set h)
theorem eg_nil {vs : List Nat} : EvGs K gNil vs tsNil := fun C σ H S ds us S' Q hS no r hf q => by
  unfold tsNil at hf
  split at hf
  · cases hf
    exact ⟨r, q σ hS rfl⟩
  · cases hf
theorem eg_cons {t : TG} {u : TGs} {vs : List Nat} {f : PD → Stt → Option Stt} {g : List PD → Stt → Option Stt} (h : EvG K t vs f) (h' : EvGs K u vs g) : EvGs K (gCons t u) vs (tsCons f g) := fun C σ H S ds us S' Q hS no r hf q => by
  unfold tsCons at hf
  split at hf
  · rename_i d ds
    obtain ⟨v, ws, rfl, r1, r2⟩ := r
    obtain ⟨S1, h1, hf⟩ := bind_some' hf
    refine ⟨v, ws, rfl, h C σ H S d v S1 _ hS no r1 h1 fun σ1 hS1 e1 => ?_⟩
    exact h' C σ1 H S1 ds ws S' Q hS1 no r2 hf fun σ2 hS2 e2 => q σ2 hS2 (e2.trans e1)
  · cases hf
theorem eg_tup {u : TGs} {vs : List Nat} {n : Nat} {g : List PD → Stt → Option Stt} (h : EvGs K u vs g) : EvG K (gTup K n u) vs (tTp n g) := fun C σ H S d v S' Q hS no r hf q => by
  unfold tTp at hf
  split at hf
  · rename_i ds
    split at hf
    · rename_i hn
      obtain ⟨a, us, rfl, h1, h2⟩ := r
      exact ⟨a, us, rfl, sqT_mono hide_le h1, by rw [h2.length]; exact hn, h C σ H S ds us S' Q hS no h2 hf q⟩
    · cases hf
  · cases hf
theorem dgNm (i : Nat) {vs : List Nat} {x : Str} (hN : X.N.Nodup) (h : i ∈ vs := by decide) (hi : X.N[i]? = some x := by rfl) (hx : Loc X.env.scope x := by first | exact Or.inl rfl | exact Or.inr rfl) (hf : X.fn x = true ∨ X.env.scope.names.lookup x = some .local := by first | exact .inl rfl | exact .inr rfl | assumption) :
    DG X (.Name x pos) vs (tNm i) := ⟨_, pg_name hN hi hx hf, eg_nm h⟩
theorem dgNil {vs : List Nat} : DGs X [] vs tsNil := ⟨_, pgs_nil, eg_nil⟩
theorem dgCons {es : List Expr} {vs : List Nat} {f : PD → Stt → Option Stt} {g : List PD → Stt → Option Stt} (h : DG X e vs f) (h' : DGs X es vs g) (hs : (assignEach (e :: es) X.env).map (·.2) = assign e X.env :: (assignEach es X.env).map (·.2) := by rfl) : DGs X (e :: es) vs (tsCons f g) := by
  obtain ⟨t, p, k⟩ := h.ok
  obtain ⟨u, p', k'⟩ := h'.ok
  exact ⟨_, pgs_cons p p' hs, eg_cons k k'⟩
theorem dgTup {es : List Expr} {k : Nat} {vs : List Nat} {n : Nat} {g : List PD → Stt → Option Stt} (hc : X.calm = true) (h : DGs X es vs g) (hn : (assignEach es X.env).length = n := by rfl) (hst : (assignEach es X.env).findIdx? (·.1) = none := by rfl) : DG X (.Tuple es k pos) vs (tTp n g) := by
  obtain ⟨u, p', k'⟩ := h.ok
  exact ⟨_, pg_tup hc p' hn hst, eg_tup k'⟩
end
end DK
namespace DK
open PySem PySem.Spec PyProof.Rows L2
section
variable {X : Cx} {K : PySem.W.Frag} {tg e : Expr} {pos : Pos}
/-- the slots' owned lists are let go -/
def letGo : List Nat → Stt → Stt
  | [], S => S
  | v :: vs, S => letGo vs (match S[v]? with
    | some (.ow _) => S.set v .no
    | some (.nst _) => S.set v .no
    | _ => S)
def dropAll : List Nat → Ctx → Ctx
  | [], C => C
  | v :: vs, C => dropAll vs (C.drop v)
theorem Hold.undrop {C : Ctx} {σ : Sg} {H : Hp} {S : Stt} {v : Nat} (h : Hold K C σ H S) (n : ∀ xs, S[v]? ≠ some (.ow xs)) (n2 : ∀ xs, S[v]? ≠ some (.nst xs)) : C.drop v = C := by
  unfold Ctx.drop
  have e : C.O.filter (fun p => decide (p.1 ≠ v)) = C.O := by
    refine List.filter_eq_self.mpr fun p hp => decide_eq_true fun z => ?_
    rcases h.own p hp with ⟨xs, q, _⟩ | ⟨xs, q⟩
    · rw [z] at q
      exact n xs q
    · rw [z] at q
      exact n2 xs q
  rw [e]
theorem Hold.letGo {σ : Sg} {H : Hp} : ∀ {vs : List Nat} {C : Ctx} {S : Stt}, Hold K C σ H S → Hold K (dropAll vs C) σ H (letGo vs S) ∧ (∀ p ∈ (dropAll vs C).O, p.1 ∉ vs) ∧ Step C H (dropAll vs C) H
  | [], C, S, h => ⟨h, fun p _ => by simp, Step.refl⟩
  | v :: vs, C, S, h => by
    unfold DK.letGo dropAll
    have h1 : Hold K (C.drop v) σ H (match S[v]? with
      | some (.ow _) => S.set v .no
      | some (.nst _) => S.set v .no
      | _ => S) := by
      split
      · exact h.drop v
      · exact h.drop v
      · rename_i hn hn2
        rw [h.undrop (fun xs e => hn xs e) fun xs e => hn2 xs e]
        exact h
    obtain ⟨q1, q2, q3⟩ := Hold.letGo (vs := vs) h1
    refine ⟨q1, fun p hp => ?_, (Step.drop v).trans q3⟩
    have sub : ∀ {vs : List Nat} {C : Ctx} {p : Nat × Addr}, p ∈ (dropAll vs C).O → p ∈ C.O := by
      intro vs
      induction vs with
      | nil => intro C p h; exact h
      | cons w ws ih => intro C p h; exact (mem_drop.mp (ih h)).1
    have hv := (mem_drop.mp (sub hp)).2
    simp only [List.mem_cons, not_or]
    exact ⟨hv, q2 p hp⟩
/-! ## for -/
def forL (vs : List Nat) (tgt : PD → Stt → Option Stt) (body : EvSt) : List PD → Stt → Option Out
  | [], S => some (.nx S)
  | d :: ds, S => match tgt d (letGo vs S) with
    | none => none
    | some S1 => match body S1 with
      | some (.nx S2) => forL vs tgt body ds S2
      | some (.ct S2) => forL vs tgt body ds S2
      | some (.bk S2) => some (.nx S2)
      | o => o
def sFor (items : EvL) (vs : List Nat) (tgt : PD → Stt → Option Stt) (body : EvSt) : EvSt := fun S => do
  let (ds, S1) ← items S
  forL vs tgt body ds S1
theorem Step.vw {C C' : Ctx} {H H' : Hp} (s : Step C H C' H') : Same (hide C.hid H) (hide C'.hid H') := fun b o h => by
  obtain ⟨h1, h2⟩ := hide_some.mp h
  refine hide_some.mpr ⟨fun z => ?_, s.keep.keep b o h1 h2⟩
  rcases s.hid b z with q | q
  · exact h1 q
  · rw [h2] at q; cases q
theorem dFor {body : List Stmt} {items : EvL} {vs : List Nat} {tgt : PD → Stt → Option Stt} {g : EvSt} (hp : PassesOwn (model X.prog X.w) X.A X.env X.xe) (hc : X.calm = true) (hi : DI X tg e items) (hg : DG X tg vs tgt) (hb : DSs X body g)
    (hs : ∀ x, foldedSetIterable e X.env x = pure x := by intro _; rfl) : DS X (.For tg e body [] pos) (sFor items vs tgt g) := by
  obtain ⟨t, pt, kt⟩ := hg.ok
  refine .mk (ps_for hp hc pi_w pt pss_w hs) fun C σ H S o D hS hf q => ?_
  unfold sFor at hf
  obtain ⟨⟨ds, S1⟩, h1, hf⟩ := bind_some' hf
  dsimp only at hf
  refine hi C σ H S ds S1 _ hS h1 fun J H1 k1 hS1 it => ?_
  have st1 : Step C H C H1 := .keep1 k1
  refine ⟨fun i m σ' H' => m = ds.length - i ∧ i ≤ ds.length ∧ ∃ C' S', Step C H C' H' ∧ Step C H1 C' H' ∧ Hold X.K C' σ' H' S' ∧ forL vs tgt g (ds.drop i) S' = some o, ⟨ds.length, by omega, Nat.zero_le _, C, S1, st1, Step.refl, hS1, by simpa using hf⟩, ?_⟩
  rintro i m σ' H' ⟨rfl, hi', C', S', s0, s1, hS', hl⟩
  obtain ⟨go, stop, yld⟩ := it H' C'.hid s1.vw fun p np => hS'.new np
  by_cases hlt : i < ds.length
  · refine .inr ⟨go i hlt, fun σ2 H2 => ∃ C2 S2, Step C H C2 H2 ∧ Step C H1 C2 H2 ∧ Hold X.K C2 σ2 H2 S2 ∧ forL vs tgt g (ds.drop (i + 1)) S2 = some o, fun σ2 H2 h => ⟨ds.length - (i + 1), by omega, rfl, by omega, h⟩, fun x H2 hy => ?_⟩
    obtain ⟨sm, rx⟩ := yld i ds[i] x H2 (List.getElem?_eq_getElem hlt) hy
    have hS2 := hS'.same sm
    obtain ⟨hS3, no3, s3⟩ := hS2.letGo (vs := vs)
    have s2 : Step C' H' C' H2 := .keep1 (.of sm)
    rw [List.drop_eq_getElem_cons hlt] at hl
    unfold forL at hl
    cases e1 : tgt ds[i] (letGo vs S') with
    | none => rw [e1] at hl; cases hl
    | some S4 =>
      rw [e1] at hl
      dsimp only at hl
      refine kt _ σ' H2 _ ds[i] x S4 _ hS3 no3 (rx.mono s3.vw) e1 fun σ4 hS4 _ => ?_
      have s4 : Step C H (dropAll vs C') H2 := (s0.trans s2).trans s3
      have s4' : Step C H1 (dropAll vs C') H2 := (s1.trans s2).trans s3
      cases e2 : g S4 with
      | none => rw [e2] at hl; cases hl
      | some o1 =>
        rw [e2] at hl
        cases o1 with
        | nx S5 => exact hb _ σ4 H2 S4 _ _ hS4 e2 fun C5 σ5 H5 s5 hS5 => ⟨C5, S5, s4.trans s5, s4'.trans s5, hS5, hl⟩
        | ct S5 => exact hb _ σ4 H2 S4 _ _ hS4 e2 fun C5 σ5 H5 s5 hS5 => ⟨C5, S5, s4.trans s5, s4'.trans s5, hS5, hl⟩
        | bk S5 =>
          cases hl
          exact hb _ σ4 H2 S4 _ _ hS4 e2 fun C5 σ5 H5 s5 hS5 => q C5 σ5 H5 (s4.trans s5) hS5
        | rt d S5 => cases hl; exact hb _ σ4 H2 S4 _ _ hS4 e2 (q.step s4)
        | rtF d S5 => cases hl; exact hb _ σ4 H2 S4 _ _ hS4 e2 (q.step s4)
  · refine .inl ⟨stop i (by omega), ?_⟩
    rw [List.drop_eq_nil_of_le (by omega)] at hl
    cases hl
    exact q C' σ' H' s0 hS'
/-- target = value -/
def sAsg (f : Ev) (vs : List Nat) (tgt : PD → Stt → Option Stt) : EvSt := fun S => do
  let (d, S1) ← f S
  let S2 ← tgt d (letGo vs S1)
  some (.nx S2)
theorem dAsg {f : Ev} {vs : List Nat} {tgt : PD → Stt → Option Stt} (he : DE X e f) (hg : DG X tg vs tgt) (hs : swapsWithSole [tg] e pos.line X.env = pure false := by rfl) (hw : swappedStores [tg] e X.env = pure none := by rfl)
    (h1 : (assignEach [tg] X.env).map (·.2) = [assign tg X.env] := by rfl) : DS X (.Assign [tg] e pos) (sAsg f vs tgt) := by
  obtain ⟨t, pt, kt⟩ := hg.ok
  refine .mk (ps_asg pe_w pt hs hw h1) fun C σ H S o D hS hf q => ?_
  unfold sAsg at hf
  obtain ⟨⟨d, S1⟩, h1, hf⟩ := bind_some' hf
  obtain ⟨S2, h2, hf⟩ := bind_some' hf
  cases hf
  refine he C σ H S d S1 _ hS h1 fun v H1 k1 hS1 r1 => ?_
  obtain ⟨hS3, no3, s3⟩ := hS1.letGo (vs := vs)
  exact kt _ σ H1 _ d v S2 _ hS3 no3 (r1.mono s3.vw) h2 fun σ4 hS4 _ => q _ σ4 H1 ((Step.keep1 k1).trans s3) hS4
/-- a, b = x, y: two local names -/
def sPar (i j : Nat) (f : EvL) : EvSt := fun S => match f S with
  | some ([a, b], S1) => some (.nx (((letGo [i, j] S1).set i (.sh a)).set j (.sh b)))
  | _ => none
theorem dPar {i j : Nat} {x y : Str} {a b : Expr} {f : EvL} {px py pt : Pos} {kt k2 : Nat} {pt2 : Pos} (h : DA X [a, b] f) (hp : PS X (.Assign [.Tuple [.Name x px, .Name y py] kt pt] (.Tuple [a, b] k2 pt2) pos) (tPar i j (wA X [a, b]))) :
    DS X (.Assign [.Tuple [.Name x px, .Name y py] kt pt] (.Tuple [a, b] k2 pt2) pos) (sPar i j f) :=
  .mk hp fun C σ H S o D hS hf q => by
    unfold sPar at hf
    split at hf
    · rename_i a b S1 e1
      cases hf
      refine h C σ H S _ _ _ hS e1 fun vs H1 k1 hS1 r1 => ?_
      obtain ⟨v, w, rfl, ra, rb⟩ := rep2 r1
      obtain ⟨hS3, no3, s3⟩ := hS1.letGo (vs := [i, j])
      refine ⟨v, w, rfl, q _ _ H1 ((Step.keep1 k1).trans s3) ?_⟩
      exact (hS3.putSh (i := i) (fun p hp z => no3 p hp (by simp [z])) (ra.mono s3.vw)).putSh (i := j) (fun p hp z => no3 p hp (by simp [z])) (rb.mono s3.vw)
    · cases hf
/-! ## list comprehensions -/
def wipeS (S : Stt) : List Nat → Stt
  | [] => S
  | v :: vs => (wipeS S vs).set v .no
def unw (S1 S2 : Stt) : List Nat → Stt
  | [] => S2
  | v :: vs => (unw S1 S2 vs).set v (S1.getD v .no)
theorem wipeS_len {S : Stt} : ∀ vs : List Nat, (wipeS S vs).length = S.length
  | [] => rfl
  | v :: vs => by unfold wipeS; rw [List.length_set, wipeS_len vs]
theorem unw_len {S1 S2 : Stt} : ∀ vs : List Nat, (unw S1 S2 vs).length = S2.length
  | [] => rfl
  | v :: vs => by unfold unw; rw [List.length_set, unw_len vs]
theorem wipeS_get {S : Stt} {j : Nat} : ∀ {vs : List Nat}, (wipeS S vs)[j]? = if j ∈ vs ∧ j < S.length then some .no else S[j]?
  | [] => by simp [wipeS]
  | v :: vs => by
    unfold wipeS
    by_cases h : v = j
    · subst h
      by_cases hl : v < S.length
      · rw [List.getElem?_set_self (by rw [wipeS_len]; exact hl)]
        simp [hl]
      · rw [List.getElem?_eq_none (by simp [wipeS_len]; omega)]
        rw [if_neg (fun z => hl z.2), List.getElem?_eq_none (by omega)]
    · rw [List.getElem?_set_ne h, wipeS_get]
      have : j ∈ v :: vs ↔ j ∈ vs := by
        simp [List.mem_cons]
        intro z
        exact absurd z.symm h
      simp [this]
theorem unw_get {S1 S2 : Stt} {j : Nat} : ∀ {vs : List Nat}, (unw S1 S2 vs)[j]? = if j ∈ vs ∧ j < S2.length then some (S1.getD j .no) else S2[j]?
  | [] => by simp [unw]
  | v :: vs => by
    unfold unw
    by_cases h : v = j
    · subst h
      by_cases hl : v < S2.length
      · rw [List.getElem?_set_self (by rw [unw_len]; exact hl)]
        simp [hl]
      · rw [List.getElem?_eq_none (by simp [unw_len]; omega)]
        rw [if_neg (fun z => hl z.2), List.getElem?_eq_none (by omega)]
    · rw [List.getElem?_set_ne h, unw_get]
      have : j ∈ v :: vs ↔ j ∈ vs := by
        simp [List.mem_cons]
        intro z
        exact absurd z.symm h
      simp [this]
def isOn : Option Sl → Bool
  | some (.ow _) => true
  | some (.nst _) => true
  | _ => false
def noOw (S : Stt) (vs : List Nat) : Bool := vs.all fun v => !isOn S[v]?
theorem noOw_get {S : Stt} {vs : List Nat} (h : noOw S vs = true) {v : Nat} (hv : v ∈ vs) : isOn S[v]? = false := by
  unfold noOw at h
  have := List.all_eq_true.mp h v hv
  simpa using this
theorem Hold.noO {C : Ctx} {σ : Sg} {H : Hp} {S : Stt} (h : Hold K C σ H S) {vs : List Nat} (no : noOw S vs = true) : ∀ p ∈ C.O, p.1 ∉ vs := fun p hp z => by
  have q := noOw_get no z
  rcases h.own p hp with ⟨xs, q1, _⟩ | ⟨xs, q1⟩
  · rw [q1] at q; cases q
  · rw [q1] at q; cases q
/-- forgetting slots that own nothing, at both sides -/
theorem Hold.wipe {C : Ctx} {σ σ' : Sg} {H : Hp} {S : Stt} {vs : List Nat} (h : Hold K C σ' H S) (no : ∀ p ∈ C.O, p.1 ∉ vs) (e : L2.wipe σ' vs = L2.wipe σ vs) : Hold K C (L2.wipe σ vs) H (wipeS S vs) := by
  have hl : σ.length = S.length := by
    have := congrArg List.length e
    rw [wipe_length, wipe_length, h.len] at this
    exact this.symm
  refine ⟨by rw [wipe_length, wipeS_len]; exact hl, fun j v x h1 h2 => ?_, fun p hp => ?_, h.nod, h.apart, h.wd, h.frame, h.fresh, h.bd⟩
  · rw [wipeS_get] at h2
    split at h2
    · cases h2; trivial
    · rename_i hn
      rw [← e, wipe_get, if_neg (by rw [h.len]; exact hn)] at h1
      exact h.slot j v x h1 h2
  · have hn := no p hp
    have e2 : (L2.wipe σ' vs)[p.1]? = σ'[p.1]? := by rw [wipe_get, if_neg (fun z => hn z.1)]
    refine (h.own p hp).ne (by rw [← e, e2]) ?_
    rw [wipeS_get, if_neg (fun z => hn z.1)]
def compL (vs : List Nat) (tgt : PD → Stt → Option Stt) (cond : EvB) (elt : Ev) : List PD → Stt → List PD → Option (List PD × Stt)
  | [], S, acc => some (acc, S)
  | d :: ds, S, acc => match tgt d S with
    | none => none
    | some S1 => match cond S1 with
      | none => none
      | some (true, S2) => (match elt S2 with
        | none => none
        | some (y, S3) => compL vs tgt cond elt ds (wipeS S3 vs) (acc ++ [y]))
      | some (false, S2) => compL vs tgt cond elt ds (wipeS S2 vs) acc
def fLc (items : EvL) (vs : List Nat) (tgt : PD → Stt → Option Stt) (cond : EvB) (elt : Ev) : EvL := fun S => do
  let (ds, S1) ← items S
  if noOw S1 vs && decide (ds.length ≤ 100000) then (do
    let (ys, S2) ← compL vs tgt cond elt ds (wipeS S1 vs) []
    some (ys, unw S1 S2 vs)) else none
def wTs (X : Cx) (ifs : List Expr) : TT := fun σ H Q => ∀ (pins : List (Addr × Obj)) (s : Shared), Inv X pins σ H s → wpAny (model X.prog X.w) X.A (forIn ifs true fun c r => if r = true then do let ok ← isTrue c X.env (eval c X.env); pure (ForInStep.yield ok) else pure (ForInStep.yield r)) (TP X pins σ Q) X.xe s
def DTs (X : Cx) (ifs : List Expr) (f : EvB) : Prop := EvT X.K (wTs X ifs) f
def bTrue : EvB := fun S => some (true, S)
theorem dtNil : DTs X [] bTrue := fun C σ H S b S' Q hS hf q pins s I => by
  cases hf
  exact pts_nil.run pins s σ H Q I (q H Kp.refl hS)
theorem dtOne {c : Expr} {f : EvB} (h : DT X c f) : DTs X [c] f := fun C σ H S b S' Q hS hf q pins s I => (pts_one pt_w).run pins s σ H Q I (h C σ H S b S' Q hS hf q)
theorem wipe_wipe {σ : Sg} {vs : List Nat} : L2.wipe (L2.wipe σ vs) vs = L2.wipe σ vs := by
  refine List.ext_getElem? fun j => ?_
  rw [wipe_get, wipe_length]
  by_cases h : j ∈ vs ∧ j < σ.length
  · rw [if_pos h, wipe_get, if_pos h]
  · rw [if_neg h]
theorem Hold.unw {C C' : Ctx} {σ : Sg} {H1 H' : Hp} {S1 S2 : Stt} {vs : List Nat} (h1 : Hold K C σ H1 S1) (no : noOw S1 vs = true) (h2 : Hold K C' (L2.wipe σ vs) H' S2) (eo : C'.O = C.O) (vw : Same (hide C.hid H1) (hide C'.hid H')) : Hold K C' σ H' (DK.unw S1 S2 vs) := by
  have hl2 : S2.length = σ.length := by rw [← h2.len, wipe_length]
  have nO : ∀ p ∈ C'.O, p.1 ∉ vs := fun p hp => h1.noO no p (by rw [← eo]; exact hp)
  refine ⟨by rw [unw_len]; exact hl2.symm, fun j v x q1 q2 => ?_, fun p hp => ?_, h2.nod, h2.apart, h2.wd, h2.frame, h2.fresh, h2.bd⟩
  · rw [unw_get] at q2
    split at q2
    · rename_i hj
      have hj1 : j < S1.length := by rw [← h1.len, ← hl2]; exact hj.2
      have e : S1[j]? = some x := by
        rw [List.getD_eq_getElem?_getD, List.getElem?_eq_getElem hj1] at q2
        rw [List.getElem?_eq_getElem hj1]
        exact q2
      have z := h1.slot j v x q1 e
      cases x with
      | no => trivial
      | sh d => obtain ⟨y, z1, z2⟩ := z; exact ⟨y, z1, z2.mono vw⟩
      | ow xs => have := noOw_get no hj.1; rw [e] at this; cases this
      | scr ns => obtain ⟨a, z1, z2⟩ := z; exact ⟨a, z1, sqL_mono vw z2⟩
      | raw v => exact z
      | nst xs => have := noOw_get no hj.1; rw [e] at this; cases this
    · rename_i hj
      refine h2.slot j v x ?_ q2
      rw [wipe_get, if_neg (by rw [← hl2]; exact hj)]
      exact q1
  · have hn := nO p hp
    exact (h2.own p hp).ne (by rw [wipe_get, if_neg (fun z => hn z.1)]) (by rw [unw_get, if_neg (fun z => hn z.1)])
theorem ev_lc {w : TI} {g : TG} {tt : TT} {te : TE} {vs : List Nat} {items : EvL} {tgt : PD → Stt → Option Stt} {cond : EvB} {elt : Ev} (hi : EvI K w items) (hg : EvG K g vs tgt) (ht : EvT K tt cond) (he : EvE K te elt) :
    EvF K (tLc w g tt te vs) (fLc items vs tgt cond elt) := fun C σ H S xs S' Q hS hf q => by
  unfold fLc at hf
  obtain ⟨⟨ds, S1⟩, h1, hf⟩ := bind_some' hf
  dsimp only at hf
  split at hf
  · rename_i hc
    rw [Bool.and_eq_true] at hc
    obtain ⟨no1, hsz⟩ := hc
    have hsz := of_decide_eq_true hsz
    obtain ⟨⟨ys, S2⟩, h2, hf⟩ := bind_some' hf
    cases hf
    refine hi C σ H S ds S1 _ hS h1 fun J H1 k1 hS1 it => ?_
    intro D nD
    have sD := same_upd (o := HO.lst []) nD
    have nDh : D ∉ C.hid := hS1.new nD
    have nDo : D ∉ (C.more D).own := fun z => nDh (own_hid (C := C) z)
    have h0 : C.H0 D = none := H0_none hS1 nD
    have noO := hS1.noO no1
    have nOD : ∀ p ∈ C.O, p.2 ≠ D := fun p hp z => nDh (by rw [← z]; exact Hold.in_hid hp)
    have start : Hold K (C.more D) (L2.wipe σ vs) (upd H1 D (.lst [])) (wipeS S1 vs) := (hS1.more nD).wipe (σ := σ) noO rfl
    have vwD : Same (hide C.hid H1) (hide (C.more D).hid (upd H1 D (.lst []))) := vw_more (Kp.of sD) nD
    refine ⟨fun i m H' => m = ds.length - i ∧ i ≤ ds.length ∧ ∃ Si acc avs, Kp C H1 H' ∧ Same (hide C.hid H1) (hide (C.more D).hid H') ∧ Hold K (C.more D) (L2.wipe σ vs) H' Si ∧ H' D = some (.lst avs) ∧ RepL K (hide (C.more D).hid H') acc avs ∧ acc.length ≤ i ∧ compL vs tgt cond elt (ds.drop i) Si acc = some (ys, S2),
      ⟨ds.length, by omega, Nat.zero_le _, wipeS S1 vs, [], [], .of sD, vwD, start, upd_same, rfl, Nat.le_refl _, by simpa using h2⟩, ?_⟩
    rintro i m H' ⟨rfl, hi', Si, acc, avs, kH, vH, hSi, hD, ra, hal, hl⟩
    obtain ⟨go, stop, yld⟩ := it H' (C.more D).hid vH fun p np => hSi.new np
    by_cases hlt : i < ds.length
    · refine .inr ⟨go i hlt, fun H2 => ∃ Si acc avs, Kp C H1 H2 ∧ Same (hide C.hid H1) (hide (C.more D).hid H2) ∧ Hold K (C.more D) (L2.wipe σ vs) H2 Si ∧ H2 D = some (.lst avs) ∧ RepL K (hide (C.more D).hid H2) acc avs ∧ acc.length ≤ i + 1 ∧ compL vs tgt cond elt (ds.drop (i + 1)) Si acc = some (ys, S2),
        fun H2 h => ⟨ds.length - (i + 1), by omega, rfl, by omega, h⟩, fun x H2 hy => ?_⟩
      obtain ⟨sm, rx⟩ := yld i ds[i] x H2 (List.getElem?_eq_getElem hlt) hy
      have hS2 := hSi.same sm
      rw [List.drop_eq_getElem_cons hlt] at hl
      unfold compL at hl
      cases e1 : tgt ds[i] Si with
      | none => rw [e1] at hl; cases hl
      | some S3 =>
        rw [e1] at hl
        dsimp only at hl
        refine hg (C.more D) _ H2 Si ds[i] x S3 _ hS2 noO rx e1 fun σ3 hS3 ew => ?_
        rw [wipe_wipe] at ew
        refine ⟨ew, ?_⟩
        cases e2 : cond S3 with
        | none => rw [e2] at hl; cases hl
        | some p =>
          obtain ⟨b, S4⟩ := p
          rw [e2] at hl
          refine ht (C.more D) σ3 H2 S3 b S4 _ hS3 e2 fun H4 k4 hS4 => ?_
          have hD4 : H4 D = some (.lst avs) := k4 D _ nDo (sm _ _ hD)
          have kH4 : Kp C H1 H4 := (kH.trans (Kp.of sm)).trans k4
          have vw4 : Same (hide (C.more D).hid H') (hide (C.more D).hid H4) := (Kp.of (C := C.more D) sm).vw.trans k4.vw
          cases b with
          | false =>
            rw [if_neg Bool.false_ne_true]
            exact ⟨_, acc, avs, kH4, vH.trans vw4, hS4.wipe noO ew, hD4, ra.mono vw4, by omega, hl⟩
          | true =>
            rw [if_pos rfl]
            dsimp only at hl
            cases e3 : elt S4 with
            | none => rw [e3] at hl; cases hl
            | some p5 =>
              obtain ⟨y, S5⟩ := p5
              rw [e3] at hl
              refine he (C.more D) σ3 H4 S4 y S5 _ hS4 e3 fun v H5 k5 hS5 r5 => ?_
              have hD5 : H5 D = some (.lst avs) := k5 D _ nDo hD4
              have vw5 : Same (hide (C.more D).hid H') (hide (C.more D).hid H5) := vw4.trans k5.vw
              refine ⟨avs, hD5, by rw [ra.length, sizeLine_eq]; omega, _, acc ++ [y], avs ++ [v], fun b o hb hh => ?_, (vH.trans vw5).trans vw_chg, (hS5.chg hD5 nOD h0).wipe noO ew, upd_same, ((ra.mono vw5).append (.one r5)).mono vw_chg, by simp; omega, hl⟩
              rw [upd_ne (fun z => by rw [z, nD] at hh; cases hh)]
              exact (kH4.trans k5) b o hb hh
    · refine .inl ⟨stop i (by omega), ?_⟩
      rw [List.drop_eq_nil_of_le (by omega)] at hl
      cases hl
      exact q D avs H' (free_of' k1 hS1 nD) (k1.trans kH) hD (hS1.unw no1 hSi rfl vH) ra
  · cases hf
/-- [elt for target in iter if ..] -/
theorem dLc {elt iter : Expr} {ifs : List Expr} {scope : Scope} {own : List (Str × Nat)} {items : EvL} {tgt : PD → Stt → Option Stt} {cond : EvB} {el : Ev} (hc : X.calm = true) (hN : X.N.Nodup) (hi : DI X tg iter items) (ok : BlkOk X.N X.env.scope scope own)
    (hg : ∃ g, (∀ (s : Shared) (H : Hp) (C : Addr) (cl : List (Str × Addr)) (fp : List Addr), PG (X.blk s H scope (compEnvC scope cl C X.env) fp) tg g) ∧ EvG X.K g (own.map (·.2)) tgt)
    (ht : ∀ (s : Shared) (H : Hp) (C : Addr) (cl : List (Str × Addr)) (fp : List Addr), DTs (X.blk s H scope (compEnvC scope cl C X.env) fp) ifs cond)
    (he : ∀ (s : Shared) (H : Hp) (C : Addr) (cl : List (Str × Addr)) (fp : List Addr), DE (X.blk s H scope (compEnvC scope cl C X.env) fp) elt el) (hs : ∀ x, foldedSetIterable iter X.env x = pure x := by intro _; rfl) :
    ∃ t, PE X (.ListComp elt [⟨tg, iter, ifs, 0⟩] scope pos) t ∧ EvF X.K t (fLc items (own.map (·.2)) tgt cond el) := by
  obtain ⟨g, pg, kg⟩ := hg
  refine ⟨_, pe_lc hc hN pi_w ok pg (tt := fun σ H Q => ∀ (s : Shared) (H0 : Hp) (C : Addr) (cl : List (Str × Addr)) (fp : List Addr), wTs (X.blk s H0 scope (compEnvC scope cl C X.env) fp) ifs σ H Q)
    (te := fun σ H Q => ∀ (s : Shared) (H0 : Hp) (C : Addr) (cl : List (Str × Addr)) (fp : List Addr), wE (X.blk s H0 scope (compEnvC scope cl C X.env) fp) elt σ H Q)
    (fun s H C cl fp => ⟨fun pins s' σ H' Q I h => h s H C cl fp pins s' I⟩) (fun s H C cl fp => ⟨fun pins s' σ H' Q I h => h s H C cl fp pins s' I⟩) hs, ?_⟩
  exact ev_lc hi kg (fun C σ H S b S' Q hS hf q s H0 C0 cl fp => ht s H0 C0 cl fp C σ H S b S' Q hS hf q) (fun C σ H S b S' Q hS hf q s H0 C0 cl fp => he s H0 C0 cl fp C σ H S b S' Q hS hf q)
theorem dLcF {elt iter : Expr} {ifs : List Expr} {scope : Scope} {own : List (Str × Nat)} {items : EvL} {tgt : PD → Stt → Option Stt} {cond : EvB} {el : Ev} (hc : X.calm = true) (hN : X.N.Nodup) (hi : DI X tg iter items) (ok : BlkOk X.N X.env.scope scope own)
    (hg : ∃ g, (∀ (s : Shared) (H : Hp) (C : Addr) (cl : List (Str × Addr)) (fp : List Addr), PG (X.blk s H scope (compEnvC scope cl C X.env) fp) tg g) ∧ EvG X.K g (own.map (·.2)) tgt)
    (ht : ∀ (s : Shared) (H : Hp) (C : Addr) (cl : List (Str × Addr)) (fp : List Addr), DTs (X.blk s H scope (compEnvC scope cl C X.env) fp) ifs cond)
    (he : ∀ (s : Shared) (H : Hp) (C : Addr) (cl : List (Str × Addr)) (fp : List Addr), DE (X.blk s H scope (compEnvC scope cl C X.env) fp) elt el) (hs : ∀ x, foldedSetIterable iter X.env x = pure x := by intro _; rfl) :
    DF X (.ListComp elt [⟨tg, iter, ifs, 0⟩] scope pos) (fLc items (own.map (·.2)) tgt cond el) := by
  obtain ⟨t, p, k⟩ := dLc (pos := pos) hc hN hi ok hg ht he hs
  exact .mk p k
/-- name = [..] -/
theorem dSetLc {y : Str} {py spos : Pos} {elt iter : Expr} {ifs : List Expr} {scope : Scope} {own : List (Str × Nat)} {items : EvL} {tgt : PD → Stt → Option Stt} {cond : EvB} {el : Ev} (i : Nat) (hc : X.calm = true) (hN : X.N.Nodup) (hi : DI X tg iter items) (ok : BlkOk X.N X.env.scope scope own)
    (hg : ∃ g, (∀ (s : Shared) (H : Hp) (C : Addr) (cl : List (Str × Addr)) (fp : List Addr), PG (X.blk s H scope (compEnvC scope cl C X.env) fp) tg g) ∧ EvG X.K g (own.map (·.2)) tgt)
    (ht : ∀ (s : Shared) (H : Hp) (C : Addr) (cl : List (Str × Addr)) (fp : List Addr), DTs (X.blk s H scope (compEnvC scope cl C X.env) fp) ifs cond)
    (he : ∀ (s : Shared) (H : Hp) (C : Addr) (cl : List (Str × Addr)) (fp : List Addr), DE (X.blk s H scope (compEnvC scope cl C X.env) fp) elt el)
    (hy : X.N[i]? = some y := by rfl) (hyl : X.env.scope.names.lookup y = some .local := by rfl)
    (hsw : swapsWith (.ListComp elt [⟨tg, iter, ifs, 0⟩] scope pos) (some (.Name y py)) spos.line X.env = pure true := by exact sw_true rfl rfl rfl (by decide +kernel)) (hs : ∀ x, foldedSetIterable iter X.env x = pure x := by intro _; rfl) :
    DS X (.Assign [.Name y py] (.ListComp elt [⟨tg, iter, ifs, 0⟩] scope pos) spos) (sSetF i (fLc items (own.map (·.2)) tgt cond el)) := by
  obtain ⟨g, pg, kg⟩ := hg
  refine .mk (ps_setLc hc hN hy hyl hsw pi_w ok pg (tt := fun σ H Q => ∀ (s : Shared) (H0 : Hp) (C : Addr) (cl : List (Str × Addr)) (fp : List Addr), wTs (X.blk s H0 scope (compEnvC scope cl C X.env) fp) ifs σ H Q)
    (te := fun σ H Q => ∀ (s : Shared) (H0 : Hp) (C : Addr) (cl : List (Str × Addr)) (fp : List Addr), wE (X.blk s H0 scope (compEnvC scope cl C X.env) fp) elt σ H Q)
    (fun s H C cl fp => ⟨fun pins s' σ H' Q I h => h s H C cl fp pins s' I⟩) (fun s H C cl fp => ⟨fun pins s' σ H' Q I h => h s H C cl fp pins s' I⟩) hs) ?_
  exact ev_setF (ev_lc hi kg (fun C σ H S b S' Q hS hf q s H0 C0 cl fp => ht s H0 C0 cl fp C σ H S b S' Q hS hf q) (fun C σ H S b S' Q hS hf q s H0 C0 cl fp => he s H0 C0 cl fp C σ H S b S' Q hS hf q))
end
end DK
namespace DK
open PySem PySem.Spec PyProof.Rows L2
/-! ## promises -/
def AllLst (W : List Addr) (H : Hp) : Prop := ∀ b ∈ W, ∃ xs, H b = some (.lst xs)
def spP (K : PySem.W.Frag) (n : Nat) (f : List PD → Option PD) : Sp := fun vs H Q _ => ∃ (W : List Addr) (ds : List PD) (d : PD), ds.length = n ∧ AllLst W H ∧ RepL K (hide W H) ds vs ∧ f ds = some d ∧
  ∀ v H', Same H H' → Rep K (hide W H') d v → Q v H'
def spF (K : PySem.W.Frag) (n : Nat) (f : List PD → Option (List PD)) : Sp := fun vs H Q _ => ∃ (W : List Addr) (ds : List PD) (ys : List PD), ds.length = n ∧ AllLst W H ∧ RepL K (hide W H) ds vs ∧ f ds = some ys ∧
  ∀ p us H', Same H H' → H p = none → H' p = some (.lst us) → RepL K (hide (p :: W) H') ys us → Q (.ref p) H'
/-- the first argument is a list that the def changes -/
def spI (K : PySem.W.Frag) (n : Nat) (f : List PD → Option (PD × List PD)) : Sp := fun vs H Q _ => ∃ (W : List Addr) (a : Addr) (us : List V) (xs ds : List PD) (ws : List V) (d : PD) (ys : List PD), vs = .ref a :: ws ∧ ds.length + 1 = n ∧ AllLst W H ∧ a ∈ W ∧ H a = some (.lst us) ∧
  RepL K (hide W H) xs us ∧ RepL K (hide W H) ds ws ∧ f (.list xs :: ds) = some (d, ys) ∧
  ∀ v H' us', (∀ b o, b ≠ a → H b = some o → H' b = some o) → H' a = some (.lst us') → RepL K (hide W H') ys us' → Rep K (hide W H') d v → Q v H'
def spIF (K : PySem.W.Frag) (n : Nat) (f : List PD → Option (List PD × List PD)) : Sp := fun vs H Q _ => ∃ (W : List Addr) (a : Addr) (us : List V) (xs ds : List PD) (ws : List V) (d : List PD) (ys : List PD), vs = .ref a :: ws ∧ ds.length + 1 = n ∧ AllLst W H ∧ a ∈ W ∧ H a = some (.lst us) ∧
  RepL K (hide W H) xs us ∧ RepL K (hide W H) ds ws ∧ f (.list xs :: ds) = some (d, ys) ∧
  ∀ p qs H' us', (∀ b o, b ≠ a → H b = some o → H' b = some o) → H p = none → H' p = some (.lst qs) → H' a = some (.lst us') → RepL K (hide (p :: W) H') ys us' → RepL K (hide (p :: W) H') d qs → Q (.ref p) H'
/-- the first argument is the script -/
def spS (K : PySem.W.Frag) (n : Nat) (f : List PD → Option PD) : Sp := fun vs H Q _ => ∃ (W : List Addr) (a : Addr) (ns : List Int) (ds : List PD) (ws : List V) (d : PD), vs = .ref a :: ws ∧ ds.length + 1 = n ∧ AllLst W H ∧ SqL K (hide W H) a (ns.map V.int) ∧ RepL K (hide W H) ds ws ∧
  f (.list (ns.map PyData.int) :: ds) = some d ∧ ∀ v H', Same H H' → Rep K (hide W H') d v → Q v H'
/-! ## what a body comes to -/
def resP : Option Out → Option PD
  | some (.rt d _) => some d
  | some (.rtF xs _) => some (.list xs)
  | some (.nx _) => some .none
  | _ => none
def resF : Option Out → Option (List PD)
  | some (.rtF xs _) => some xs
  | _ => none
def io0 (d : PD) (S : Stt) : Option (PD × List PD) := match S[(0 : Nat)]? with
  | some (.ow ys) => some (d, ys)
  | _ => none
def resI : Option Out → Option (PD × List PD)
  | some (.rt d S) => io0 d S
  | some (.rtF xs S) => io0 (.list xs) S
  | some (.nx S) => io0 .none S
  | _ => none
def resIF : Option Out → Option (List PD × List PD)
  | some (.rtF xs S) => match S[(0 : Nat)]? with
    | some (.ow ys) => some (xs, ys)
    | _ => none
  | _ => none
def ini (N : Nat) (S : Stt) : Stt := S ++ List.replicate (N - S.length) .no
def defP (N n : Nat) (g : EvSt) : List PD → Option PD := fun ds => if ds.length = n then resP (g (ini N (ds.map Sl.sh))) else none
def defF (N n : Nat) (g : EvSt) : List PD → Option (List PD) := fun ds => if ds.length = n then resF (g (ini N (ds.map Sl.sh))) else none
def iniI : List PD → Stt
  | .list xs :: ds => .ow xs :: ds.map Sl.sh
  | _ => []
def defI (N n : Nat) (g : EvSt) : List PD → Option (PD × List PD) := fun ds => if ds.length = n then resI (g (ini N (iniI ds))) else none
def defIF (N n : Nat) (g : EvSt) : List PD → Option (List PD × List PD) := fun ds => if ds.length = n then resIF (g (ini N (iniI ds))) else none
def iniS : List PD → Stt
  | .list xs :: ds => (match intsOf xs with
    | some ns => .scr ns
    | none => .no) :: ds.map Sl.sh
  | _ => []
def defS (N n : Nat) (g : EvSt) : List PD → Option PD := fun ds => if ds.length = n then resP (g (ini N (iniS ds))) else none
theorem intsOf_map : ∀ ns : List Int, intsOf (ns.map PyData.int) = some ns
  | [] => rfl
  | n :: r => by
    show (intsOf (r.map PyData.int)).map (n :: ·) = _
    rw [intsOf_map r]
    rfl
section
variable {K : PySem.W.Frag}
/-- slots of arguments -/
inductive ArgOk (K : PySem.W.Frag) (C : Ctx) (H : Hp) : Nat → List V → Stt → Prop where
  | nil (i : Nat) : ArgOk K C H i [] []
  | cons {i : Nat} {v : V} {vs : List V} {x : Sl} {S : Stt} : SlOk K C H i (some v) x → ArgOk K C H (i + 1) vs S → ArgOk K C H i (v :: vs) (x :: S)
theorem ArgOk.len {C : Ctx} {H : Hp} {i : Nat} {vs : List V} {S : Stt} (h : ArgOk K C H i vs S) : vs.length = S.length := by
  induction h with
  | nil => rfl
  | cons _ _ ih => simp [ih]
theorem ArgOk.get {C : Ctx} {H : Hp} {i : Nat} {vs : List V} {S : Stt} (h : ArgOk K C H i vs S) : ∀ {j : Nat} {v : V} {x : Sl}, vs[j]? = some v → S[j]? = some x → SlOk K C H (i + j) (some v) x := by
  induction h with
  | nil => intro j v x h; simp at h
  | @cons i w ws y S hd _ ih =>
    intro j v x h1 h2
    cases j with
    | zero =>
      simp at h1 h2
      subst h1 h2
      exact hd
    | succ j =>
      have := ih (j := j) (v := v) (x := x) (by simpa using h1) (by simpa using h2)
      have e : i + (j + 1) = i + 1 + j := by omega
      rw [e]
      exact this
theorem args_sh {C : Ctx} {H : Hp} : ∀ {ds : List PD} {vs : List V} (i : Nat), RepL K (hide C.hid H) ds vs → ArgOk K C H i vs (ds.map Sl.sh)
  | [], vs, i, r => by cases (show vs = [] from r); exact .nil i
  | d :: ds, vs, i, r => by
    obtain ⟨v, ws, rfl, h1, h2⟩ := r
    exact .cons ⟨v, rfl, h1⟩ (args_sh (i + 1) h2)
theorem start_get {N : List Str} {vs : List V} {j : Nat} {w : Option V} (h : (L2.start N vs)[j]? = some w) : (∃ v, vs[j]? = some v ∧ w = some v) ∨ vs.length ≤ j := by
  unfold L2.start at h
  by_cases hj : j < vs.length
  · rw [List.getElem?_append_left (by simpa using hj), List.getElem?_map, List.getElem?_eq_getElem hj] at h
    cases h
    exact .inl ⟨vs[j], List.getElem?_eq_getElem hj, rfl⟩
  · exact .inr (by omega)
/-- the state at a def's entry -/
theorem hold_start {C : Ctx} {H : Hp} {N : List Str} {vs : List V} {S : Stt} (ok : ArgOk K C H 0 vs S) (hl : vs.length ≤ N.length) (h0 : C.H0 = H)
    (own : ∀ p ∈ C.O, (L2.start N vs)[p.1]? = some (some (.ref p.2)) ∧ ∃ xs, S[p.1]? = some (.ow xs)) (nod : (C.O.map (·.2)).Nodup) (apart : ∀ p ∈ C.O, p.2 ∉ C.W) (wd : AllLst C.hid H) (fr : ∀ p ∈ C.O, (p.1 ≠ 0 ∧ C.H0 p.2 = none) ∨ (p.1 = 0 ∧ p.2 ∈ C.B)) (bd : AllLst C.B H) :
    Hold K C (L2.start N vs) H (ini N.length S) := by
  have hlen := ok.len
  refine ⟨by unfold L2.start ini; simp; omega, fun j v x h1 h2 => ?_, fun p hp => ?_, nod, apart, wd, fun b o h1 _ => by rw [← h0]; exact h1, fr, bd⟩
  · unfold ini at h2
    by_cases hj : j < S.length
    · rw [List.getElem?_append_left hj] at h2
      rcases start_get h1 with ⟨w, e1, e2⟩ | e
      · subst e2
        have := ok.get e1 h2
        rw [Nat.zero_add] at this
        exact this
      · omega
    · rw [List.getElem?_append_right (by omega), List.getElem?_replicate] at h2
      split at h2
      · cases h2; trivial
      · cases h2
  · obtain ⟨q1, xs, q2⟩ := own p hp
    refine .inl ⟨xs, ?_, q1⟩
    unfold ini
    rw [List.getElem?_append_left (List.getElem?_eq_some_iff.mp q2).1]
    exact q2
theorem hid_nil {W : List Addr} {H0 : Hp} : (Ctx.mk H0 [] W []).hid = W := by simp [Ctx.hid]
/-- plain arguments -/
theorem start_P {H : Hp} {N : List Str} {vs : List V} {ds : List PD} {W : List Addr} (wd : AllLst W H) (r : RepL K (hide W H) ds vs) (hl : vs.length ≤ N.length) : Hold K ⟨H, [], W, []⟩ (L2.start N vs) H (ini N.length (ds.map Sl.sh)) :=
  hold_start (args_sh 0 (by rw [hid_nil]; exact r)) hl rfl (fun p hp => nomatch hp) (by simp) (fun p hp => nomatch hp) (by rw [hid_nil]; exact wd) (fun p hp => nomatch hp) fun b hb => nomatch hb
end
section
variable {P : Program} {w : World} {K : PySem.W.Frag} {mg : Str → Option Value} {base : Heap} {x qual : Str} {st : Stmt} {f : Addr} {fd : FuncData} {N ps : List Str} {k : Nat} {g : EvSt}
abbrev Bod (P : Program) (w : World) (K : PySem.W.Frag) (mg : Str → Option Value) (base : Heap) (N : List Str) (qual : Str) (st : Stmt) (f : Addr) (k : Nat) (g : EvSt) : Prop :=
  ∀ (cdv : Value) (A : Around) (outer : List Env) (s : Shared) (H : Hp) (E : XK), Room k (A.deeper (envOfC qual (defScope st) s.heap.objs.size f cdv)) → DSs (cxOf CX0 P w K mg base N qual (defScope st) f cdv A outer s H E).nox (defBody st) g
theorem pre_len (S : FnScope N ps (defScope st)) : ps.length ≤ N.length := by
  have := congrArg List.length S.pre
  rw [List.length_take] at this
  omega
theorem same_of {C' : Ctx} {H H' : Hp} {W : List Addr} (s : Step ⟨H, [], W, []⟩ H C' H') : Same H H' := fun b o h => s.keep b o (by simp [Ctx.own]) h
theorem okP (F : Fun K x qual st f fd) (S : FnScope N ps (defScope st)) (hb : Bod P w K mg base N qual st f k g) : FnOk P w K mg base CX0 (k + 1) f fd ps (spP K ps.length (defP N.length ps.length g)) := by
  refine F.ok S (fun vs H Q E h => ?_) fun cdv A outer s H vs Q E hr h => ?_
  · obtain ⟨W, ds, d, hl, _, r, _⟩ := h
    rw [r.length, hl]
  · obtain ⟨W, ds, d, hl, wd, r, hd, q⟩ := h
    unfold defP at hd
    rw [if_pos hl] at hd
    refine ⟨_, pss_w, ?_⟩
    have hS := start_P (N := N) wd r (by rw [r.length, hl]; exact pre_len S)
    cases e : g (ini N.length (ds.map Sl.sh)) with
    | none => rw [e] at hd; cases hd
    | some o =>
      rw [e] at hd
      refine hb cdv A outer s H E hr _ _ H _ o _ hS e ?_
      cases o with
      | nx S' =>
        cases hd
        exact fun C' σ' H' s' hS' => q .non H' (same_of s') rfl
      | rt d' S' =>
        cases hd
        intro C' σ' v H' s' hS' rv
        refine q v H' (same_of s') (rv.mono fun b o z => ?_)
        obtain ⟨z1, z2⟩ := hide_some.mp z
        exact hide_some.mpr ⟨fun y => z1 (List.mem_append_left _ (by rw [s'.w]; exact y)), z2⟩
      | rtF xs S' =>
        cases hd
        intro C' σ' p us H' s' hS' hp h0 ru
        have np : p ∉ W := fun y => by
          obtain ⟨zs, z⟩ := wd p y
          rw [show H p = none from h0] at z
          cases z
        refine q _ H' (same_of s') ⟨p, us, rfl, hide_some.mpr ⟨np, hp⟩, ru.mono fun b o z => ?_⟩
        obtain ⟨z1, z2⟩ := hide_some.mp z
        exact hide_some.mpr ⟨fun y => z1 (List.mem_cons_of_mem _ (List.mem_append_left _ (by rw [s'.w]; exact y))), z2⟩
      | bk S' => cases hd
      | ct S' => cases hd
theorem okF (F : Fun K x qual st f fd) (S : FnScope N ps (defScope st)) (hb : Bod P w K mg base N qual st f k g) : FnOk P w K mg base CX0 (k + 1) f fd ps (spF K ps.length (defF N.length ps.length g)) := by
  refine F.ok S (fun vs H Q E h => ?_) fun cdv A outer s H vs Q E hr h => ?_
  · obtain ⟨W, ds, d, hl, _, r, _⟩ := h
    rw [r.length, hl]
  · obtain ⟨W, ds, d, hl, wd, r, hd, q⟩ := h
    unfold defF at hd
    rw [if_pos hl] at hd
    refine ⟨_, pss_w, ?_⟩
    have hS := start_P (N := N) wd r (by rw [r.length, hl]; exact pre_len S)
    cases e : g (ini N.length (ds.map Sl.sh)) with
    | none => rw [e] at hd; cases hd
    | some o =>
      rw [e] at hd
      refine hb cdv A outer s H E hr _ _ H _ o _ hS e ?_
      cases o with
      | nx S' => cases hd
      | rt d' S' => cases hd
      | rtF xs S' =>
        cases hd
        intro C' σ' p us H' s' hS' hp h0 ru
        refine q p us H' (same_of s') h0 hp (ru.mono fun b o z => ?_)
        obtain ⟨z1, z2⟩ := hide_some.mp z
        refine hide_some.mpr ⟨fun y => z1 ?_, z2⟩
        rcases List.mem_cons.mp y with y | y
        · rw [y]; exact List.mem_cons_self
        · exact List.mem_cons_of_mem _ (List.mem_append_left _ (by rw [s'.w]; exact y))
      | bk S' => cases hd
      | ct S' => cases hd
theorem okS (F : Fun K x qual st f fd) (S : FnScope N ps (defScope st)) (hb : Bod P w K mg base N qual st f k g) : FnOk P w K mg base CX0 (k + 1) f fd ps (spS K ps.length (defS N.length ps.length g)) := by
  refine F.ok S (fun vs H Q E h => ?_) fun cdv A outer s H vs Q E hr h => ?_
  · obtain ⟨W, a, ns, ds, ws, d, rfl, hl, _, _, r, _⟩ := h
    rw [List.length_cons, r.length, hl]
  · obtain ⟨W, a, ns, ds, ws, d, rfl, hl, wd, hs, r, hd, q⟩ := h
    unfold defS at hd
    rw [if_pos (by simpa using hl)] at hd
    have ei : iniS (.list (ns.map PyData.int) :: ds) = .scr ns :: ds.map Sl.sh := by
      simp only [iniS, intsOf_map]
    rw [ei] at hd
    refine ⟨_, pss_w, ?_⟩
    have hN := pre_len S
    have hS : Hold K ⟨H, [], W, []⟩ (L2.start N (.ref a :: ws)) H (ini N.length (.scr ns :: ds.map Sl.sh)) :=
      hold_start (.cons ⟨a, rfl, by rw [hid_nil]; exact hs⟩ (args_sh 1 (by rw [hid_nil]; exact r))) (by rw [List.length_cons, r.length, hl]; exact hN) rfl (fun p hp => nomatch hp) (by simp) (fun p hp => nomatch hp) (by rw [hid_nil]; exact wd) (fun p hp => nomatch hp) fun b hb => nomatch hb
    cases e : g (ini N.length (.scr ns :: ds.map Sl.sh)) with
    | none => rw [e] at hd; cases hd
    | some o =>
      rw [e] at hd
      refine hb cdv A outer s H E hr _ _ H _ o _ hS e ?_
      cases o with
      | nx S' =>
        cases hd
        exact fun C' σ' H' s' hS' => q .non H' (same_of s') rfl
      | rt d' S' =>
        cases hd
        intro C' σ' v H' s' hS' rv
        refine q v H' (same_of s') (rv.mono fun b o z => ?_)
        obtain ⟨z1, z2⟩ := hide_some.mp z
        exact hide_some.mpr ⟨fun y => z1 (List.mem_append_left _ (by rw [s'.w]; exact y)), z2⟩
      | rtF xs S' =>
        cases hd
        intro C' σ' p us H' s' hS' hp h0 ru
        have np : p ∉ W := fun y => by
          obtain ⟨zs, z⟩ := wd p y
          rw [show H p = none from h0] at z
          cases z
        refine q _ H' (same_of s') ⟨p, us, rfl, hide_some.mpr ⟨np, hp⟩, ru.mono fun b o z => ?_⟩
        obtain ⟨z1, z2⟩ := hide_some.mp z
        exact hide_some.mpr ⟨fun y => z1 (List.mem_cons_of_mem _ (List.mem_append_left _ (by rw [s'.w]; exact y))), z2⟩
      | bk S' => cases hd
      | ct S' => cases hd
end
end DK
namespace DK
open PySem PySem.Spec PyProof.Rows L2
theorem hide_congr {O O' : List Addr} {H : Hp} (h : ∀ b, b ∈ O ↔ b ∈ O') : hide O H = hide O' H := by
  funext b
  unfold hide
  by_cases z : b ∈ O
  · rw [if_pos z, if_pos ((h b).mp z)]
  · rw [if_neg z, if_neg fun y => z ((h b).mpr y)]
def ioC (H : Hp) (W : List Addr) (a : Addr) : Ctx := ⟨H, [a], W.filter (fun b => decide (b ≠ a)), [(0, a)]⟩
theorem ioC_hid {H : Hp} {W : List Addr} {a : Addr} (ha : a ∈ W) (b : Addr) : b ∈ (ioC H W a).hid ↔ b ∈ W := by
  unfold ioC Ctx.hid
  simp only [List.mem_append, List.mem_filter, List.map_cons, List.map_nil, List.mem_singleton, decide_eq_true_eq]
  constructor
  · rintro (⟨q, _⟩ | q)
    · exact q
    · rw [q]; exact ha
  · intro q
    by_cases e : b = a
    · exact .inr e
    · exact .inl ⟨q, e⟩
section
variable {P : Program} {w : World} {K : PySem.W.Frag} {mg : Str → Option Value} {base : Heap} {x qual : Str} {st : Stmt} {f : Addr} {fd : FuncData} {N ps : List Str} {k : Nat} {g : EvSt}
theorem start_I {H : Hp} {vs : List V} {ds xs : List PD} {us : List V} {W : List Addr} {a : Addr} (wd : AllLst W H) (ha : a ∈ W) (h : H a = some (.lst us)) (rx : RepL K (hide W H) xs us) (r : RepL K (hide W H) ds vs) (hl : vs.length + 1 ≤ N.length) :
    Hold K (ioC H W a) (L2.start N (.ref a :: vs)) H (ini N.length (.ow xs :: ds.map Sl.sh)) := by
  have hv : hide W H = hide (ioC H W a).hid H := hide_congr fun b => (ioC_hid ha b).symm
  rw [hv] at rx r
  refine hold_start (.cons ⟨a, us, List.mem_cons_self, rfl, h, rx⟩ (args_sh 1 r)) hl rfl (fun p hp => ?_) (by simp [ioC]) (fun p hp => ?_) (fun b hb => wd b ((ioC_hid ha b).mp hb)) (fun p hp => ?_) (fun b hb => ?_)
  · have e : p = (0, a) := by simpa [ioC] using hp
    subst e
    exact ⟨rfl, xs, rfl⟩
  · have e : p = (0, a) := by simpa [ioC] using hp
    subst e
    simp [ioC]
  · have e : p = (0, a) := by simpa [ioC] using hp
    subst e
    exact .inr ⟨rfl, by simp [ioC]⟩
  · have e : b = a := by simpa [ioC] using hb
    subst e
    exact ⟨us, h⟩
/-- what an io-def leaves -/
theorem end_I {C' : Ctx} {σ' : Sg} {H H' : Hp} {S' : Stt} {W : List Addr} {a : Addr} {ys : List PD} (s : Step (ioC H W a) H C' H') (hS : Hold K C' σ' H' S') (e : S'[(0 : Nat)]? = some (.ow ys)) : ∃ us', H' a = some (.lst us') ∧ RepL K (hide C'.hid H') ys us' := by
  obtain ⟨b, us', q0, q1, q2, q3⟩ := hS.at_ow e
  have e2 : b = a := by
    rcases hS.fresh _ q0 with z | ⟨_, z⟩
    · exact absurd rfl z.1
    · rw [s.b] at z
      simpa [ioC] using z
  subst e2
  exact ⟨us', q2, q3⟩
theorem frame_I {C' : Ctx} {H H' : Hp} {W : List Addr} {a : Addr} (s : Step (ioC H W a) H C' H') : ∀ b o, b ≠ a → H b = some o → H' b = some o := fun b o hb h => s.keep b o (by simpa [ioC, Ctx.own] using hb) h
theorem vw_I {C' : Ctx} {H H' : Hp} {W : List Addr} {a : Addr} {σ' : Sg} {S' : Stt} {ys : List PD} (s : Step (ioC H W a) H C' H') (ha : a ∈ W) (hS : Hold K C' σ' H' S') (e : S'[(0 : Nat)]? = some (.ow ys)) : Same (hide C'.hid H') (hide W H') := fun b o z => by
  obtain ⟨z1, z2⟩ := hide_some.mp z
  refine hide_some.mpr ⟨fun y => z1 ?_, z2⟩
  by_cases eb : b = a
  · obtain ⟨c, us', q0, q1, q2, q3⟩ := hS.at_ow e
    have e2 : c = a := by
      rcases hS.fresh _ q0 with y | ⟨_, y⟩
      · exact absurd rfl y.1
      · rw [s.b] at y
        simpa [ioC] using y
    rw [eb, ← e2]
    exact Hold.in_hid q0
  · refine List.mem_append_left _ ?_
    rw [s.w]
    exact List.mem_filter.mpr ⟨y, decide_eq_true eb⟩
theorem io0_some {d d' : PD} {S : Stt} {ys : List PD} (h : io0 d S = some (d', ys)) : d' = d ∧ S[(0 : Nat)]? = some (.ow ys) := by
  unfold io0 at h
  split at h
  · rename_i e
    cases h
    exact ⟨rfl, e⟩
  · cases h
theorem okI (F : Fun K x qual st f fd) (S : FnScope N ps (defScope st)) (hb : Bod P w K mg base N qual st f k g) : FnOk P w K mg base CX0 (k + 1) f fd ps (spI K ps.length (defI N.length ps.length g)) := by
  refine F.ok S (fun vs H Q E h => ?_) fun cdv A outer s H vs Q E hr h => ?_
  · obtain ⟨W, a, us, xs, ds, ws, d, ys, rfl, hl, _, _, _, _, r, _⟩ := h
    rw [List.length_cons, r.length, hl]
  · obtain ⟨W, a, us, xs, ds, ws, d, ys, rfl, hl, wd, ha, hA, rx, r, hd, q⟩ := h
    unfold defI at hd
    rw [if_pos (by simpa using hl)] at hd
    refine ⟨_, pss_w, ?_⟩
    have hN := pre_len S
    have hS := start_I (N := N) wd ha hA rx r (by rw [r.length, hl]; exact hN)
    cases e : g (ini N.length (iniI (.list xs :: ds))) with
    | none => rw [e] at hd; cases hd
    | some o =>
      rw [e] at hd
      refine hb cdv A outer s H E hr _ _ H _ o _ hS e ?_
      cases o with
      | nx S' =>
        obtain ⟨rfl, e2⟩ := io0_some hd
        intro C' σ' H' s' hS'
        obtain ⟨us', q1, q2⟩ := end_I s' hS' e2
        exact q .non H' us' (frame_I s') q1 (q2.mono (vw_I s' ha hS' e2)) rfl
      | rt d' S' =>
        obtain ⟨rfl, e2⟩ := io0_some hd
        intro C' σ' v H' s' hS' rv
        obtain ⟨us', q1, q2⟩ := end_I s' hS' e2
        exact q v H' us' (frame_I s') q1 (q2.mono (vw_I s' ha hS' e2)) (rv.mono (vw_I s' ha hS' e2))
      | rtF zs S' =>
        obtain ⟨rfl, e2⟩ := io0_some hd
        intro C' σ' p qs H' s' hS' hp h0 ru
        have hS2 := hS'.unmore
        obtain ⟨us', q1, q2⟩ := end_I s' hS2 e2
        have np : p ∉ W := fun y => by
          obtain ⟨zs, z⟩ := wd p y
          rw [show H p = none from h0] at z
          cases z
        exact q _ H' us' (frame_I s') q1 (q2.mono (vw_I s' ha hS2 e2)) ⟨p, qs, rfl, hide_some.mpr ⟨np, hp⟩, ru.mono fun b o z => vw_I s' ha hS2 e2 b o (hide_more_le b o z)⟩
      | bk S' => cases hd
      | ct S' => cases hd
theorem okIF (F : Fun K x qual st f fd) (S : FnScope N ps (defScope st)) (hb : Bod P w K mg base N qual st f k g) : FnOk P w K mg base CX0 (k + 1) f fd ps (spIF K ps.length (defIF N.length ps.length g)) := by
  refine F.ok S (fun vs H Q E h => ?_) fun cdv A outer s H vs Q E hr h => ?_
  · obtain ⟨W, a, us, xs, ds, ws, d, ys, rfl, hl, _, _, _, _, r, _⟩ := h
    rw [List.length_cons, r.length, hl]
  · obtain ⟨W, a, us, xs, ds, ws, d, ys, rfl, hl, wd, ha, hA, rx, r, hd, q⟩ := h
    unfold defIF at hd
    rw [if_pos (by simpa using hl)] at hd
    refine ⟨_, pss_w, ?_⟩
    have hN := pre_len S
    have hS := start_I (N := N) wd ha hA rx r (by rw [r.length, hl]; exact hN)
    cases e : g (ini N.length (iniI (.list xs :: ds))) with
    | none => rw [e] at hd; cases hd
    | some o =>
      rw [e] at hd
      refine hb cdv A outer s H E hr _ _ H _ o _ hS e ?_
      cases o with
      | nx S' => cases hd
      | rt d' S' => cases hd
      | rtF zs S' =>
        unfold resIF at hd
        dsimp only at hd
        split at hd
        · rename_i ys' e2
          cases hd
          intro C' σ' p qs H' s' hS' hp h0 ru
          have hS2 := hS'.unmore
          obtain ⟨us', q1, q2⟩ := end_I s' hS2 e2
          obtain ⟨b, us2, w0, w1, w2, w3⟩ := hS'.at_ow e2
          have vp : Same (hide (C'.more p).hid H') (hide (p :: W) H') := fun b o z => by
            obtain ⟨z1, z2⟩ := hide_some.mp (vw_I s' ha hS2 e2 b o (hide_more_le b o z))
            obtain ⟨z3, z4⟩ := hide_some.mp z
            refine hide_some.mpr ⟨fun y => ?_, z2⟩
            rcases List.mem_cons.mp y with y | y
            · exact z3 (by rw [y]; exact List.mem_cons_self)
            · exact z1 y
          have eb : b = a := by
            rcases hS'.fresh _ w0 with y | ⟨_, y⟩
            · exact absurd rfl y.1
            · have y' : b ∈ C'.B := y
              rw [s'.b] at y'
              simpa [ioC] using y'
          subst eb
          rw [q1] at w2
          cases w2
          exact q p qs H' us' (frame_I s') h0 hp q1 (w3.mono vp) (ru.mono vp)
        · cases hd
      | bk S' => cases hd
      | ct S' => cases hd
end
/-! ## calls -/
section
variable {X : Cx} {K : PySem.W.Frag} {f : Addr} {fd : FuncData} {ps ks : List Str} {x : Str} {p pos : Pos} {e : Expr} {es : List Expr} {kws : List Keyword} {k n : Nat}
theorem allLst {C : Ctx} {σ : Sg} {H : Hp} {S : Stt} (h : Hold K C σ H S) : AllLst C.hid H := h.wd
theorem ev_fnP {t : TA} {a : EvL} {g : List PD → Option PD} (h : EvA K t a) (hn : ∀ ds d, g ds = some d → ds.length = n) : EvE K (tCall (spP K n g) [] E0 t) (eCall g a) := fun C σ H S d S' Q hS hf q => by
  obtain ⟨ds, h1, h2⟩ := eCall_some hf
  refine h C σ H S ds S' _ hS h1 fun vs H1 k1 hS1 r1 => ?_
  rw [List.append_nil]
  exact ⟨C.hid, ds, d, hn _ _ h2, hS1.wd, r1, h2, fun v H' sm rv => q v H' (k1.trans (.of sm)) (hS1.same sm) rv⟩
theorem free_same {H H' : Hp} {p : Addr} (sm : Same H H') (n : H' p = none) : H p = none := sm.free n
theorem Hold.same_new {C : Ctx} {σ : Sg} {H H' : Hp} {S : Stt} {p : Addr} {us : List V} (h : Hold K C σ H S) (sm : Same H H') (n : H p = none) (hp : H' p = some (.lst us)) : Hold K (C.more p) σ H' S := by
  have hm := h.more (xs := us) n
  refine hm.same fun b o hb => ?_
  by_cases e : b = p
  · subst e
    rw [upd_same] at hb
    cases hb
    exact hp
  · rw [upd_ne e] at hb
    exact sm b o hb
theorem ev_fnF {t : TA} {a : EvL} {g : List PD → Option (List PD)} (h : EvA K t a) (hn : ∀ ds d, g ds = some d → ds.length = n) : EvF K (tCall (spF K n g) [] E0 t) (fCall g a) := fun C σ H S d S' Q hS hf q => by
  obtain ⟨ds, h1, h2⟩ := fCall_some hf
  refine h C σ H S ds S' _ hS h1 fun vs H1 k1 hS1 r1 => ?_
  rw [List.append_nil]
  exact ⟨C.hid, ds, d, hn _ _ h2, hS1.wd, r1, h2, fun p us H' sm np hp ru => q p us H' (free_of' k1 hS1 np) (k1.trans (.of sm)) hp (hS1.same_new sm np hp) ru⟩
theorem defP_len {N n : Nat} {g : EvSt} : ∀ ds d, defP N n g ds = some d → ds.length = n := fun ds d h => by
  unfold defP at h
  split at h
  · assumption
  · cases h
theorem defF_len {N n : Nat} {g : EvSt} : ∀ ds d, defF N n g ds = some d → ds.length = n := fun ds d h => by
  unfold defF at h
  split at h
  · assumption
  · cases h
theorem defI_len {N n : Nat} {g : EvSt} : ∀ ds d, defI N n g ds = some d → ds.length = n := fun ds d h => by
  unfold defI at h
  split at h
  · assumption
  · cases h
theorem defIF_len {N n : Nat} {g : EvSt} : ∀ ds d, defIF N n g ds = some d → ds.length = n := fun ds d h => by
  unfold defIF at h
  split at h
  · assumption
  · cases h
theorem defS_len {N n : Nat} {g : EvSt} : ∀ ds d, defS N n g ds = some d → ds.length = n := fun ds d h => by
  unfold defS at h
  split at h
  · assumption
  · cases h
/-- all that a caller has of a def -/
structure Cal (X : Cx) (k : Nat) (x : Str) (ps : List Str) (sp : Sp) : Prop where
  ex : ∃ (f : Addr) (fd : FuncData), FnOk X.prog X.w X.K X.mg X.base CX0 k f fd ps sp ∧ X.mg x = some (.ref f) ∧ PySem.W.keepIn X.K (.ref f) = true ∧ Binds X.K fd ps []
theorem dFnP {a : EvL} {g : List PD → Option PD} (c : Cal X k x ps (spP X.K n g)) (hr : Room k X.A) (ha : DA X (e :: es) a) (hn : ∀ ds d, g ds = some d → ds.length = n) (hg : Gl X x := by rfl)
    (hdb : (x == ("__debug__" : Str)) = false := by decide) (he : starEach (e :: es) X.env = (false, eval e X.env) :: starEach es X.env := by rfl) (hpl : (backTo pos (starEach es X.env)).any (·.1) = false := by rfl)
    (hps : Passes CX0 X E0 := by exact pass0) : DE X (.Call (.Name x p) (e :: es) [] pos) (eCall g a) := by
  obtain ⟨f, fd, F, hm, hk, hb⟩ := c.ex
  exact .mk (pe_call F hr hg hm hk hb .nil hps pa_w hdb he hpl) (ev_fnP ha hn)
theorem dFnF {a : EvL} {g : List PD → Option (List PD)} (c : Cal X k x ps (spF X.K n g)) (hr : Room k X.A) (ha : DA X (e :: es) a) (hn : ∀ ds d, g ds = some d → ds.length = n) (hg : Gl X x := by rfl)
    (hdb : (x == ("__debug__" : Str)) = false := by decide) (he : starEach (e :: es) X.env = (false, eval e X.env) :: starEach es X.env := by rfl) (hpl : (backTo pos (starEach es X.env)).any (·.1) = false := by rfl)
    (hps : Passes CX0 X E0 := by exact pass0) : DF X (.Call (.Name x p) (e :: es) [] pos) (fCall g a) := by
  obtain ⟨f, fd, F, hm, hk, hb⟩ := c.ex
  exact .mk (pe_call F hr hg hm hk hb .nil hps pa_w hdb he hpl) (ev_fnF ha hn)
/-- the first argument: an owned name that the def changes -/
def eCallI (g : List PD → Option (PD × List PD)) (i : Nat) (a : EvL) : Ev := fun S => if isOw S[i]? then (do
  let (ds, S1) ← a S
  match S1[i]? with
  | some (.ow xs) => (do
    let (d, ys) ← g (.list xs :: ds)
    some (d, S1.set i (.ow ys)))
  | _ => none) else none
def fCallI (g : List PD → Option (List PD × List PD)) (i : Nat) (a : EvL) : EvL := fun S => if isOw S[i]? then (do
  let (ds, S1) ← a S
  match S1[i]? with
  | some (.ow xs) => (do
    let (d, ys) ← g (.list xs :: ds)
    some (d, S1.set i (.ow ys)))
  | _ => none) else none
theorem ev_fnI {i : Nat} {t : TA} {a : EvL} {g : List PD → Option (PD × List PD)} (h : EvA K t a) (hn : ∀ ds d, g ds = some d → ds.length = n) : EvE K (tCall (spI K n g) [] E0 (tCons (tVar i) t)) (eCallI g i a) := fun C σ H S d S' Q hS hf q => by
  unfold eCallI at hf
  split at hf
  · rename_i hw
    obtain ⟨xs0, e0⟩ := isOw_some hw
    obtain ⟨ad, vs0, q0, q1, q2, q3⟩ := hS.at_ow e0
    obtain ⟨⟨ds, S1⟩, h1, hf⟩ := bind_some' hf
    dsimp only at hf
    refine ⟨.ref ad, q1, h C σ H S ds S1 _ hS h1 fun vs H1 k1 hS1 r1 => ?_⟩
    split at hf
    · rename_i xs e1
      obtain ⟨⟨d', ys⟩, h2, hf⟩ := bind_some' hf
      cases hf
      obtain ⟨a0, us, a2, a3⟩ := Hold.ref_same hS hS1 q1 e1
      rw [List.append_nil]
      refine ⟨C.hid, ad, us, xs, ds, vs, d', ys, rfl, by have := hn _ _ h2; simpa using this, hS1.wd, Hold.in_hid a0, a2, a3, r1, h2, fun v H' us' fr hA ry rv => ?_⟩
      refine q v H' (k1.trans fun b o hb hh => fr b o (fun z => hb (by rw [z]; exact in_own a0)) hh) (hS1.chgOw e1 a0 fr hA ry) rv
    · cases hf
  · cases hf
theorem ev_fnIF {i : Nat} {t : TA} {a : EvL} {g : List PD → Option (List PD × List PD)} (h : EvA K t a) (hn : ∀ ds d, g ds = some d → ds.length = n) : EvF K (tCall (spIF K n g) [] E0 (tCons (tVar i) t)) (fCallI g i a) := fun C σ H S d S' Q hS hf q => by
  unfold fCallI at hf
  split at hf
  · rename_i hw
    obtain ⟨xs0, e0⟩ := isOw_some hw
    obtain ⟨ad, vs0, q0, q1, q2, q3⟩ := hS.at_ow e0
    obtain ⟨⟨ds, S1⟩, h1, hf⟩ := bind_some' hf
    dsimp only at hf
    refine ⟨.ref ad, q1, h C σ H S ds S1 _ hS h1 fun vs H1 k1 hS1 r1 => ?_⟩
    split at hf
    · rename_i xs e1
      obtain ⟨⟨d', ys⟩, h2, hf⟩ := bind_some' hf
      cases hf
      obtain ⟨a0, us, a2, a3⟩ := Hold.ref_same hS hS1 q1 e1
      rw [List.append_nil]
      refine ⟨C.hid, ad, us, xs, ds, vs, d', ys, rfl, by have := hn _ _ h2; simpa using this, hS1.wd, Hold.in_hid a0, a2, a3, r1, h2, fun p qs H' us' fr np hp hA ry rv => ?_⟩
      -- the new list is laid first, then the old one is changed
      have npa : p ≠ ad := fun z => by rw [z, a2] at np; cases np
      have hm := hS1.more (xs := qs) np
      have e2 : Hold K (C.more p) σ H' (S1.set i (.ow ys)) := by
        refine hm.chgOw (a := ad) e1 a0 (fun b o hb hh => ?_) hA ry
        by_cases eb : b = p
        · subst eb
          rw [upd_same] at hh
          cases hh
          exact hp
        · rw [upd_ne eb] at hh
          exact fr b o hb hh
      exact q p qs H' (free_of' k1 hS1 np) (k1.trans fun b o hb hh => fr b o (fun z => hb (by rw [z]; exact in_own a0)) hh) hp e2 rv
    · cases hf
  · cases hf
theorem dFnI {i : Nat} {l : Expr} {a : EvL} {g : List PD → Option (PD × List PD)} (c : Cal X k x ps (spI X.K n g)) (hr : Room k X.A) (hl : OwN X l i) (ha : DA X es a) (hn : ∀ ds d, g ds = some d → ds.length = n) (hg : Gl X x := by rfl)
    (hdb : (x == ("__debug__" : Str)) = false := by decide) (he : starEach (l :: es) X.env = (false, eval l X.env) :: starEach es X.env := by rfl) (hpl : (backTo pos (starEach es X.env)).any (·.1) = false := by rfl)
    (hps : Passes CX0 X E0 := by exact pass0) : DE X (.Call (.Name x p) (l :: es) [] pos) (eCallI g i a) := by
  obtain ⟨f, fd, F, hm, hk, hb⟩ := c.ex
  exact .mk (pe_call F hr hg hm hk hb .nil hps (pa_cons hl pa_w he) hdb he hpl) (ev_fnI ha hn)
theorem dFnIF {i : Nat} {l : Expr} {a : EvL} {g : List PD → Option (List PD × List PD)} (c : Cal X k x ps (spIF X.K n g)) (hr : Room k X.A) (hl : OwN X l i) (ha : DA X es a) (hn : ∀ ds d, g ds = some d → ds.length = n) (hg : Gl X x := by rfl)
    (hdb : (x == ("__debug__" : Str)) = false := by decide) (he : starEach (l :: es) X.env = (false, eval l X.env) :: starEach es X.env := by rfl) (hpl : (backTo pos (starEach es X.env)).any (·.1) = false := by rfl)
    (hps : Passes CX0 X E0 := by exact pass0) : DF X (.Call (.Name x p) (l :: es) [] pos) (fCallI g i a) := by
  obtain ⟨f, fd, F, hm, hk, hb⟩ := c.ex
  exact .mk (pe_call F hr hg hm hk hb .nil hps (pa_cons hl pa_w he) hdb he hpl) (ev_fnIF ha hn)
/-- the first argument: the script -/
def eCallS (g : List PD → Option PD) (i : Nat) (a : EvL) : Ev := fun S => match S[i]? with
  | some (.scr ns) => (do
    let (ds, S1) ← a S
    let d ← g (.list (ns.map PyData.int) :: ds)
    some (d, S1))
  | _ => none
theorem ev_fnS {i : Nat} {t : TA} {a : EvL} {g : List PD → Option PD} (h : EvA K t a) (hn : ∀ ds d, g ds = some d → ds.length = n) : EvE K (tCall (spS K n g) [] E0 (tCons (tVar i) t)) (eCallS g i a) := fun C σ H S d S' Q hS hf q => by
  unfold eCallS at hf
  split at hf
  · rename_i ns e0
    obtain ⟨ad, q1, q2⟩ := hS.at_scr e0
    obtain ⟨⟨ds, S1⟩, h1, hf⟩ := bind_some' hf
    obtain ⟨d', h2, hf⟩ := bind_some' hf
    cases hf
    refine ⟨.ref ad, q1, h C σ H S ds _ _ hS h1 fun vs H1 k1 hS1 r1 => ?_⟩
    dsimp only
    rw [List.append_nil]
    exact ⟨C.hid, ad, ns, ds, vs, d, rfl, by have := hn _ _ h2; simpa using this, hS1.wd, sqL_mono k1.vw q2, r1, h2, fun v H' sm rv => q v H' (k1.trans (.of sm)) (hS1.same sm) rv⟩
  · cases hf
theorem dFnS {i : Nat} {l : Expr} {a : EvL} {g : List PD → Option PD} (c : Cal X k x ps (spS X.K n g)) (hr : Room k X.A) (hl : OwN X l i) (ha : DA X es a) (hn : ∀ ds d, g ds = some d → ds.length = n) (hg : Gl X x := by rfl)
    (hdb : (x == ("__debug__" : Str)) = false := by decide) (he : starEach (l :: es) X.env = (false, eval l X.env) :: starEach es X.env := by rfl) (hpl : (backTo pos (starEach es X.env)).any (·.1) = false := by rfl)
    (hps : Passes CX0 X E0 := by exact pass0) : DE X (.Call (.Name x p) (l :: es) [] pos) (eCallS g i a) := by
  obtain ⟨f, fd, F, hm, hk, hb⟩ := c.ex
  exact .mk (pe_call F hr hg hm hk hb .nil hps (pa_cons hl pa_w he) hdb he hpl) (ev_fnS ha hn)
/-- list(script) -/
def fScr (i : Nat) : EvL := fun S => match S[i]? with
  | some (.scr ns) => some (ns.map PyData.int, S)
  | _ => none
theorem dScrL {i : Nat} {l : Expr} {p pos : Pos} (hl : OwN X l i) (hm : X.mg "list" = none) (hg : Gl X "list" := by rfl) (he : starEach [l] X.env = (false, eval l X.env) :: starEach [] X.env := by rfl) (hpl : (backTo pos (starEach [] X.env)).any (·.1) = false := by rfl) :
    DF X (.Call (.Name "list" p) [l] [] pos) (fScr i) :=
  .mk (pe_callTy call_list_of hg hm (bt "list") (pa_cons hl pa_nil he) (by decide) (by decide) he hpl) fun C σ H S d S' Q hS hf q => by
    unfold fScr at hf
    split at hf
    · rename_i ns e0
      cases hf
      obtain ⟨ad, q1, q2⟩ := hS.at_scr e0
      exact ⟨.ref ad, q1, ad, _, rfl, .inl (sqL_mono hide_le q2), new_list Kp.refl hS (rep_ints ns) q⟩
    · cases hf
end
end DK
namespace DK
open PySem PySem.Spec PyProof.Rows L2
/-! ## repr -/
section
variable {X : Cx} {K : PySem.W.Frag}
def gRepr : List PD → Option PD
  | [d] => if shp d && d.showable && decide (d.shown.length ≤ 1000000) then (match d with
    | .list _ => some (.str d.shown)
    | .tuple _ => some (.str d.shown)
    | _ => none) else none
  | _ => none
def rRepr (K : PySem.W.Frag) : List V → Hp → VK → Prop := fun xs H Q => ∃ a d, xs = [.ref a] ∧ Dp K H (.ref a) d ∧ shp d = true ∧ d.showable = true ∧ d.shown.length ≤ 1000000 ∧ Q (.str d.shown) H
theorem cr_repr (hgd : X.A.guards = some []) (hu : X.A.units + 64 < cLine) : CallR X (.builtin "repr") (rRepr X.K) := by
  intro pins s σ H xs us Q I r h
  obtain ⟨a, d, rfl, hd, hp, hs, hz, q⟩ := h
  rw [Vals.ref1 r]
  obtain ⟨as, rd⟩ := Dp.reads I d (.ref a) (.ref a) hd rfl
  have sh := shp_shaped hp
  obtain ⟨hl, hn⟩ := shpN_lay 20 d hp
  refine repr_of_reads' rd hs (PyData.noDict_hsm (PyData.hasDict_of_canLay d hl)) hgd (by omega) (fun b o e => e) (fun h' u tk k => ?_) (by rw [sizeLine_eq]; omega)
  exact ⟨.str d.shown, H, I.kept k, ⟨_, rfl⟩, q⟩
theorem cd_repr : CallD K (rRepr K) gRepr := fun O H ds d xs Q ra hg fr q => by
  unfold gRepr at hg
  split at hg
  · rename_i e
    split at hg
    · rename_i hc
      rw [Bool.and_eq_true, Bool.and_eq_true] at hc
      obtain ⟨⟨h1, h2⟩, h3⟩ := hc
      have h3 := of_decide_eq_true h3
      obtain ⟨v, rfl, r⟩ := rep1 ra
      split at hg
      · cases hg
        obtain ⟨a, vs, rfl, hA, rl⟩ := r
        have rr : Rep K (hide O H) (.list _) (V.ref a) := ⟨a, vs, rfl, hA, rl⟩
        exact ⟨a, _, rfl, (rr.mono hide_le).dp, h1, h2, h3, q _ H (Same.refl H) rfl⟩
      · cases hg
        obtain ⟨a, vs, rfl, hA, rl⟩ := r
        have rr : Rep K (hide O H) (.tuple _) (V.ref a) := ⟨a, vs, rfl, hA, rl⟩
        exact ⟨a, _, rfl, (rr.mono hide_le).dp, h1, h2, h3, q _ H (Same.refl H) rfl⟩
      · cases hg
    · cases hg
  · cases hg
end
/-! ## the law's own def, at the claim's caller -/
/-- what a call of the def does where A stands around -/
def AtA (P : Program) (w : World) (K : PySem.W.Frag) (mg : Str → Option Value) (base : Heap) (A : Around) (fa : Addr) (fd : FuncData) (ps : List Str) (sp : Sp) : Prop :=
  ∀ (st : Shared) (Hs : Hp) (given : Args) (vals : List Value) (vv : List V) (Q : VK), Env0 P w K mg base A [] st Hs → BindsTo st fd given (ps.zip vals) → Vals vv vals → sp vv Hs Q E0 →
    codeAny (model P w) A (.call (.ref fa) given) (CR CX0 [] P w Hs st Q E0) st
section
variable {P : Program} {w : World} {K : PySem.W.Frag} {mg : Str → Option Value} {base : Heap} {x qual : Str} {sd : Stmt} {fa : Addr} {fd : FuncData} {N ps : List Str} {k : Nat} {sp : Sp} {A : Around}
theorem atA_of (F : Fun K x qual sd fa fd) (sc : FnScope N ps (defScope sd)) (room : Room (k + 1) A) (hlen : ∀ vs Hs Q E, sp vs Hs Q E → vs.length = ps.length)
    (inside : ∀ (cdv : Value) (st : Shared) (Hs : Hp) (vv : List V) (Q : VK), Room k (A.deeper (envOfC qual (defScope sd) st.heap.objs.size fa cdv)) → sp vv Hs Q E0 →
      ∃ t, PSs (cxOf CX0 P w K mg base N qual (defScope sd) fa cdv A [] st Hs E0).nox (defBody sd) t ∧ t { nx := fun _ H' => Q .non H', rt := Q } (L2.start N vv) Hs) :
    AtA P w K mg base A fa fd ps sp := by
  obtain ⟨oc, od, kwv, docv, pmv, anv, cdv, ctv, osl, rfl, atF, codeF⟩ := F.ex
  intro st Hs given vals vv Q e0 bnd rel want
  have lenE := hlen _ _ _ _ want
  have inK : K.In st.heap := e0.mod.kin.keeps (fun b o q => (e0.bs b o q).1)
  have noLim : st.heap.NoLimit :=
    e0.mod.nolimit.keeps (fun b o q => (e0.bs b o q).1)
  have kinds : ∀ y ∈ ps.zip vals, (defScope sd).names.lookup y.1 = some .local ∨
      ((defScope sd).names.lookup y.1 = some .cell ∧ ((cellsFrom (st.heap.objs.size + 1) (defScope sd).names []).lookup y.1).isSome = true) := by
    rintro ⟨nm, vl⟩ hy
    have par := sc.par nm (List.of_mem_zip hy).1
    rcases par with z | z
    · exact Or.inl z
    · exact Or.inr ⟨z, PySem.W.cellsFrom_some _ _ _ (Or.inl z)⟩
  refine codeAny_call_function room.depth (inK _ _ atF) rfl sc.co sc.gen rfl (PySem.W.codeRec_of inK codeF) (bnd _ _ _ _ ?_)
  refine wpAny_newFunctionEnv_cells sc.kind kinds (fun env ee st1 made => ?_)
  subst ee
  obtain ⟨t, der, rd⟩ := inside cdv st Hs vv Q (room.deeper _) want
  have start0 : Inv (cxOf CX0 P w K mg base N qual (defScope sd) fa cdv A [] st Hs E0) [] (L2.start N vv) Hs st1 := inv_start sc room.hd e0 lenE rel made
  refine ⟨noLim.keeps made.toInCall.keep, codeAny_func (wpAny_mono (der.nox.run [] st1 (L2.start N vv) Hs _ start0 rd) ?_ (fun _ _ z => z))⟩
  intro flow st2 got
  cases flow with
  | ret u =>
    obtain ⟨v, _, H2, J, ru, want2⟩ := got
    exact ⟨v, H2, J.os, J.bare, J.base, J.hok, ru, want2⟩
  | next =>
    obtain ⟨_, H2, J, want2⟩ := got
    exact ⟨V.non, H2, J.os, J.bare, J.base, J.hok, rfl, want2⟩
  | brk => obtain ⟨_, _, _, z⟩ := got; exact z.elim
  | cont => obtain ⟨_, _, _, z⟩ := got; exact z.elim
theorem atA_S {g : EvSt} (F : Fun K x qual sd fa fd) (sc : FnScope N ps (defScope sd)) (room : Room (k + 1) A)
    (hb : ∀ (cdv : Value) (st : Shared) (Hs : Hp), Room k (A.deeper (envOfC qual (defScope sd) st.heap.objs.size fa cdv)) → DSs (cxOf CX0 P w K mg base N qual (defScope sd) fa cdv A [] st Hs E0).nox (defBody sd) g) :
    AtA P w K mg base A fa fd ps (spS K ps.length (defS N.length ps.length g)) := by
  refine atA_of F sc room (fun vs H Q E h => ?_) fun cdv st H vs Q hr h => ?_
  · obtain ⟨W, a, ns, ds, ws, d, rfl, hl, _, _, r, _⟩ := h
    rw [List.length_cons, r.length, hl]
  · obtain ⟨W, a, ns, ds, ws, d, rfl, hl, wd, hs, r, hd, q⟩ := h
    unfold defS at hd
    rw [if_pos (by simpa using hl)] at hd
    have ei : iniS (.list (ns.map PyData.int) :: ds) = .scr ns :: ds.map Sl.sh := by
      simp only [iniS, intsOf_map]
    rw [ei] at hd
    refine ⟨_, pss_w, ?_⟩
    have hN := pre_len sc
    have hS : Hold K ⟨H, [], W, []⟩ (L2.start N (.ref a :: ws)) H (ini N.length (.scr ns :: ds.map Sl.sh)) :=
      hold_start (.cons ⟨a, rfl, by rw [hid_nil]; exact hs⟩ (args_sh 1 (by rw [hid_nil]; exact r))) (by rw [List.length_cons, r.length, hl]; exact hN) rfl (fun p hp => nomatch hp) (by simp) (fun p hp => nomatch hp) (by rw [hid_nil]; exact wd) (fun p hp => nomatch hp) fun b hb => nomatch hb
    cases e : g (ini N.length (.scr ns :: ds.map Sl.sh)) with
    | none => rw [e] at hd; cases hd
    | some o =>
      rw [e] at hd
      refine hb cdv st H hr _ _ H _ o _ hS e ?_
      cases o with
      | nx S' =>
        cases hd
        exact fun C' σ' H' s' hS' => q .non H' (same_of s') rfl
      | rt d' S' =>
        cases hd
        intro C' σ' v H' s' hS' rv
        refine q v H' (same_of s') (rv.mono fun b o z => ?_)
        obtain ⟨z1, z2⟩ := hide_some.mp z
        exact hide_some.mpr ⟨fun y => z1 (List.mem_append_left _ (by rw [s'.w]; exact y)), z2⟩
      | rtF xs S' =>
        cases hd
        intro C' σ' p us H' s' hS' hp h0 ru
        have np : p ∉ W := fun y => by
          obtain ⟨zs, z⟩ := wd p y
          rw [show H p = none from h0] at z
          cases z
        refine q _ H' (same_of s') ⟨p, us, rfl, hide_some.mpr ⟨np, hp⟩, ru.mono fun b o z => ?_⟩
        obtain ⟨z1, z2⟩ := hide_some.mp z
        exact hide_some.mpr ⟨fun y => z1 (List.mem_cons_of_mem _ (List.mem_append_left _ (by rw [s'.w]; exact y))), z2⟩
      | bk S' => cases hd
      | ct S' => cases hd
end
/-! ## the claim's goal -/
section
variable {P : Program} {w : World} {K : PySem.W.Frag} {mg mb : Str → Option Value}
/-- the abstract heap with the script alone in it -/
def scrH (a : Addr) (os : Obj) (ns : List Int) : Hp := fun b => if b = a then some (.frz os (.lst (ns.map V.int))) else none
/-- the law's call out of the claim: either the script is tracked, or it is one of the module's own objects -/
theorem claim_call {fa a : Addr} {fd : FuncData} {y : Str} {sp : Sp} {st : Shared} {vs : List Value} {ns : List Int} (inK : K.In st.heap) (nsG : st.heap.Ns mainGlobals mg) (nsB : st.heap.Ns builtinsNs mb) (isB : ∀ z : Str, z ≠ "__name__" → mb z = bootBuiltins z) (nl : st.heap.NoLimit) (gz : st.gens = #[])
    (atS : st.heap.get? a = some { cls := .type "list", data := .seq vs.toArray }) (intv : IntsAre vs ns) (small : ns.length ≤ sizeLine)
    (F : ∀ base : Heap, K.In base → base.Ns mainGlobals mg → AtA P w K mg base callerA fa fd [y] sp) (bnd : ∀ (s : Shared) (u : Value), BindsTo s fd ⟨[u], []⟩ [(y, u)])
    (want : ∀ Hs : Hp, SqL K Hs a (ns.map V.int) → sp [.ref a] Hs (fun v _ => v = .bl true) E0) :
    codeAny (model P w) callerA (.call (.ref fa) ⟨[.ref a], []⟩) (fun r s' => r = .ok (.ret (.bool true)) ∧ OldK st.heap s'.heap ∧ s'.os = st.os ∧ AllBare s'.gens) st := by
  have rel := vals_ints intv
  have lenv := intv.length
  -- one road for both cases
  have road : ∀ Hs : Hp, SqL K Hs a (ns.map V.int) → HOk P w Hs st.heap → (∀ b, Hs b = none ∨ (b = a ∧ ∃ o u, Hs b = some (.frz o (.lst u)))) → (Hs a ≠ none → K.lookup a = none) →
      codeAny (model P w) callerA (.call (.ref fa) ⟨[.ref a], []⟩) (fun r s' => r = .ok (.ret (.bool true)) ∧ OldK st.heap s'.heap ∧ s'.os = st.os ∧ AllBare s'.gens) st := by
    intro Hs sq ok only notK
    have stays : ∀ {b : Addr} {o : Obj}, st.heap.get? b = some o → Hs b = none → (hidT st.heap Hs).get? b = some o :=
      fun q n => hidT_get q n
    have dictFree : ∀ {b : Addr} {o : Obj} {es : Array DictEntry} {n : Nat}, st.heap.get? b = some o → o.data = .dict es n → Hs b = none := by
      intro b o es n q dd
      rcases only b with z | ⟨rfl, _⟩
      · exact z
      · rw [atS] at q
        cases q
        exact nomatch dd
    have keepNs : ∀ {b : Addr} {m : Str → Option Value}, st.heap.Ns b m → (hidT st.heap Hs).Ns b m := by
      rintro b m ⟨o, es, n, q, dd, rest⟩
      exact ⟨o, es, n, stays q (dictFree q dd), dd, rest⟩
    have inK2 : K.In (hidT st.heap Hs) := by
      intro b o q
      refine stays (inK b o q) ?_
      rcases only b with z | ⟨rfl, o2, u, z⟩
      · exact z
      · have nk := notK (by rw [z]; exact nofun)
        rw [nk] at q
        cases q
    have modl : Mod K mg (hidT st.heap Hs) := by
      obtain ⟨mc, l1, l2⟩ := nl
      exact ⟨inK2, keepNs nsG, ⟨mb, keepNs nsB, isB⟩, ⟨mc, keepNs l1, l2⟩⟩
    have env0 : Env0 P w K mg (hidT st.heap Hs) callerA [] st Hs :=
      ⟨rfl, modl, fun b o q => of_hidT q, Nat.le_of_eq (hidT_size _ _), trivial, fun b hb => (nomatch (show b ∈ ([] : List Addr) from hb)), ok, .of_eq gz⟩
    refine codeAny_mono (F _ inK2 (keepNs nsG) st Hs ⟨[.ref a], []⟩ [.ref a] [.ref a] _ env0 (bnd st (.ref a)) (.cons rfl .nil) (want Hs sq)) ?_
    intro r st2 got
    cases r with
    | error e => exact got.elim
    | ok fl =>
      cases fl with
      | next => exact got.elim
      | brk => exact got.elim
      | cont => exact got.elim
      | ret u =>
        obtain ⟨v, H2, hos, hbare, un, ok2, ru, rfl⟩ := got
        cases (show u = Value.bool true from ru)
        refine ⟨rfl, .of_keep (fun b o q => ?_), hos, hbare⟩
        rcases only b with z | ⟨rfl, o2, u2, z⟩
        · exact un.keep b o q z (fun y => nomatch (show b ∈ ([] : List Addr) from y)) (by simp)
        · have z2 := un.frzs _ _ _ z
          obtain ⟨e1, _⟩ := ok _ _ z
          obtain ⟨e2, _⟩ := ok2 _ _ z2
          rw [q] at e1
          cases e1
          exact e2
  cases own : K.lookup a with
  | some o =>
    have q := inK a o own
    rw [atS] at q
    cases q
    refine road (fun _ => none) (.inr ⟨_, vs.toArray, _, own, rfl, rfl, rfl, ?_, by simpa using rel⟩) (fun b u z => nomatch z) (fun b => .inl rfl) (fun z => absurd rfl z)
    rw [List.size_toArray, lenv]
    exact small
  | none =>
    have here : scrH a { cls := .type "list", data := .seq vs.toArray } ns a = some (.frz { cls := .type "list", data := .seq vs.toArray } (.lst (ns.map V.int))) := by
      unfold scrH
      rw [if_pos rfl]
    have there : ∀ b, b ≠ a → scrH a { cls := .type "list", data := .seq vs.toArray } ns b = none := fun b hb => by
      unfold scrH
      rw [if_neg hb]
    refine road (scrH a { cls := .type "list", data := .seq vs.toArray } ns) (.inl (.inr ⟨_, here⟩)) ?_ ?_ (fun _ => own)
    · intro b u z
      by_cases eb : b = a
      · subst eb
        rw [here] at z
        cases z
        exact ⟨atS, by rw [List.length_map]; exact small, vs, _, rel, atS⟩
      · rw [there b eb] at z
        cases z
    · intro b
      by_cases eb : b = a
      · subst eb
        exact .inr ⟨rfl, _, _, here⟩
      · exact .inl (there b eb)
/-- the goal that is left behind the head -/
theorem claim_walk {l : PySem.W.OpenLaw} {n : Nat} {q : Program} {loose : List Str} {XP : (Str → Option Value) → Heap → Prop} {YP : World → Heap → Prop} {dr : DefRec} {KF : Params → PySem.W.Frag} {sp : World → Sp} {y : Str}
    (most : l.most = some n) (fits : n ≤ sizeLine) (nodef : dr.params.defaults = []) (hY : ∀ (w : World) (h : Heap), YP w h → (KF w.params).In h)
    (F : ∀ (w : World) (mg : Str → Option Value) (fa : Addr) (h : Heap), (KF w.params).In h → h.Ns mainGlobals mg → mg dr.name = some (.ref fa) →
      ∃ fd : FuncData, (∀ (s : Shared) (u : Value), BindsTo s fd ⟨[u], []⟩ [(y, u)]) ∧ ∀ base : Heap, (KF w.params).In base → base.Ns mainGlobals mg → AtA l.prog w (KF w.params) mg base callerA fa fd [y] (sp w))
    (want : ∀ (w : World) (Hs : Hp) (a : Addr) (ns : List Int), ns.length ≤ n → SqL (KF w.params) Hs a (ns.map V.int) → sp w [.ref a] Hs (fun v _ => v = .bl true) E0) :
    PySem.W.WalkO q loose XP YP l.row.toRowW dr [] (fun f vs => PySem.call f vs) := by
  refine Att.attach_call most nodef (fun w s0 s1 mg mb fa o pm cd doc a vs ns G Y ho hd hcd hmg hobj hints hlen hgen => ?_)
  have inK := hY w _ Y
  obtain ⟨fd, bnd, FF⟩ := F w mg fa _ inK G.T.g hmg
  exact claim_call inK G.T.g G.T.b G.T.builtins G.T.nolimit hgen hobj hints (Nat.le_trans hlen fits) FF bnd (fun Hs sq => want w Hs a ns hlen sq)
end
end DK
namespace DK
open PySem PySem.Spec PyProof.Rows L2
section
variable {X : Cx} {K : PySem.W.Frag} {a b e l : Expr} {es : List Expr} {pos : Pos}
theorem cd_gcd : CallD K rGcd gGcd := cd_II
theorem cd_max : CallD K (fun xs H Q => ∃ i j, xs = [.int i, .int j] ∧ Q (.int (if j > i then j else i)) H) gMax2 := cd_II
theorem cd_min : CallD K (fun xs H Q => ∃ i j, xs = [.int i, .int j] ∧ Q (.int (if j < i then j else i)) H) gMin2 := cd_II
/-- list(range(n)) -/
def fRgL (f : Ev) : EvL := fun S => match f S with
  | some (.int n, S1) => if okR n then some (rng 0 n.toNat, S1) else none
  | _ => none
theorem rng_rep {H : Hp} (n : Int) : RepL K H (rng 0 n.toNat) (rgV 0 n) := by
  have e1 : rng 0 n.toNat = ((List.range n.toNat).map fun (i : Nat) => (0 : Int) + (i : Int)).map PyData.int := by
    unfold rng
    rw [List.map_map]
    rfl
  have e2 : rgV 0 n = ((List.range n.toNat).map fun (i : Nat) => (0 : Int) + (i : Int)).map V.int := by
    unfold rgV
    rw [List.map_map, Int.sub_zero]
    rfl
  rw [e1, e2]
  exact rep_ints _
theorem dRgL {f : Ev} {p p2 pos2 : Pos} (h : DE X a f) (hc : X.calm = true) (hm : X.mg "list" = none) (hm2 : X.mg "range" = none) (hg : Gl X "list" := by rfl) (hg2 : Gl X "range" := by rfl)
    (na : starEach [a] X.env = (false, eval a X.env) :: starEach [] X.env := by rfl) (na2 : starEach [.Call (.Name "range" p2) [a] [] pos2] X.env = (false, eval (.Call (.Name "range" p2) [a] [] pos2) X.env) :: starEach [] X.env := by rfl) :
    DF X (.Call (.Name "list" p) [.Call (.Name "range" p2) [a] [] pos2] [] pos) (fRgL f) :=
  .mk (pe_listRg hc hg hm (prg_1 hg2 hm2 pe_w na) na2) fun C σ H S d S' Q hS hf q => by
    unfold fRgL at hf
    split at hf
    · rename_i n S1 e1
      split at hf
      · rename_i hn
        cases hf
        refine h C σ H S _ _ _ hS e1 fun v H1 k1 hS1 r1 => ⟨n, r1, ?_⟩
        unfold okR at hn
        have hn := of_decide_eq_true hn
        exact ⟨⟨by omega, by omega, by omega, by omega, by omega⟩, new_list k1 hS1 (rng_rep n) q⟩
      · cases hf
    · cases hf
/-- xs.index(y) -/
def findD (y : PD) : List PD → Option Nat
  | [] => none
  | z :: zs => if PyData.eqv z y then some 0 else (findD y zs).map (· + 1)
theorem findD_some {y : PD} : ∀ {zs : List PD} {j : Nat}, findD y zs = some j → (∃ z, zs[j]? = some z ∧ PyData.eqv z y = true) ∧ ∀ (m : Nat) (z' : PD), m < j → zs[m]? = some z' → PyData.eqv z' y = false
  | [], j, h => by cases h
  | z :: zs, j, h => by
    unfold findD at h
    split at h
    · rename_i e
      cases h
      exact ⟨⟨z, by simp, e⟩, fun m z' hm => by omega⟩
    · rename_i e
      cases e2 : findD y zs with
      | none => rw [e2] at h; cases h
      | some i =>
        rw [e2] at h
        cases h
        obtain ⟨⟨w, h1, h2⟩, h3⟩ := findD_some e2
        refine ⟨⟨w, by simpa using h1, h2⟩, fun m z' hm hz => ?_⟩
        cases m with
        | zero =>
          simp at hz
          subst hz
          simpa using e
        | succ m =>
          have hm' : m + 1 < i + 1 := hm
          exact h3 m z' (by omega) (by simpa using hz)
def gIndex (d y : PD) : Option PD := match d with
  | .list zs => if shp (.list zs) && shp y then (findD y zs).map fun j => .int (j : Int) else none
  | _ => none
theorem dIndex {f g : Ev} {p1 p2 : Pos} (hb : PE X (.Call (.Attribute l "index" p1) [a] [] p2) (tBM X.K "list" (rIndexD X.K) (wE X l) (tCons (wE X a) tNil))) (hl : DE X l f) (ha : DE X a g) :
    DE X (.Call (.Attribute l "index" p1) [a] [] p2) (eOp gIndex f g) :=
  .mk hb fun C σ H S d S' Q hS hf q => by
    obtain ⟨da, db, S1, h1, h2, h3⟩ := eOp_some hf
    unfold gIndex at h3
    split at h3
    · rename_i zs
      split at h3
      · rename_i hc
        rw [Bool.and_eq_true] at hc
        cases e2 : findD db zs with
        | none => rw [e2] at h3; cases h3
        | some j =>
          rw [e2] at h3
          cases h3
          obtain ⟨⟨z, z1, z2⟩, z3⟩ := findD_some e2
          refine hl C σ H S _ S1 _ hS h1 fun v H1 k1 hS1 r1 => ?_
          obtain ⟨p, vs, rfl, n, hp, r⟩ := hp_lst r1
          refine ⟨.inl ⟨rfl, _, SqL.of hp⟩, ha C σ H1 S1 db S' _ hS1 h2 fun y H2 k2 hS2 r2 => ?_⟩
          have r3 : Rep X.K (hide C.hid H2) (.list zs) (.ref p) := r1.mono k2.vw
          exact ⟨p, y, db, zs, j, z, rfl, rfl, (r3.mono hide_le).dp, (r2.mono hide_le).dp, shp_shaped hc.1, shp_shaped hc.2, z1, z2, z3, q _ H2 (k1.trans k2) hS2 rfl⟩
      · cases h3
    · cases h3
/-- .. of an owned name: xs.index(y) -/
def eIndexO (i : Nat) (g : Ev) : Ev := fun S => if isOw S[i]? then (do
  let (y, S1) ← g S
  match S1[i]? with
  | some (.ow zs) => (do
    let d ← gIndex (.list zs) y
    some (d, S1))
  | _ => none) else none
theorem dIndexO {i : Nat} {g : Ev} {p1 p2 : Pos} (hb : PE X (.Call (.Attribute l "index" p1) [a] [] p2) (tBM X.K "list" (rIndexD X.K) (tVar i) (tCons (wE X a) tNil))) (ha : DE X a g) :
    DE X (.Call (.Attribute l "index" p1) [a] [] p2) (eIndexO i g) :=
  .mk hb fun C σ H S d S' Q hS hf q => by
    unfold eIndexO at hf
    split at hf
    · rename_i hw
      obtain ⟨xs0, e0⟩ := isOw_some hw
      obtain ⟨ad, vs0, q0, q1, q2, q3⟩ := hS.at_ow e0
      obtain ⟨⟨y, S1⟩, h1, hf⟩ := bind_some' hf
      dsimp only at hf
      refine ⟨.ref ad, q1, .inl ⟨rfl, _, SqL.of q2⟩, ha C σ H S y S1 _ hS h1 fun v H1 k1 hS1 r1 => ?_⟩
      split at hf
      · rename_i zs e1
        obtain ⟨d', h3, hf⟩ := bind_some' hf
        cases hf
        obtain ⟨a0, vs, a2, a3⟩ := Hold.ref_same hS hS1 q1 e1
        unfold gIndex at h3
        dsimp only at h3
        split at h3
        · rename_i hc
          rw [Bool.and_eq_true] at hc
          cases e2 : findD y zs with
          | none => rw [e2] at h3; cases h3
          | some j =>
            rw [e2] at h3
            cases h3
            obtain ⟨⟨z, z1, z2⟩, z3⟩ := findD_some e2
            have r3 : Rep X.K H1 (.list zs) (.ref ad) := ⟨ad, vs, rfl, a2, a3.mono hide_le⟩
            exact ⟨ad, v, y, zs, j, z, rfl, rfl, r3.dp, (r1.mono hide_le).dp, shp_shaped hc.1, shp_shaped hc.2, z1, z2, z3, q _ H1 k1 hS1 rfl⟩
        · cases h3
      · cases hf
    · cases hf
/-! ## owned names as operands and arguments whose answer has no list in it -/
mutual
theorem Rep.flat {G G' : Hp} (hG : ∀ b xs, SqT K G b xs → SqT K G' b xs) : ∀ (d : PD) (v : V), DK.flat d = true → Rep K G d v → Rep K G' d v
  | .none, _, _, r => r
  | .bool _, _, _, r => r
  | .int _, _, _, r => r
  | .str _, _, _, r => r
  | .list _, _, h, _ => by simp [DK.flat] at h
  | .tuple ds, v, h, r => by
    obtain ⟨a, vs, h1, h2, h3⟩ := r
    exact ⟨a, vs, h1, hG a vs h2, RepL.flat hG ds vs (by simpa [DK.flat] using h) h3⟩
  | .dict _, _, _, r => r.elim
theorem RepL.flat {G G' : Hp} (hG : ∀ b xs, SqT K G b xs → SqT K G' b xs) : ∀ (ds : List PD) (vs : List V), DK.flatL ds = true → RepL K G ds vs → RepL K G' ds vs
  | [], _, _, r => r
  | d :: ds, vs, h, r => by
    obtain ⟨v, ws, h1, h2, h3⟩ := r
    simp only [DK.flatL, Bool.and_eq_true] at h
    exact ⟨v, ws, h1, Rep.flat hG d v h.1 h2, RepL.flat hG ds ws h.2 h3⟩
end
/-- tuples are seen through any hiding of lists -/
theorem tup_any {O O' : List Addr} {H : Hp} (h : AllLst O' H) : ∀ b xs, SqT K (hide O H) b xs → SqT K (hide O' H) b xs := fun b xs q => by
  rcases q with (q | ⟨o, q⟩) | q
  · obtain ⟨q1, q2⟩ := hide_some.mp q
    refine .inl (.inl (hide_some.mpr ⟨fun z => ?_, q2⟩))
    obtain ⟨ys, e⟩ := h b z
    rw [q2] at e; cases e
  · obtain ⟨q1, q2⟩ := hide_some.mp q
    refine .inl (.inr ⟨o, hide_some.mpr ⟨fun z => ?_, q2⟩⟩)
    obtain ⟨ys, e⟩ := h b z
    rw [q2] at e; cases e
  · exact .inr q
/-- arguments: expressions, or owned names -/
inductive Arg where
  | v (d : PD)
  | n (i : Nat)
abbrev EvM := Stt → Option (List Arg × Stt)
def ArgR (K : PySem.W.Frag) (C : Ctx) (σ : Sg) (H : Hp) : List Arg → List V → Prop
  | [], vs => vs = []
  | .v d :: r, vs => ∃ x ws, vs = x :: ws ∧ Rep K (hide C.hid H) d x ∧ ArgR K C σ H r ws
  | .n i :: r, vs => ∃ a ws, vs = .ref a :: ws ∧ (i, a) ∈ C.O ∧ ArgR K C σ H r ws
def EvAM (K : PySem.W.Frag) (t : TA) (f : EvM) : Prop := ∀ (C : Ctx) (σ : Sg) (H : Hp) (S : Stt) (ds : List Arg) (S' : Stt) (Q : List V → Hp → Prop), Hold K C σ H S → f S = some (ds, S') →
  (∀ vs H', Kp C H H' → Hold K C σ H' S' → ArgR K C σ H' ds vs → Q vs H') → t σ H Q
def DAM (X : Cx) (es : List Expr) (f : EvM) : Prop := EvAM X.K (wA X es) f
theorem ArgR.mono {C : Ctx} {σ : Sg} {H H' : Hp} (k : Kp C H H') : ∀ {ds : List Arg} {vs : List V}, ArgR K C σ H ds vs → ArgR K C σ H' ds vs
  | [], _, h => h
  | .v d :: r, vs, h => by
    obtain ⟨x, ws, h1, h2, h3⟩ := h
    exact ⟨x, ws, h1, h2.mono k.vw, ArgR.mono k h3⟩
  | .n i :: r, vs, h => by
    obtain ⟨x, ws, h1, h2, h3⟩ := h
    exact ⟨x, ws, h1, h2, ArgR.mono k h3⟩
def mNil : EvM := fun S => some ([], S)
def mE (f : Ev) (g : EvM) : EvM := fun S => do
  let (d, S1) ← f S
  let (ds, S2) ← g S1
  some (.v d :: ds, S2)
def mN (i : Nat) (g : EvM) : EvM := fun S => if isOw S[i]? then (do
  let (ds, S2) ← g S
  some (.n i :: ds, S2)) else none
theorem DAM.mk {t : TA} {f : EvM} (h : PA X es t) (k : EvAM X.K t f) : DAM X es f := fun C σ H S d S' Q hS hf q pos pins s I => h.run pos pins s σ H Q I (k C σ H S d S' Q hS hf q)
theorem dmNil : DAM X [] mNil := .mk pa_nil fun C σ H S ds S' Q hS hf q => by
  cases hf
  exact q [] H Kp.refl hS rfl
theorem dmE {f : Ev} {g : EvM} (he : DE X e f) (hs : DAM X es g) (hst : starEach (e :: es) X.env = (false, eval e X.env) :: starEach es X.env := by rfl) : DAM X (e :: es) (mE f g) :=
  .mk (pa_cons pe_w pa_w hst) fun C σ H S ds S' Q hS hf q => by
    unfold mE at hf
    obtain ⟨⟨d, S1⟩, h1, hf⟩ := bind_some' hf
    obtain ⟨⟨r, S2⟩, h2, hf⟩ := bind_some' hf
    cases hf
    refine he C σ H S d S1 _ hS h1 fun v H1 k1 hS1 r1 => ?_
    refine hs C σ H1 S1 r _ _ hS1 h2 fun vs H2 k2 hS2 r2 => ?_
    exact q (v :: vs) H2 (k1.trans k2) hS2 ⟨v, vs, rfl, r1.mono k2.vw, r2⟩
theorem dmN {i : Nat} {g : EvM} (he : OwN X e i) (hs : DAM X es g) (hst : starEach (e :: es) X.env = (false, eval e X.env) :: starEach es X.env := by rfl) : DAM X (e :: es) (mN i g) :=
  .mk (pa_cons he pa_w hst) fun C σ H S ds S' Q hS hf q => by
    unfold mN at hf
    split at hf
    · rename_i hw
      obtain ⟨xs0, e0⟩ := isOw_some hw
      obtain ⟨ad, vs0, q0, q1, q2, q3⟩ := hS.at_ow e0
      obtain ⟨⟨r, S2⟩, h2, hf⟩ := bind_some' hf
      cases hf
      refine ⟨.ref ad, q1, hs C σ H S r _ _ hS h2 fun vs H2 k2 hS2 r2 => ?_⟩
      exact q (.ref ad :: vs) H2 k2 hS2 ⟨ad, vs, rfl, q0, r2⟩
    · cases hf
/-- the data of the arguments, at the end -/
def ArgD (S : Stt) : List Arg → Option (List PD)
  | [] => some []
  | .v d :: r => (ArgD S r).map (d :: ·)
  | .n i :: r => match S[i]? with
    | some (.ow xs) => (ArgD S r).map (.list xs :: ·)
    | _ => none
def namesOf : List Arg → List Nat
  | [] => []
  | .v _ :: r => namesOf r
  | .n i :: r => i :: namesOf r
/-- the lists that stay hidden -/
def Ctx.less (C : Ctx) (ns : List Nat) : List Addr := C.W ++ (C.O.filter fun p => decide (p.1 ∉ ns)).map (·.2)
theorem less_hid {C : Ctx} {ns : List Nat} {b : Addr} (h : b ∈ C.less ns) : b ∈ C.hid := by
  unfold Ctx.less at h
  unfold Ctx.hid
  rcases List.mem_append.mp h with q | q
  · exact List.mem_append_left _ q
  · obtain ⟨p, hp, e⟩ := List.mem_map.mp q
    exact List.mem_append_right _ (List.mem_map.mpr ⟨p, (List.mem_filter.mp hp).1, e⟩)
theorem vw_less {C : Ctx} {ns : List Nat} {H : Hp} : Same (hide C.hid H) (hide (C.less ns) H) := fun b o h => by
  obtain ⟨h1, h2⟩ := hide_some.mp h
  exact hide_some.mpr ⟨fun z => h1 (less_hid z), h2⟩
theorem not_less {C : Ctx} {σ : Sg} {H : Hp} {S : Stt} (h : Hold K C σ H S) {ns : List Nat} {i : Nat} {a : Addr} (hi : i ∈ ns) (ha : (i, a) ∈ C.O) : a ∉ C.less ns := fun z => by
  unfold Ctx.less at z
  rcases List.mem_append.mp z with q | q
  · exact h.apart _ ha q
  · obtain ⟨p, hp, e⟩ := List.mem_map.mp q
    obtain ⟨h1, h2⟩ := List.mem_filter.mp hp
    have h2 := of_decide_eq_true h2
    have h3 : (p.1, a) ∈ C.O := by rw [← e]; exact h1
    exact h2 (by rw [h.slot_inj h3 ha]; exact hi)
theorem ArgR.data {C : Ctx} {σ : Sg} {H : Hp} {S : Stt} (h : Hold K C σ H S) (ns : List Nat) : ∀ {as : List Arg} {vs : List V} {ds : List PD}, (∀ i ∈ namesOf as, i ∈ ns) → ArgR K C σ H as vs → ArgD S as = some ds → RepL K (hide (C.less ns) H) ds vs
  | [], vs, ds, _, r, e => by cases e; exact r
  | .v d :: as, vs, ds, hn, r, e => by
    obtain ⟨x, ws, rfl, h2, h3⟩ := r
    unfold ArgD at e
    cases e2 : ArgD S as with
    | none => rw [e2] at e; cases e
    | some es =>
      rw [e2] at e
      cases e
      exact ⟨x, ws, rfl, h2.mono vw_less, ArgR.data (as := as) h ns hn h3 e2⟩
  | .n i :: as, vs, ds, hn, r, e => by
    obtain ⟨a, ws, rfl, h2, h3⟩ := r
    unfold ArgD at e
    split at e
    · rename_i xs e1
      cases e2 : ArgD S as with
      | none => rw [e2] at e; cases e
      | some es =>
        rw [e2] at e
        cases e
        obtain ⟨b, us, q0, q1, q2, q3⟩ := h.at_ow e1
        have eb := h.addr e1 q0 h2
        subst eb
        refine ⟨.ref b, ws, rfl, ⟨b, us, rfl, hide_some.mpr ⟨not_less h (hn i List.mem_cons_self) h2, q2⟩, q3.mono vw_less⟩, ArgR.data (as := as) h ns (fun j hj => hn j (List.mem_cons_of_mem _ hj)) h3 e2⟩
    · cases e
def eCallM (g : List PD → Option PD) (f : EvM) : Ev := fun S => do
  let (as, S1) ← f S
  let ds ← ArgD S1 as
  let d ← g ds
  if flat d then some (d, S1) else none
def fCallM (g : List PD → Option (List PD)) (f : EvM) : EvL := fun S => do
  let (as, S1) ← f S
  let ds ← ArgD S1 as
  let d ← g ds
  if flatL d then some (d, S1) else none
theorem eCallM_some {g : List PD → Option PD} {f : EvM} {S S' : Stt} {d : PD} (h : eCallM g f S = some (d, S')) : ∃ as ds, f S = some (as, S') ∧ ArgD S' as = some ds ∧ g ds = some d ∧ flat d = true := by
  unfold eCallM at h
  obtain ⟨⟨as, S1⟩, h1, h⟩ := bind_some' h
  obtain ⟨ds, h2, h⟩ := bind_some' h
  obtain ⟨d', h3, h⟩ := bind_some' h
  split at h
  · cases h
    exact ⟨as, ds, h1, h2, h3, by assumption⟩
  · cases h
theorem fCallM_some {g : List PD → Option (List PD)} {f : EvM} {S S' : Stt} {d : List PD} (h : fCallM g f S = some (d, S')) : ∃ as ds, f S = some (as, S') ∧ ArgD S' as = some ds ∧ g ds = some d ∧ flatL d = true := by
  unfold fCallM at h
  obtain ⟨⟨as, S1⟩, h1, h⟩ := bind_some' h
  obtain ⟨ds, h2, h⟩ := bind_some' h
  obtain ⟨d', h3, h⟩ := bind_some' h
  split at h
  · cases h
    exact ⟨as, ds, h1, h2, h3, by assumption⟩
  · cases h
theorem less_wd {C : Ctx} {σ : Sg} {H : Hp} {S : Stt} (h : Hold K C σ H S) (ns : List Nat) : AllLst (C.less ns) H := fun b hb => h.wd b (less_hid hb)
theorem AllLst.same {O : List Addr} {H H' : Hp} (h : AllLst O H) (e : Same H H') : AllLst O H' := fun b hb => let ⟨xs, q⟩ := h b hb; ⟨xs, e _ _ q⟩
theorem ev_callM {r : List V → Hp → VK → Prop} {g : List PD → Option PD} {t : TA} {f : EvM} (hg : CallD K r g) (ha : EvAM K t f) : EvE K (tCB r t) (eCallM g f) := fun C σ H S d S' Q hS hf q => by
  obtain ⟨as, ds, h1, h2, h3, h4⟩ := eCallM_some hf
  refine ha C σ H S as S' _ hS h1 fun vs H1 k1 hS1 r1 => ?_
  have rd := r1.data hS1 (namesOf as) (fun _ h => h) h2
  exact hg (C.less (namesOf as)) H1 ds d vs Q rd h3 (fun p np z => hS1.new np (less_hid z)) fun v H' sm rv => q v H' (k1.trans (.of sm)) (hS1.same sm) (Rep.flat (tup_any ((hS1.same sm).wd)) d v h4 rv)
theorem dCallBM {x : Str} {id : String} {r : List V → Hp → VK → Prop} {g : List PD → Option PD} {f : EvM} {p : Pos} (hc : CallR X (.builtin id) r) (hg : CallD X.K r g) (hm : X.mg x = none) (hv : bootBuiltins x = some (.builtin id)) (ha : DAM X (e :: es) f)
    (hgl : Gl X x := by rfl) (hn : x ≠ "__name__" := by decide) (hdb : (x == ("__debug__" : Str)) = false := by decide)
    (he : starEach (e :: es) X.env = (false, eval e X.env) :: starEach es X.env := by rfl) (hpl : (backTo pos (starEach es X.env)).any (·.1) = false := by rfl) : DE X (.Call (.Name x p) (e :: es) [] pos) (eCallM g f) :=
  .mk (pe_callB hc hgl hm hv pa_w hn hdb he hpl) (ev_callM hg ha)
/-- list(x) of an owned name -/
def fCopy (i : Nat) : EvL := fun S => match S[i]? with
  | some (.ow xs) => some (xs, S)
  | _ => none
theorem dCopy {i : Nat} {p : Pos} (hl : OwN X l i) (hm : X.mg "list" = none) (hg : Gl X "list" := by rfl) (he : starEach [l] X.env = (false, eval l X.env) :: starEach [] X.env := by rfl) (hpl : (backTo pos (starEach [] X.env)).any (·.1) = false := by rfl) :
    DF X (.Call (.Name "list" p) [l] [] pos) (fCopy i) :=
  .mk (pe_callTy call_list_of hg hm (bt "list") (pa_cons hl pa_nil he) (by decide) (by decide) he hpl) fun C σ H S d S' Q hS hf q => by
    unfold fCopy at hf
    split at hf
    · rename_i xs e0
      cases hf
      obtain ⟨ad, vs, q0, q1, q2, q3⟩ := hS.at_ow e0
      exact ⟨.ref ad, q1, ad, vs, rfl, .inl (SqL.of q2), new_list Kp.refl hS q3 q⟩
    · cases hf
theorem ev_fnPM {n : Nat} {t : TA} {a : EvM} {g : List PD → Option PD} (h : EvAM K t a) (hn : ∀ ds d, g ds = some d → ds.length = n) : EvE K (tCall (spP K n g) [] E0 t) (eCallM g a) := fun C σ H S d S' Q hS hf q => by
  obtain ⟨as, ds, h1, h2, h3, h4⟩ := eCallM_some hf
  refine h C σ H S as S' _ hS h1 fun vs H1 k1 hS1 r1 => ?_
  have rd := r1.data hS1 (namesOf as) (fun _ h => h) h2
  rw [List.append_nil]
  exact ⟨C.less (namesOf as), ds, d, hn _ _ h3, less_wd hS1 _, rd, h3, fun v H' sm rv => q v H' (k1.trans (.of sm)) (hS1.same sm) (Rep.flat (tup_any ((hS1.same sm).wd)) d v h4 rv)⟩
theorem ev_fnFM {n : Nat} {t : TA} {a : EvM} {g : List PD → Option (List PD)} (h : EvAM K t a) (hn : ∀ ds d, g ds = some d → ds.length = n) : EvF K (tCall (spF K n g) [] E0 t) (fCallM g a) := fun C σ H S d S' Q hS hf q => by
  obtain ⟨as, ds, h1, h2, h3, h4⟩ := fCallM_some hf
  refine h C σ H S as S' _ hS h1 fun vs H1 k1 hS1 r1 => ?_
  have rd := r1.data hS1 (namesOf as) (fun _ h => h) h2
  rw [List.append_nil]
  refine ⟨C.less (namesOf as), ds, d, hn _ _ h3, less_wd hS1 _, rd, h3, fun p us H' sm np hp ru => ?_⟩
  have hm := hS1.same_new sm np hp
  exact q p us H' (free_of' k1 hS1 np) (k1.trans (.of sm)) hp hm (RepL.flat (tup_any hm.wd) d us h4 ru)
theorem dFnPM {x : Str} {k n : Nat} {ps : List Str} {p : Pos} {a : EvM} {g : List PD → Option PD} (c : Cal X k x ps (spP X.K n g)) (hr : Room k X.A) (ha : DAM X (e :: es) a) (hn : ∀ ds d, g ds = some d → ds.length = n) (hg : Gl X x := by rfl)
    (hdb : (x == ("__debug__" : Str)) = false := by decide) (he : starEach (e :: es) X.env = (false, eval e X.env) :: starEach es X.env := by rfl) (hpl : (backTo pos (starEach es X.env)).any (·.1) = false := by rfl)
    (hps : Passes CX0 X E0 := by exact pass0) : DE X (.Call (.Name x p) (e :: es) [] pos) (eCallM g a) := by
  obtain ⟨f, fd, F, hm, hk, hb⟩ := c.ex
  exact .mk (pe_call F hr hg hm hk hb .nil hps pa_w hdb he hpl) (ev_fnPM ha hn)
theorem dFnFM {x : Str} {k n : Nat} {ps : List Str} {p : Pos} {a : EvM} {g : List PD → Option (List PD)} (c : Cal X k x ps (spF X.K n g)) (hr : Room k X.A) (ha : DAM X (e :: es) a) (hn : ∀ ds d, g ds = some d → ds.length = n) (hg : Gl X x := by rfl)
    (hdb : (x == ("__debug__" : Str)) = false := by decide) (he : starEach (e :: es) X.env = (false, eval e X.env) :: starEach es X.env := by rfl) (hpl : (backTo pos (starEach es X.env)).any (·.1) = false := by rfl)
    (hps : Passes CX0 X E0 := by exact pass0) : DF X (.Call (.Name x p) (e :: es) [] pos) (fCallM g a) := by
  obtain ⟨f, fd, F, hm, hk, hb⟩ := c.ex
  exact .mk (pe_call F hr hg hm hk hb .nil hps pa_w hdb he hpl) (ev_fnFM ha hn)
/-- e op x, x an owned name -/
def eOpN (g : PD → PD → Option PD) (f : Ev) (i : Nat) : Ev := fun S => do
  let (d, S1) ← f S
  match S1[i]? with
  | some (.ow xs) => (do
    let r ← g d (.list xs)
    if flat r then some (r, S1) else none)
  | _ => none
theorem ev_opN {r : R2} {g : PD → PD → Option PD} {ta : TE} {f : Ev} {i : Nat} (hg : OpD K r g) (ha : EvE K ta f) : EvE K (tOp r ta (tVar i)) (eOpN g f i) := fun C σ H S d S' Q hS hf q => by
  unfold eOpN at hf
  obtain ⟨⟨a, S1⟩, h1, hf⟩ := bind_some' hf
  dsimp only at hf
  split at hf
  · rename_i xs e1
    obtain ⟨r', h2, hf⟩ := bind_some' hf
    split at hf
    · rename_i hfl
      cases hf
      refine ha C σ H S a _ _ hS h1 fun x H1 k1 hS1 r1 => ?_
      obtain ⟨ad, vs, q0, q1, q2, q3⟩ := hS1.at_ow e1
      refine ⟨.ref ad, q1, hg (C.less [i]) H1 a (.list xs) d x (.ref ad) Q (r1.mono vw_less) ⟨ad, vs, rfl, hide_some.mpr ⟨not_less hS1 (by simp) q0, q2⟩, q3.mono vw_less⟩ h2 (fun p np z => hS1.new np (less_hid z)) fun v H' sm rv => ?_⟩
      exact q v H' (k1.trans (.of sm)) (hS1.same sm) (Rep.flat (tup_any ((hS1.same sm).wd)) d v hfl rv)
    · cases hf
  · cases hf
theorem dCmpN {op : CmpOp} {r : R2} {g : PD → PD → Option PD} {f : Ev} {i : Nat} (ho : OpR X (compareOp op) r) (hg : OpD X.K r g) (ha : DE X a f) (hb : OwN X b i)
    (hm : behindInMarks op b = false := by first | exact nomark _ | with_unfolding_all rfl) : DE X (.Compare a [op] [b] pos) (eOpN g f i) := .mk (pe_cmpR ho pe_w hb hm) (ev_opN hg ha)
theorem dCmpNT {op : CmpOp} {r : R2} {g : PD → PD → Option PD} {f : Ev} {i : Nat} (ho : OpR X (compareOp op) r) (hg : OpD X.K r g) (ha : DE X a f) (hb : OwN X b i)
    (hm : behindInMarks op b = false := by first | exact nomark _ | with_unfolding_all rfl) : DT X (.Compare a [op] [b] pos) (eB (eOpN g f i)) := .mk (pt_cmpR ho pe_w hb hm) (ev_test (ev_opN hg ha))
end
end DK
namespace DK
open PySem PySem.Spec PyProof.Rows L2
theorem room65 {k : Nat} {A : Around} (hr : Room k A) : A.units + 65 < cLine := by
  have := hr.un
  omega
section
variable {X : Cx} {K : PySem.W.Frag} {st : Stmt} {a b : Expr} {pos : Pos}
/-- behind the statement the name's list is shared -/
def sThen (i : Nat) (g : EvSt) : EvSt := fun S => match g S with
  | some (.nx S1) => some (.nx (frz i S1))
  | o => o
theorem dThen (i : Nat) {g : EvSt} (h : DS X st g) : DS X st (sThen i g) := fun C σ H S o D hS hf q => by
  unfold sThen at hf
  cases e : g S with
  | none => rw [e] at hf; cases hf
  | some o1 =>
    rw [e] at hf
    refine h C σ H S o1 D hS e ?_
    cases o1 with
    | nx S1 =>
      cases hf
      intro C' σ' H' s' hS'
      cases ew : S1[i]? with
      | none =>
        have ef : frz i S1 = S1 := by unfold frz; rw [ew]
        rw [ef] at q
        exact q C' σ' H' s' hS'
      | some x =>
        rw [frz_of ew] at q
        cases ed : ownD x with
        | none => rw [ed] at q; exact q C' σ' H' s' hS'
        | some xs => rw [ed] at q; exact q (C'.drop i) σ' H' (s'.trans (.drop i)) (hS'.frzD ew ed)
    | rt d S1 => cases hf; exact q
    | rtF d S1 => cases hf; exact q
    | bk S1 => cases hf; exact q
    | ct S1 => cases hf; exact q
/-- [e] * n as a new list -/
def fRep (fa fb : Ev) : EvL := fun S => do
  let (x, S1) ← fa S
  let (y, S2) ← fb S1
  match gRep x y with
  | some (.list zs) => some (zs, S2)
  | _ => none
theorem dRepF {fa fb : Ev} (ha : DE X a fa) (hb : DE X b fb) : DF X (.BinOp a .Mult b pos) (fRep fa fb) :=
  .mk (pe_op op_rep pe_w pe_w) fun C σ H S d S' Q hS hf q => by
    unfold fRep at hf
    obtain ⟨⟨x, S1⟩, h1, hf⟩ := bind_some' hf
    obtain ⟨⟨y, S2⟩, h2, hf⟩ := bind_some' hf
    dsimp only at hf
    split at hf
    · rename_i zs e
      cases hf
      refine ha C σ H S x S1 _ hS h1 fun vx H1 k1 hS1 r1 => ?_
      refine hb C σ H1 S1 y _ _ hS1 h2 fun vy H2 k2 hS2 r2 => ?_
      unfold gRep at e
      split at e
      · rename_i xs k
        split at e
        · rename_i hl
          obtain ⟨hl, hk, hk2⟩ := hl
          cases e
          obtain ⟨l, vs, rfl, nl, h3, r3⟩ := hp_lst (r1.mono k2.vw)
          cases (show vy = .int k from r2)
          exact ⟨l, k, vs, rfl, rfl, h3, by omega, by omega, size_of (by rw [r3.length]; exact hl), new_list (k1.trans k2) hS2 (r3.rep k.toNat) q⟩
        · cases e
      · cases e
    · cases hf
end
/-! ## the text's defs -/
def Okd (P : Program) (w : World) (K : PySem.W.Frag) (mg : Str → Option Value) (base : Heap) (k : Nat) (x : Str) (ps : List Str) (sp : Sp) : Prop :=
  ∃ (f : Addr) (fd : FuncData), FnOk P w K mg base CX0 k f fd ps sp ∧ mg x = some (.ref f) ∧ PySem.W.keepIn K (.ref f) = true ∧ Binds K fd ps []
structure Df (K : PySem.W.Frag) (mg : Str → Option Value) (x : Str) (st : Stmt) (ps : List Str) : Prop where
  ex : ∃ (f : Addr) (fd : FuncData), Fun K x x st f fd ∧ mg x = some (.ref f) ∧ Binds K fd ps []
structure DfL (K : PySem.W.Frag) (mg : Str → Option Value) (x : Str) (st : Stmt) (y : Str) (fa : Addr) : Prop where
  ex : ∃ fd : FuncData, Fun K x x st fa fd ∧ ∀ (s : Shared) (u : Value), BindsTo s fd ⟨[u], []⟩ [(y, u)]
  df : Df K mg x st [y]
section
variable {P : Program} {w : World} {K : PySem.W.Frag} {mg : Str → Option Value} {base : Heap} {x : Str} {st : Stmt} {ps : List Str} {k n : Nat}
theorem fnok_none {f : Addr} {fd : FuncData} {sp : Sp} (h : ∀ vs H Q E, ¬ sp vs H Q E) : FnOk P w K mg base CX0 k f fd ps sp :=
  ⟨fun vs H Q E q => (h vs H Q E q).elim, fun A outer s H args us vs Q E _ _ _ _ q => (h vs H Q E q).elim⟩
theorem okd_noneP (t : Df K mg x st ps) : Okd P w K mg base k x ps (spP K n fun _ => none) := by
  obtain ⟨f, fd, F, g, b⟩ := t.ex
  refine ⟨f, fd, fnok_none fun vs H Q E q => ?_, g, F.kp, b⟩
  obtain ⟨W, ds, d, _, _, _, h, _⟩ := q
  cases h
theorem okd_noneF (t : Df K mg x st ps) : Okd P w K mg base k x ps (spF K n fun _ => none) := by
  obtain ⟨f, fd, F, g, b⟩ := t.ex
  refine ⟨f, fd, fnok_none fun vs H Q E q => ?_, g, F.kp, b⟩
  obtain ⟨W, ds, d, _, _, _, h, _⟩ := q
  cases h
variable {h : Heap} {f : Addr} {oc : Value} {od an : Option Addr} {osl : Array (Option Value)} {kV doc pm cdv ct : Value}
theorem df_mk (X : K.In h) (G : h.Ns mainGlobals mg) (a : PySem.W.nsIn K mainGlobals x = some (some (.ref f))) (l : K.lookup f = some ⟨oc, od, .func (PySem.W.fnOf x x (defArgs st) (defBody st) (defScope st) .none kV doc pm an cdv ct), osl⟩)
    (c : PySem.W.codeIn K cdv x = true) (kp : PySem.W.keepIn K (.ref f) = true)
    (hb : ∀ (kV doc pm : Value) (an : Option Addr) (cdv ct : Value) (us : List Value), us.length = ps.length → bindArgs (PySem.W.fnOf x x (defArgs st) (defBody st) (defScope st) .none kV doc pm an cdv ct) ⟨us, []⟩ = pure (ps.zip us)) : Df K mg x st ps :=
  ⟨f, _, fun_mk l c kp, PySem.W.mg_of X G a, (fun_mk l c kp).binds hb⟩
theorem df_law {y : Str} {fa : Addr} (X : K.In h) (G : h.Ns mainGlobals mg) (hfa : mg x = some (.ref fa)) (a : PySem.W.nsIn K mainGlobals x = some (some (.ref f))) (l : K.lookup f = some ⟨oc, od, .func (PySem.W.fnOf x x (defArgs st) (defBody st) (defScope st) .none kV doc pm an cdv ct), osl⟩)
    (c : PySem.W.codeIn K cdv x = true) (kp : PySem.W.keepIn K (.ref f) = true)
    (hb : ∀ (kV doc pm : Value) (an : Option Addr) (cdv ct : Value) (us : List Value), us.length = [y].length → bindArgs (PySem.W.fnOf x x (defArgs st) (defBody st) (defScope st) .none kV doc pm an cdv ct) ⟨us, []⟩ = pure ([y].zip us))
    (hb2 : ∀ (kV doc pm : Value) (an : Option Addr) (cdv ct : Value) (s : Shared) (u : Value), BindsTo s (PySem.W.fnOf x x (defArgs st) (defBody st) (defScope st) .none kV doc pm an cdv ct) ⟨[u], []⟩ [(y, u)]) : DfL K mg x st y fa := by
  have e := hfa.symm.trans (PySem.W.mg_of X G a)
  cases e
  exact ⟨⟨_, fun_mk l c kp, hb2 _ _ _ _ _ _⟩, df_mk X G a l c kp hb⟩
theorem glb_num {i j : Int} {t u : Tok} {m : Nat} {dd : Option Addr} {sl : Array (Option Value)} (X : K.In h) (G : h.Ns mainGlobals mg) (a : PySem.W.nsIn K mainGlobals x = some (some (.ref f))) (l : K.lookup f = some ⟨.type "tuple", dd, .seq #[.int i t, .int j u] m, sl⟩) :
    Glb K mg x (.tuple [.int i, .int j]) :=
  ⟨.ref f, _, PySem.W.mg_of X G a, rfl, fun H => ⟨f, [.int i, .int j], rfl, .inr ⟨_, _, _, l, rfl, rfl, (by show 2 ≤ sizeLine; decide), .cons ⟨_, rfl⟩ (.cons ⟨_, rfl⟩ .nil)⟩, _, _, rfl, rfl, _, _, rfl, rfl, rfl⟩⟩
/-- the same, the fragment told by its fact -/
def DfX {K : PySem.W.Frag} {h : Heap} (_ : K.In h) (mg : Str → Option Value) (x : Str) (st : Stmt) (ps : List Str) : Prop := Df K mg x st ps
def GlbX {K : PySem.W.Frag} {h : Heap} (_ : K.In h) (mg : Str → Option Value) (x : Str) (d : PD) : Prop := Glb K mg x d
theorem dfX_mk (X : K.In h) (G : h.Ns mainGlobals mg) (a : PySem.W.nsIn K mainGlobals x = some (some (.ref f))) (l : K.lookup f = some ⟨oc, od, .func (PySem.W.fnOf x x (defArgs st) (defBody st) (defScope st) .none kV doc pm an cdv ct), osl⟩)
    (c : PySem.W.codeIn K cdv x = true) (kp : PySem.W.keepIn K (.ref f) = true)
    (hb : ∀ (kV doc pm : Value) (an : Option Addr) (cdv ct : Value) (us : List Value), us.length = ps.length → bindArgs (PySem.W.fnOf x x (defArgs st) (defBody st) (defScope st) .none kV doc pm an cdv ct) ⟨us, []⟩ = pure (ps.zip us)) : DfX X mg x st ps := df_mk X G a l c kp hb
theorem glbX_num {i j : Int} {t u : Tok} {m : Nat} {dd : Option Addr} {sl : Array (Option Value)} (X : K.In h) (G : h.Ns mainGlobals mg) (a : PySem.W.nsIn K mainGlobals x = some (some (.ref f))) (l : K.lookup f = some ⟨.type "tuple", dd, .seq #[.int i t, .int j u] m, sl⟩) :
    GlbX X mg x (.tuple [.int i, .int j]) := glb_num X G a l
def DfLX {K : PySem.W.Frag} {h : Heap} (_ : K.In h) (mg : Str → Option Value) (x : Str) (st : Stmt) (y : Str) (fa : Addr) : Prop := DfL K mg x st y fa
theorem dfLX_mk {y : Str} {fa : Addr} (X : K.In h) (G : h.Ns mainGlobals mg) (hfa : mg x = some (.ref fa)) (a : PySem.W.nsIn K mainGlobals x = some (some (.ref f))) (l : K.lookup f = some ⟨oc, od, .func (PySem.W.fnOf x x (defArgs st) (defBody st) (defScope st) .none kV doc pm an cdv ct), osl⟩)
    (c : PySem.W.codeIn K cdv x = true) (kp : PySem.W.keepIn K (.ref f) = true)
    (hb : ∀ (kV doc pm : Value) (an : Option Addr) (cdv ct : Value) (us : List Value), us.length = [y].length → bindArgs (PySem.W.fnOf x x (defArgs st) (defBody st) (defScope st) .none kV doc pm an cdv ct) ⟨us, []⟩ = pure ([y].zip us))
    (hb2 : ∀ (kV doc pm : Value) (an : Option Addr) (cdv ct : Value) (s : Shared) (u : Value), BindsTo s (PySem.W.fnOf x x (defArgs st) (defBody st) (defScope st) .none kV doc pm an cdv ct) ⟨[u], []⟩ [(y, u)]) : DfLX X mg x st y fa := df_law X G hfa a l c kp hb hb2
theorem hide_nil {H : Hp} : hide [] H = H := by
  funext b
  unfold hide
  rw [if_neg (by simp)]
theorem law_want {g : List PD → Option PD} (plain : ∀ ns : List Int, ns.length ≤ 63 → g [.list (ns.map PyData.int)] = some (.bool true)) {Hs : Hp} {a : Addr} {ns : List Int} (hl : ns.length ≤ 63) (sq : SqL K Hs a (ns.map V.int)) :
    spS K 1 g [.ref a] Hs (fun v _ => v = .bl true) E0 :=
  ⟨[], a, ns, [], [], .bool true, rfl, rfl, (fun b hb => nomatch hb), (by rw [hide_nil]; exact sq), rfl, plain ns hl, fun v H' sm rv => rv⟩
end
end DK
namespace DK
open PySem PySem.Spec PyProof.Rows L2
/-! ## lists of lists that are changed inside: hidden, changed, shown again -/
def Ctx.mw (C : Ctx) (ps : List Addr) : Ctx := { C with W := ps ++ C.W }
def Ctx.gainL (C : Ctx) (i : Nat) (ps : List Addr) : Ctx := { C with O := ps.map (fun a => (i, a)) ++ C.O }
structure Nst (K : PySem.W.Frag) (C : Ctx) (H : Hp) (a : Addr) (bs : List Addr) (yss : List (List PD)) : Prop where
  at_ : H a = some (.lst (bs.map V.ref))
  nod : (a :: bs).Nodup
  len : bs.length = yss.length
  cel : ∀ (k : Nat) (b : Addr) (ys : List PD), bs[k]? = some b → yss[k]? = some ys → ∃ vs, H b = some (.lst vs) ∧ RepL K (hide (C.mw (a :: bs)).hid H) ys vs
  fr : ∀ b ∈ a :: bs, C.H0 b = none
  out : ∀ b ∈ a :: bs, b ∉ C.hid
section
variable {K : PySem.W.Frag} {C : Ctx} {σ : Sg} {H H' : Hp} {S : Stt} {i : Nat} {a : Addr} {bs : List Addr} {yss : List (List PD)}
theorem mem_mw {ps : List Addr} {b : Addr} : b ∈ (C.mw ps).hid ↔ b ∈ ps ∨ b ∈ C.hid := by
  unfold Ctx.hid Ctx.mw
  simp only [List.mem_append, or_assoc]
theorem mem_gainL {ps : List Addr} {b : Addr} : b ∈ (C.gainL i ps).hid ↔ b ∈ ps ∨ b ∈ C.hid := by
  unfold Ctx.hid Ctx.gainL
  simp only [List.map_append, List.map_map, List.mem_append, List.mem_map, Function.comp]
  constructor
  · rintro (q | ⟨x, hx, rfl⟩ | q)
    · exact .inr (.inl q)
    · exact .inl hx
    · exact .inr (.inr q)
  · rintro (q | q | q)
    · exact .inr (.inl ⟨b, q, rfl⟩)
    · exact .inl q
    · exact .inr (.inr q)
/-- a context with the same hidden lists that owns the same -/
theorem SlOk.vw {C' : Ctx} {j : Nat} {v : Option V} {x : Sl} (h : SlOk K C H j v x) (hO : ∀ b, (j, b) ∈ C.O → (j, b) ∈ C'.O) (vw : Same (hide C.hid H) (hide C'.hid H)) : SlOk K C' H j v x := by
  cases x with
  | no => trivial
  | sh d => obtain ⟨y, q1, q2⟩ := h; exact ⟨y, q1, q2.mono vw⟩
  | ow xs => obtain ⟨a, vs, q1, q2, q3, q4⟩ := h; exact ⟨a, vs, hO _ q1, q2, q3, q4.mono vw⟩
  | scr ns => obtain ⟨a, q1, q2⟩ := h; exact ⟨a, q1, sqL_mono vw q2⟩
  | raw v => exact h
  | nst yss => obtain ⟨a, bs, q1, q2, q3, q4, q5⟩ := h; exact ⟨a, bs, q1, hO _ q2, q3, q4, q5.mono (fun b _ z => hO b z) (fun _ _ _ _ z => z) vw⟩
theorem vw_of {O O' : List Addr} (h : ∀ b ∈ O', b ∈ O) : Same (hide O H) (hide O' H) := fun b o z => by
  obtain ⟨z1, z2⟩ := hide_some.mp z
  exact hide_some.mpr ⟨fun w => z1 (h b w), z2⟩
theorem Hold.hideN (h : Hold K C σ H S) (e : S[i]? = some (.nst yss)) (h0 : i ≠ 0) : ∃ a bs, σ[i]? = some (some (.ref a)) ∧ Nst K (C.drop i) H a bs yss ∧ Hold K ((C.drop i).mw (a :: bs)) σ H (S.set i .no) ∧ ∀ b ∈ a :: bs, b ∈ C.own := by
  obtain ⟨a, bs, h1, h2, h3, h4, h5⟩ := h.at_nst e
  have hd := h.drop i
  have inO : ∀ b ∈ a :: bs, (i, b) ∈ C.O := fun b hb => by
    rcases List.mem_cons.mp hb with z | z
    · rw [z]; exact h2
    · exact h5.in_O b z
  have out : ∀ b ∈ a :: bs, b ∉ (C.drop i).hid := fun b hb => h.out (inO b hb)
  have sub : ∀ b ∈ ((C.drop i).mw (a :: bs)).hid, b ∈ C.hid := fun b hb => by
    rcases mem_mw.mp hb with z | z
    · exact Hold.in_hid (inO b z)
    · exact drop_hid z
  have vw : Same (hide C.hid H) (hide ((C.drop i).mw (a :: bs)).hid H) := vw_of sub
  refine ⟨a, bs, h1, ⟨h3, h4, h5.1, fun k b ys e1 e2 => ?_, fun b hb => ?_, out⟩, ?_, fun b hb => in_own (inO b hb)⟩
  · obtain ⟨_, vs, q2, q3⟩ := h5.2 k b ys e1 e2
    exact ⟨vs, q2, q3.mono vw⟩
  · rcases h.fresh _ (inO b hb) with z | ⟨z, _⟩
    · exact z.2
    · exact absurd z h0
  · refine ⟨hd.len, fun j v x e1 e2 => ?_, hd.own, hd.nod, fun p hp z => ?_, fun b hb => h.wd b (sub b hb), hd.frame, hd.fresh, hd.bd⟩
    · rcases set_get e2 with ⟨_, rfl, _⟩ | ⟨hne, e2⟩
      · trivial
      · exact (h.slot j v x e1 e2).vw (fun b z => mem_drop.mpr ⟨z, fun z => hne z.symm⟩) vw
    · rcases List.mem_append.mp z with z | z
      · exact out p.2 z (Hold.in_hid (C := C.drop i) hp)
      · exact hd.apart p hp z
theorem Hold.showN (h : Hold K (C.mw (a :: bs)) σ H S) (n : Nst K C H a bs yss) (e : σ[i]? = some (some (.ref a))) (h0 : i ≠ 0) (no : ∀ p ∈ C.O, p.1 ≠ i) : Hold K (C.gainL i (a :: bs)) σ H (S.set i (.nst yss)) := by
  have hi : i < S.length := by rw [← h.len]; exact (List.getElem?_eq_some_iff.mp e).1
  have eq : ∀ b, b ∈ (C.gainL i (a :: bs)).hid ↔ b ∈ (C.mw (a :: bs)).hid := fun b => mem_gainL.trans mem_mw.symm
  have vw : Same (hide (C.mw (a :: bs)).hid H) (hide (C.gainL i (a :: bs)).hid H) := vw_of fun b hb => (eq b).mp hb
  have inO : ∀ b ∈ a :: bs, (i, b) ∈ (C.gainL i (a :: bs)).O := fun b hb => List.mem_append_left _ (List.mem_map.mpr ⟨b, hb, rfl⟩)
  refine ⟨by rw [List.length_set]; exact h.len, fun j v x e1 e2 => ?_, fun p hp => ?_, ?_, fun p hp z => ?_, fun b hb => h.wd b ((eq b).mp hb), h.frame, fun p hp => ?_, h.bd⟩
  · rcases set_get e2 with ⟨rfl, rfl, _⟩ | ⟨hne, e2⟩
    · rw [e] at e1
      cases e1
      refine ⟨a, bs, rfl, inO a List.mem_cons_self, n.at_, n.nod, n.len, fun k b ys q1 q2 => ?_⟩
      obtain ⟨vs, w1, w2⟩ := n.cel k b ys q1 q2
      exact ⟨inO b (List.mem_cons_of_mem _ (List.mem_of_getElem? q1)), vs, w1, w2.mono vw⟩
    · exact (h.slot j v x e1 e2).vw (fun b z => List.mem_append_right _ z) vw
  · rcases List.mem_append.mp hp with z | z
    · obtain ⟨b, hb, rfl⟩ := List.mem_map.mp z
      exact .inr ⟨yss, List.getElem?_set_self hi⟩
    · exact (h.own p z).ne rfl (List.getElem?_set_ne (Ne.symm (no p z)))
  · show (((a :: bs).map (fun b => (i, b)) ++ C.O).map (·.2)).Nodup
    rw [List.map_append, List.map_map]
    have e3 : ((fun x : Nat × Addr => x.2) ∘ fun b => (i, b)) = id := rfl
    rw [e3, List.map_id]
    refine List.nodup_append.mpr ⟨n.nod, h.nod, fun x hx y hy z => ?_⟩
    subst z
    exact n.out x hx (List.mem_append_right _ hy)
  · rcases List.mem_append.mp hp with w | w
    · obtain ⟨b, hb, rfl⟩ := List.mem_map.mp w
      exact n.out b hb (List.mem_append_left _ z)
    · exact h.apart p w (List.mem_append_right _ z)
  · rcases List.mem_append.mp hp with w | w
    · obtain ⟨b, hb, rfl⟩ := List.mem_map.mp w
      exact .inl ⟨h0, n.fr b hb⟩
    · exact h.fresh p w
/-- a hidden list's content is changed -/
theorem Hold.chgW {p : Addr} {ys : List V} (h : Hold K C σ H S) (hp : p ∈ C.W) (fr : C.H0 p = none) : Hold K C σ (upd H p (.lst ys)) S := by
  have ph : p ∈ C.hid := List.mem_append_left _ hp
  have nO : ∀ q ∈ C.O, q.2 ≠ p := fun q hq z => h.apart q hq (by rw [z]; exact hp)
  have vw : Same (hide C.hid H) (hide C.hid (upd H p (.lst ys))) := fun b o z => by
    obtain ⟨z1, z2⟩ := hide_some.mp z
    exact hide_some.mpr ⟨z1, by rw [upd_ne (fun w => z1 (by rw [w]; exact ph))]; exact z2⟩
  refine ⟨h.len, fun j v x e1 e2 => ?_, h.own, h.nod, h.apart, fun b hb => ?_, fun b o e1 e2 => ?_, h.fresh, fun b hb => ?_⟩
  · have q := h.slot j v x e1 e2
    cases x with
    | no => trivial
    | sh d => obtain ⟨y, q1, q2⟩ := q; exact ⟨y, q1, q2.mono vw⟩
    | ow xs => obtain ⟨a, vs, q1, q2, q3, q4⟩ := q; exact ⟨a, vs, q1, q2, by rw [upd_ne (nO _ q1)]; exact q3, q4.mono vw⟩
    | scr ns => obtain ⟨a, q1, q2⟩ := q; exact ⟨a, q1, sqL_mono vw q2⟩
    | raw v => exact q
    | nst yss => obtain ⟨a, bs, q1, q2, q3, q4, q5⟩ := q; exact ⟨a, bs, q1, q2, by rw [upd_ne (nO _ q2)]; exact q3, q4, q5.mono (fun _ _ z => z) (fun b _ hb o z => by rw [upd_ne (nO _ hb)]; exact z) vw⟩
  · by_cases hbp : b = p
    · exact ⟨ys, by rw [hbp, upd_same]⟩
    · obtain ⟨zs, q⟩ := h.wd b hb
      exact ⟨zs, by rw [upd_ne hbp]; exact q⟩
  · have hbp : b ≠ p := fun z => by
      rw [z, fr] at e1; cases e1
    rw [upd_ne hbp]
    exact h.frame b o e1 e2
  · by_cases hbp : b = p
    · exact ⟨ys, by rw [hbp, upd_same]⟩
    · obtain ⟨zs, q⟩ := h.bd b hb
      exact ⟨zs, by rw [upd_ne hbp]; exact q⟩
theorem Nst.kp (n : Nst K C H a bs yss) (k : Kp (C.mw (a :: bs)) H H') : Nst K C H' a bs yss := by
  have ke : ∀ b ∈ a :: bs, ∀ o, H b = some o → H' b = some o := fun b hb o z => k b o (fun w => n.out b hb (own_hid (C := C) w)) z
  refine ⟨ke a List.mem_cons_self _ n.at_, n.nod, n.len, fun j b ys e1 e2 => ?_, n.fr, n.out⟩
  obtain ⟨vs, q1, q2⟩ := n.cel j b ys e1 e2
  exact ⟨vs, ke b (List.mem_cons_of_mem _ (List.mem_of_getElem? e1)) _ q1, q2.mono k.vw⟩
/-- a cell is changed -/
theorem Nst.set (n : Nst K C H a bs yss) {j : Nat} {b : Addr} {zs : List PD} {us : List V} (e : bs[j]? = some b) (r : RepL K (hide (C.mw (a :: bs)).hid H) zs us) : Nst K C (upd H b (.lst us)) a bs (yss.set j zs) := by
  have hb := List.mem_of_getElem? e
  have hba : b ≠ a := fun z => (List.nodup_cons.mp n.nod).1 (by rw [← z]; exact hb)
  have ph : b ∈ (C.mw (a :: bs)).hid := mem_mw.mpr (.inl (List.mem_cons_of_mem _ hb))
  have vw : Same (hide (C.mw (a :: bs)).hid H) (hide (C.mw (a :: bs)).hid (upd H b (.lst us))) := fun c o z => by
    obtain ⟨z1, z2⟩ := hide_some.mp z
    exact hide_some.mpr ⟨z1, by rw [upd_ne (fun w => z1 (by rw [w]; exact ph))]; exact z2⟩
  refine ⟨by rw [upd_ne (Ne.symm hba)]; exact n.at_, n.nod, by rw [List.length_set]; exact n.len, fun k c ys e1 e2 => ?_, n.fr, n.out⟩
  by_cases hk : j = k
  · subst hk
    rw [e] at e1
    cases e1
    have hl : j < yss.length := by rw [← n.len]; exact (List.getElem?_eq_some_iff.mp e).1
    rw [List.getElem?_set_self hl] at e2
    cases e2
    exact ⟨us, upd_same, r.mono vw⟩
  · rw [List.getElem?_set_ne hk] at e2
    obtain ⟨vs, q1, q2⟩ := n.cel k c ys e1 e2
    refine ⟨vs, ?_, q2.mono vw⟩
    rw [upd_ne fun z => ?_]
    · exact q1
    · subst z
      have nd := (List.nodup_cons.mp n.nod).2
      have h1 := (List.getElem?_eq_some_iff.mp e).1
      have h2 := (List.getElem?_eq_some_iff.mp e1).1
      have h3 := (List.getElem?_eq_some_iff.mp e).2.trans (List.getElem?_eq_some_iff.mp e1).2.symm
      have pw := List.pairwise_iff_getElem.mp nd
      rcases Nat.lt_or_gt_of_ne hk with z | z
      · exact pw j k h1 h2 z h3
      · exact pw k j h2 h1 z h3.symm
/-- a new cell behind the others -/
theorem Nst.push {p : Addr} {zs : List PD} {us : List V} (n : Nst K C H a bs yss) (hp : H p = some (.lst us)) (np : p ∉ (C.mw (a :: bs)).hid) (f0 : C.H0 p = none) (r : RepL K (hide (p :: (C.mw (a :: bs)).hid) H) zs us) (cel : ∀ (k : Nat) (b : Addr) (ys : List PD), bs[k]? = some b → yss[k]? = some ys → ∃ vs, H b = some (.lst vs) ∧ RepL K (hide (p :: (C.mw (a :: bs)).hid) H) ys vs) :
    Nst K C (upd H a (.lst ((bs ++ [p]).map V.ref))) a (bs ++ [p]) (yss ++ [zs]) := by
  have pa : p ≠ a := fun z => np (mem_mw.mpr (.inl (by rw [z]; exact List.mem_cons_self)))
  have pb : p ∉ bs := fun z => np (mem_mw.mpr (.inl (List.mem_cons_of_mem _ z)))
  have ab : a ∉ bs := (List.nodup_cons.mp n.nod).1
  have eq : ∀ b, b ∈ (C.mw (a :: (bs ++ [p]))).hid ↔ b ∈ p :: (C.mw (a :: bs)).hid := fun b => by
    simp only [mem_mw, List.mem_cons, List.mem_append, List.not_mem_nil, or_false]
    constructor
    · rintro ((q | q | q) | q)
      · exact .inr (.inl (.inl q))
      · exact .inr (.inl (.inr q))
      · exact .inl q
      · exact .inr (.inr q)
    · rintro (q | (q | q) | q)
      · exact .inl (.inr (.inr q))
      · exact .inl (.inl q)
      · exact .inl (.inr (.inl q))
      · exact .inr q
  have vw : Same (hide (p :: (C.mw (a :: bs)).hid) H) (hide (C.mw (a :: (bs ++ [p]))).hid (upd H a (.lst ((bs ++ [p]).map V.ref)))) := fun c o z => by
    obtain ⟨z1, z2⟩ := hide_some.mp z
    refine hide_some.mpr ⟨fun w => z1 ((eq c).mp w), ?_⟩
    rw [upd_ne (fun w => z1 (List.mem_cons_of_mem _ (mem_mw.mpr (.inl (by rw [w]; exact List.mem_cons_self)))))]
    exact z2
  refine ⟨upd_same, ?_, by simp [n.len], fun k b ys e1 e2 => ?_, fun b hb => ?_, fun b hb => ?_⟩
  · refine List.nodup_cons.mpr ⟨fun z => ?_, List.nodup_append.mpr ⟨(List.nodup_cons.mp n.nod).2, by simp, fun x hx y hy z => ?_⟩⟩
    · rcases List.mem_append.mp z with z | z
      · exact ab z
      · simp at z; exact pa z.symm
    · simp at hy
      rw [z, hy] at hx
      exact pb hx
  · by_cases hk : k < bs.length
    · rw [List.getElem?_append_left hk] at e1
      rw [List.getElem?_append_left (by rw [← n.len]; exact hk)] at e2
      obtain ⟨vs, q1, q2⟩ := cel k b ys e1 e2
      refine ⟨vs, ?_, q2.mono vw⟩
      rw [upd_ne fun z => ab (by rw [← z]; exact List.mem_of_getElem? e1)]
      exact q1
    · rw [List.getElem?_append_right (by omega)] at e1
      rw [List.getElem?_append_right (by rw [← n.len]; omega)] at e2
      rw [← n.len] at e2
      cases hm : k - bs.length with
      | zero =>
        rw [hm] at e1 e2
        cases e1
        cases e2
        exact ⟨us, by rw [upd_ne pa]; exact hp, r.mono vw⟩
      | succ m => rw [hm] at e1; simp at e1
  · rcases List.mem_cons.mp hb with z | z
    · exact n.fr b (by rw [z]; exact List.mem_cons_self)
    · rcases List.mem_append.mp z with z | z
      · exact n.fr b (List.mem_cons_of_mem _ z)
      · simp at z; rw [z]; exact f0
  · rcases List.mem_cons.mp hb with z | z
    · exact n.out b (by rw [z]; exact List.mem_cons_self)
    · rcases List.mem_append.mp z with z | z
      · exact n.out b (List.mem_cons_of_mem _ z)
      · simp at z; rw [z]; exact fun w => np (mem_mw.mpr (.inr w))
/-- an empty list is a list of lists -/
theorem Hold.ow_nst (h : Hold K C σ H S) (e : S[i]? = some (.ow [])) (h0 : i ≠ 0) : ∃ C', Step C H C' H ∧ Hold K C' σ H (S.set i (.nst [])) := by
  obtain ⟨a, vs, q0, q1, q2, q3⟩ := h.at_ow e
  cases (show vs = [] from q3)
  have f0 : C.H0 a = none := by
    rcases h.fresh _ q0 with z | ⟨z, _⟩
    · exact z.2
    · exact absurd z h0
  have hu := h.unown q0
  have out := h.out q0
  have n : Nst K (C.drop i) H a [] [] := ⟨q2, by simp, rfl, fun k b ys e1 => by simp at e1, fun b hb => by simp at hb; rw [hb]; exact f0, fun b hb => by simp at hb; rw [hb]; exact out⟩
  have hs : Hold K ((C.drop i).gainL i [a]) σ H ((S.set i .no).set i (.nst [])) := Hold.showN (C := C.drop i) (bs := []) hu n q1 h0 drop_no
  rw [set_set] at hs
  refine ⟨(C.drop i).gainL i [a], ⟨rfl, rfl, rfl, Kp.refl, fun b hb => .inl ?_⟩, hs⟩
  unfold Ctx.own Ctx.gainL at hb
  rw [List.map_append] at hb
  rcases List.mem_append.mp hb with z | z
  · simp at z; rw [z]; exact in_own q0
  · exact drop_own z
theorem gainL_own {ps : List Addr} {b : Addr} (hb : b ∈ (C.gainL i ps).own) : b ∈ ps ∨ b ∈ C.own := by
  unfold Ctx.own Ctx.gainL at hb
  rw [List.map_append] at hb
  rcases List.mem_append.mp hb with z | z
  · rw [List.map_map] at z
    obtain ⟨x, hx, e⟩ := List.mem_map.mp z
    exact .inl (by rw [← e]; exact hx)
  · exact .inr z
end
end DK
namespace DK
open PySem PySem.Spec PyProof.Rows L2
section
variable {X : Cx} {K : PySem.W.Frag} {C : Ctx} {σ : Sg} {H H' : Hp} {S : Stt} {i j : Nat} {a : Addr} {bs : List Addr} {yss : List (List PD)} {st : Stmt} {pos : Pos}
theorem Hold.reW (h : Hold K C σ H S) {W : List Addr} (eq : ∀ b, b ∈ W ↔ b ∈ C.W) : Hold K { C with W := W } σ H S := by
  have hid : ∀ b, b ∈ ({ C with W := W } : Ctx).hid → b ∈ C.hid := fun b hb => by
    rcases List.mem_append.mp hb with z | z
    · exact List.mem_append_left _ ((eq b).mp z)
    · exact List.mem_append_right _ z
  have vw : Same (hide C.hid H) (hide ({ C with W := W } : Ctx).hid H) := vw_of hid
  exact ⟨h.len, fun j v x e1 e2 => (h.slot j v x e1 e2).vw (fun _ z => z) vw, h.own, h.nod, fun p hp z => h.apart p hp ((eq _).mp z), fun b hb => h.wd b (hid b hb), h.frame, h.fresh, h.bd⟩
theorem Hold.putNo (h : Hold K C σ H S) (no : ∀ p ∈ C.O, p.1 ≠ i) {w : Option V} : Hold K C (σ.set i w) H (S.set i .no) where
  len := by rw [List.length_set, List.length_set]; exact h.len
  slot := fun j w x h1 h2 => by
    rcases set_get h2 with ⟨rfl, rfl, hl⟩ | ⟨hne, h2⟩
    · trivial
    · rw [List.getElem?_set_ne hne] at h1
      exact h.slot j w x h1 h2
  own := fun p hp => (h.own p hp).ne (List.getElem?_set_ne (Ne.symm (no p hp))) (List.getElem?_set_ne (Ne.symm (no p hp)))
  nod := h.nod
  apart := h.apart
  wd := h.wd
  frame := h.frame
  fresh := h.fresh
  bd := h.bd
/-- a statement that makes an empty list: a list of lists -/
def sNst (i : Nat) (g : EvSt) : EvSt := fun S => if i = 0 then none else match g S with
  | some (.nx S1) => (match S1[i]? with
    | some (.ow []) => some (.nx (S1.set i (.nst [])))
    | _ => none)
  | _ => none
theorem dNst (i : Nat) {g : EvSt} (h : DS X st g) : DS X st (sNst i g) := fun C σ H S o D hS hf q => by
  unfold sNst at hf
  split at hf
  · cases hf
  · rename_i h0
    split at hf
    · rename_i S1 e
      split at hf
      · rename_i e1
        cases hf
        refine h C σ H S _ D hS e fun C' σ' H' s' hS' => ?_
        obtain ⟨C2, s2, hS2⟩ := hS'.ow_nst e1 h0
        exact q C2 σ' H' (s'.trans s2) hS2
      · cases hf
    · cases hf
/-- x.append(a new list) -/
def sPush (i : Nat) (f : EvL) : EvSt := fun S => if i = 0 then none else match S[i]? with
  | some (.nst yss) => (do
    let (zs, S1) ← f (S.set i .no)
    if yss.length < 100000 then some (.nx (S1.set i (.nst (yss ++ [zs])))) else none)
  | _ => none
theorem Kp.back {C C' : Ctx} {H H' : Hp} (k : Kp C' H H') (own : ∀ b ∈ C'.own, b ∈ C.own) : Kp C H H' := fun b o hb h => k b o (fun z => hb (own b z)) h
theorem mw_own {ps : List Addr} {b : Addr} (h : b ∈ ((C.drop i).mw ps).own) : b ∈ C.own := drop_own (C := C) (i := i) h
/-- the end of a change inside: shown again -/
theorem shown {K : PySem.W.Frag} {C : Ctx} {σ : Sg} {H H' : Hp} {S1 : Stt} {i : Nat} {a : Addr} {bs : List Addr} {yss : List (List PD)} (hS : Hold K ((C.drop i).mw (a :: bs)) σ H' S1) (n : Nst K (C.drop i) H' a bs yss) (e : σ[i]? = some (some (.ref a))) (h0 : i ≠ 0) (own : ∀ b ∈ a :: bs, b ∈ C.own ∨ H b = none) (k : Kp C H H') :
    Step C H ((C.drop i).gainL i (a :: bs)) H' ∧ Hold K ((C.drop i).gainL i (a :: bs)) σ H' (S1.set i (.nst yss)) := by
  refine ⟨⟨rfl, rfl, rfl, k, fun b hb => ?_⟩, hS.showN n e h0 drop_no⟩
  rcases gainL_own hb with z | z
  · exact own b z
  · exact .inl (drop_own z)
/-- a new list behind the others, in a hidden list of lists -/
theorem push_core {K : PySem.W.Frag} {C0 : Ctx} {σ : Sg} {H H1 : Hp} {S S1 : Stt} {a p : Addr} {bs : List Addr} {yss : List (List PD)} {zs : List PD} {us : List V} (n : Nst K C0 H a bs yss) (hS : Hold K (C0.mw (a :: bs)) σ H S) (np : H p = none) (k1 : Kp (C0.mw (a :: bs)) H H1) (hp : H1 p = some (.lst us)) (hS1 : Hold K ((C0.mw (a :: bs)).more p) σ H1 S1) (r1 : RepL K (hide ((C0.mw (a :: bs)).more p).hid H1) zs us) :
    Nst K C0 (upd H1 a (.lst ((bs ++ [p]).map V.ref))) a (bs ++ [p]) (yss ++ [zs]) ∧ Hold K (C0.mw (a :: (bs ++ [p]))) σ (upd H1 a (.lst ((bs ++ [p]).map V.ref))) S1 := by
  have ke : ∀ b ∈ a :: bs, ∀ o, H b = some o → H1 b = some o := fun b hb o z => k1 b o (fun w => n.out b hb (own_hid (C := C0) w)) z
  have n1 := n.kp k1
  refine ⟨n1.push hp (hS.new np) (H0_none (C := C0.mw (a :: bs)) hS np) r1 fun k b ys e1 e2 => ?_, ?_⟩
  · obtain ⟨vs, q1, q2⟩ := n.cel k b ys e1 e2
    exact ⟨vs, ke b (List.mem_cons_of_mem _ (List.mem_of_getElem? e1)) _ q1, q2.mono (vw_more k1 np)⟩
  · have h2 := hS1.chgW (p := a) (ys := (bs ++ [p]).map V.ref) (List.mem_cons_of_mem _ (List.mem_append_left _ List.mem_cons_self)) (n.fr a List.mem_cons_self)
    refine h2.reW (W := (a :: (bs ++ [p])) ++ C0.W) fun b => ?_
    show b ∈ (a :: (bs ++ [p])) ++ C0.W ↔ b ∈ p :: ((a :: bs) ++ C0.W)
    simp only [List.mem_cons, List.mem_append, List.not_mem_nil, or_false]
    constructor
    · rintro ((q | q | q) | q)
      · exact .inr (.inl (.inl q))
      · exact .inr (.inl (.inr q))
      · exact .inl q
      · exact .inr (.inr q)
    · rintro (q | (q | q) | q)
      · exact .inl (.inr (.inr q))
      · exact .inl (.inl q)
      · exact .inl (.inr (.inl q))
      · exact .inr q
theorem dPush {i : Nat} {l e : Expr} {f : EvL} {p1 p2 : Pos} (hb : PE X (.Call (.Attribute l "append" p1) [e] [] p2) (tBM X.K "list" rAppend (tVar i) (tCons (wE X e) tNil))) (ha : DF X e f)
    (hs : swapsWith (.Call (.Attribute l "append" p1) [e] [] p2) none pos.line X.env = pure false := by rfl) :
    DS X (.Expr (.Call (.Attribute l "append" p1) [e] [] p2) pos) (sPush i f) := by
  refine .mk (ps_expr hb hs) fun C σ H S o D hS hf q => ?_
  unfold sPush at hf
  split at hf
  · cases hf
  · rename_i h0
    split at hf
    · rename_i yss ei
      obtain ⟨a, bs, h1, n, hM, own⟩ := hS.hideN ei h0
      obtain ⟨⟨zs, S1⟩, h2, hf⟩ := bind_some' hf
      dsimp only at hf
      split at hf
      · rename_i hl
        cases hf
        refine ⟨.ref a, h1, .inl ⟨rfl, _, SqL.of n.at_⟩, ha _ σ H _ zs S1 _ hM h2 fun p vs H1 np k1 hp hS1 r1 => ?_⟩
        obtain ⟨n2, h3⟩ := push_core n hM np k1 hp hS1 r1
        have n1 := n.kp k1
        refine ⟨a, bs.map V.ref, .ref p, rfl, rfl, n1.at_, by rw [List.length_map, n.len, sizeLine_eq]; omega, ?_⟩
        have e4 : bs.map V.ref ++ [V.ref p] = (bs ++ [p]).map V.ref := by rw [List.map_append]; rfl
        rw [e4]
        have own2 : ∀ b ∈ a :: (bs ++ [p]), b ∈ C.own ∨ H b = none := fun b hb => by
          rcases List.mem_cons.mp hb with z | z
          · exact .inl (own b (by rw [z]; exact List.mem_cons_self))
          · rcases List.mem_append.mp z with z | z
            · exact .inl (own b (List.mem_cons_of_mem _ z))
            · simp at z; rw [z]; exact .inr np
        have k2 : Kp C H (upd H1 a (.lst ((bs ++ [p]).map V.ref))) := fun b o hb hh => by
          rw [upd_ne (fun z => hb (by rw [z]; exact own a List.mem_cons_self))]
          exact (k1.back (C := C) fun b z => mw_own z) b o hb hh
        obtain ⟨s4, h4⟩ := shown (H := H) h3 n2 h1 h0 own2 k2
        exact q _ σ _ s4 h4
      · cases hf
    · cases hf
/-- x[k].append(e) -/
def sCel (i : Nat) (fk f : Ev) : EvSt := fun S => if i = 0 then none else match S[i]? with
  | some (.nst yss) => (do
    let (k, S1) ← fk (S.set i .no)
    let (d, S2) ← f S1
    match k with
    | .int j => (do
      let n ← ixN yss.length j
      let ys ← yss[n]?
      if ys.length < 100000 then some (.nx (S2.set i (.nst (yss.set n (ys ++ [d]))))) else none)
    | _ => none)
  | _ => none
theorem dCel {i : Nat} {l ix e : Expr} {fk f : Ev} {p0 p1 p2 : Pos} (hb : PE X (.Call (.Attribute (.Subscript l ix p0) "append" p1) [e] [] p2) (tBM X.K "list" rAppend (tOp (rIxA X.K) (tVar i) (wE X ix)) (tCons (wE X e) tNil))) (hk : DE X ix fk) (ha : DE X e f)
    (hs : swapsWith (.Call (.Attribute (.Subscript l ix p0) "append" p1) [e] [] p2) none pos.line X.env = pure false := by rfl) :
    DS X (.Expr (.Call (.Attribute (.Subscript l ix p0) "append" p1) [e] [] p2) pos) (sCel i fk f) := by
  refine .mk (ps_expr hb hs) fun C σ H S o D hS hf q => ?_
  unfold sCel at hf
  split at hf
  · cases hf
  · rename_i h0
    split at hf
    · rename_i yss ei
      obtain ⟨a, bs, h1, n, hM, own⟩ := hS.hideN ei h0
      obtain ⟨⟨k, S1⟩, h2, hf⟩ := bind_some' hf
      dsimp only at hf
      obtain ⟨⟨d, S2⟩, h3, hf⟩ := bind_some' hf
      dsimp only at hf
      have hk2 : ∃ jj, k = .int jj := by
        cases k with
        | int jj => exact ⟨jj, rfl⟩
        | _ => cases hf
      obtain ⟨jj, rfl⟩ := hk2
      dsimp only at hf
      · obtain ⟨m, h4, hf⟩ := bind_some' hf
        obtain ⟨ys, h5, hf⟩ := bind_some' hf
        split at hf
        · rename_i hl
          cases hf
          refine ⟨.ref a, h1, hk _ σ H _ _ S1 _ hM h2 fun v H1 k1 hS1 r1 => ?_⟩
          cases (show v = .int jj from r1)
          have n1 := n.kp k1
          have hm : m < bs.length := by rw [n.len]; exact (List.getElem?_eq_some_iff.mp h5).1
          have eb : bs[m]? = some bs[m] := List.getElem?_eq_getElem hm
          obtain ⟨vs, w1, w2⟩ := n1.cel m bs[m] ys eb h5
          refine .inl ⟨a, bs.map V.ref, jj, .ref bs[m], rfl, rfl, SqL.of n1.at_, ?_, .inl ⟨rfl, _, SqL.of w1⟩, ha _ σ H1 S1 d S2 _ hS1 h3 fun u H2 k2 hS2 r2 => ?_⟩
          · unfold L2.atI
            rw [List.length_map, n.len, h4]
            show (bs.map V.ref)[m]? = _
            rw [List.getElem?_map, eb]
            rfl
          · have n2 := n1.kp k2
            obtain ⟨vs2, w3, w4⟩ := n2.cel m bs[m] ys eb h5
            refine ⟨bs[m], vs2, u, rfl, rfl, w3, by rw [w4.length, sizeLine_eq]; omega, ?_⟩
            have hbm : bs[m] ∈ a :: bs := List.mem_cons_of_mem _ (List.getElem_mem hm)
            have n3 := n2.set eb (w4.append (.one r2))
            have h6 := hS2.chgW (p := bs[m]) (ys := vs2 ++ [u]) (List.mem_append_left _ hbm) (n.fr _ hbm)
            have k3 : Kp C H (upd H2 bs[m] (.lst (vs2 ++ [u]))) := fun b o hb hh => by
              rw [upd_ne (fun z => hb (by rw [z]; exact own _ hbm))]
              exact ((k1.trans k2).back (C := C) fun b z => mw_own z) b o hb hh
            obtain ⟨s4, h7⟩ := shown (H := H) h6 n3 h1 h0 (fun b hb => .inl (own b hb)) k3
            exact q _ σ _ s4 h7
        · cases hf
    · cases hf
end
end DK
namespace DK
open PySem PySem.Spec PyProof.Rows L2
section
variable {X : Cx} {K : PySem.W.Frag} {pos : Pos}
/-- the places k of the lists whose first item's mark is mk -/
def pickD (ms : List PD) (mk : PD) : Nat → List (List PD) → Option (List Nat)
  | _, [] => some []
  | k, ys :: r => (do
    let x ← atI ys 0
    let v ← gIx (.list ms) x
    let b ← gEq v mk
    let rest ← pickD ms mk (k + 1) r
    match b with
    | .bool true => some (k :: rest)
    | .bool false => some rest
    | _ => none)
theorem pickD_len {ms : List PD} {mk : PD} : ∀ {yss : List (List PD)} {k : Nat} {r : List Nat}, pickD ms mk k yss = some r → r.length ≤ yss.length ∧ ∀ x ∈ r, k ≤ x ∧ x < k + yss.length
  | [], k, r, h => by cases h; simp
  | ys :: rs, k, r, h => by
    unfold pickD at h
    obtain ⟨x, h1, h⟩ := bind_some' h
    obtain ⟨v, h2, h⟩ := bind_some' h
    obtain ⟨b, h3, h⟩ := bind_some' h
    obtain ⟨rest, h4, h⟩ := bind_some' h
    obtain ⟨q1, q2⟩ := pickD_len h4
    split at h
    · cases h
      refine ⟨by simp; exact q1, fun x hx => ?_⟩
      rcases List.mem_cons.mp hx with z | z
      · subst z; simp
      · have := q2 x z
        simp only [List.length_cons]
        omega
    · cases h
      refine ⟨by simp; omega, fun x hx => ?_⟩
      have := q2 x hx
      simp only [List.length_cons]
      omega
    · cases h
/-- same = [one for one in x if ms[one[0]] == ms[p]]; if len(same) > 0: same[0].append(p), else: x.append([p]) -/
def sSame (i j m p e : Nat) : EvSt := fun S =>
  if i = 0 ∨ i = j ∨ m = j ∨ p = j ∨ i = e ∨ m = e ∨ p = e ∨ isOn S[j]? = true ∨ isOn S[e]? = true ∨ ¬ (j < S.length ∧ e < S.length) then none else
  match S[i]?, S[m]?, S[p]? with
  | some (.nst yss), some (.sh (.list ms)), some (.sh (.int pl)) => if yss.length < 100000 then (do
    let mk ← gIx (.list ms) (.int pl)
    let ks ← pickD ms mk 0 yss
    match ks with
    | [] => some (.nx ((S.set j .no).set i (.nst (yss ++ [[.int pl]]))))
    | k :: _ => (do
      let ys ← yss[k]?
      if ys.length < 100000 then some (.nx ((S.set j .no).set i (.nst (yss.set k (ys ++ [.int pl]))))) else none)) else none
  | _, _, _ => none
abbrev rGtI : R2 := rI0 fun i j => .bl (decide (j < i))
abbrev rLenA (K : PySem.W.Frag) : List V → Hp → VK → Prop := fun xs H Q => ∃ p ys, xs = [.ref p] ∧ (SqL K H p ys ∨ SqT K H p ys) ∧ Q (.int ys.length) H
def tSame1 (K : PySem.W.Frag) (i j m p e : Nat) : TS := tAsg (tLc (iList K (tVar i)) (gName e) (tTest (tOp (rEqA K) (tOp (rIxA K) (tVar m) (tOp (rIxA K) (tVar e) (tC (.int 0)))) (tOp (rIxA K) (tVar m) (tVar p)))) (tVar e) [e]) (gName j)
def tSame2 (K : PySem.W.Frag) (i j m p e : Nat) : TS := tIfS (tTest (tOp rGtI (tCB (rLenA K) (tCons (tVar j) tNil)) (tC (.int 0))))
  (tDrop (tBM K "list" rAppend (tOp (rIxA K) (tVar j) (tC (.int 0))) (tCons (tVar p) tNil)))
  (tDrop (tBM K "list" rAppend (tVar i) (tCons (tLst (tCons (tVar p) tNil)) tNil)))
theorem rIx_list {H : Hp} {p : Addr} {xs : List V} {i : Int} {v : V} {Q : VK} (h : SqL K H p xs) (e : L2.atI xs i = some v) (q : Q v H) : rIxA K (.ref p) (.int i) H Q := .inl ⟨p, xs, i, v, rfl, rfl, h, e, q⟩
theorem hide_nil' {H : Hp} : hide [] H = H := by
  funext b
  unfold hide
  simp
theorem ev_same {i j m p e : Nat} : EvS K (tSeq (tSame1 K i j m p e) (tSame2 K i j m p e)) (sSame i j m p e) := fun C σ H S o D hS hf q => by
  unfold sSame at hf
  split at hf
  · cases hf
  · rename_i hn
    simp only [not_or, Bool.not_eq_true] at hn
    obtain ⟨h0, nij, nmj, npj, nie, nme, npe, onj, one, hln⟩ := hn
    simp only [Classical.not_not] at hln
    obtain ⟨jS, eS⟩ := hln
    rw [← hS.len] at jS eS
    split at hf
    · rename_i yss ms pl ei em ep
      split at hf
      · rename_i hlen
        obtain ⟨mk, h1, hf⟩ := bind_some' hf
        obtain ⟨ks, h2, hf⟩ := bind_some' hf
        obtain ⟨a, bs, ha, n, hM, own⟩ := hS.hideN ei h0
        obtain ⟨vm, hm1, hm2⟩ := hS.at_sh em
        obtain ⟨vp, hp1, hp2⟩ := hS.at_sh ep
        cases (show vp = .int pl from hp2)
        have hm3 : Rep K H (.list ms) vm := hm2.mono hide_le
        obtain ⟨am, us, rfl, hm4, hm5⟩ := hm3
        unfold gIx at h1
        dsimp only at h1
        obtain ⟨wp, hw1, hw2⟩ := hm5.atI h1
        have ba : ∀ b ∈ bs, b ∈ a :: bs := fun b hb => List.mem_cons_of_mem _ hb
        have noj : ∀ q ∈ C.O, q.1 ≠ j := fun q hq z => by
          rcases hS.own q hq with ⟨xs, w, _⟩ | ⟨xs, w⟩
          · rw [z] at w; rw [w] at onj; cases onj
          · rw [z] at w; rw [w] at onj; cases onj
        let cell : Nat → V := fun k => V.ref (bs.getD k 0)
        -- the comprehension
        refine ⟨.ref a, ha, a, rfl, ⟨_, SqL.of n.at_⟩, fun D0 nD => ?_⟩
        have sD := same_upd (o := HO.lst []) nD
        have fin : ∀ H', Same H H' → H' D0 = some (.lst (ks.map cell)) → tSame2 K i j m p e D (σ.set j (some (.ref D0))) H' := by
          intro H' sm hD0
          have hM' := (hM.same sm).putNo (i := j) (w := some (.ref D0)) fun q hq => noj q (mem_drop.mp hq).1
          have n' := n.kp (Kp.of sm)
          have hil : i < σ.length := (List.getElem?_eq_some_iff.mp ha).1
          have hjl : ∀ x, x ≠ j → (σ.set j (some (.ref D0)))[x]? = σ[x]? := fun x hx => List.getElem?_set_ne (Ne.symm hx)
          have hjj : j < σ.length → (σ.set j (some (.ref D0)))[j]? = some (some (.ref D0)) := fun h => List.getElem?_set_self h
          · have hjs := jS
            have e2 : (σ.set j (some (.ref D0)))[i]? = some (some (.ref a)) := by rw [hjl i nij]; exact ha
            have e3 : (σ.set j (some (.ref D0)))[p]? = some (some (.int pl)) := by rw [hjl p npj]; exact hp1
            refine ⟨.ref D0, hjj hjs, D0, ks.map cell, rfl, .inl (SqL.of hD0), _, _, rfl, rfl, _, rfl, ?_⟩
            rw [List.length_map]
            cases ks with
            | nil =>
              cases hf
              rw [if_neg (by simp)]
              refine ⟨.ref a, e2, .inl ⟨rfl, _, SqL.of n'.at_⟩, .int pl, e3, by show 1 ≤ _; rw [sizeLine_eq]; omega, fun P nP => ?_⟩
              have nM := hM'.new nP
              have hu := hM'.more (xs := [V.int pl]) nP
              obtain ⟨n2, h3⟩ := push_core (zs := [.int pl]) n' hM' nP (Kp.of (same_upd nP)) upd_same hu ⟨_, _, rfl, rfl, rfl⟩
              have n1 := n'.kp (Kp.of (same_upd (o := HO.lst [V.int pl]) nP))
              refine ⟨a, bs.map V.ref, .ref P, rfl, rfl, n1.at_, by rw [List.length_map, n.len, sizeLine_eq]; omega, ?_⟩
              have e4 : bs.map V.ref ++ [V.ref P] = (bs ++ [P]).map V.ref := by rw [List.map_append]; rfl
              rw [e4]
              have nP0 : H P = none := by
                cases hh : H P with
                | none => rfl
                | some o => rw [sm _ _ hh] at nP; cases nP
              have own2 : ∀ b ∈ a :: (bs ++ [P]), b ∈ C.own ∨ H b = none := fun b hb => by
                rcases List.mem_cons.mp hb with z | z
                · exact .inl (own b (by rw [z]; exact List.mem_cons_self))
                · rcases List.mem_append.mp z with z | z
                  · exact .inl (own b (List.mem_cons_of_mem _ z))
                  · simp at z; rw [z]; exact .inr nP0
              have k2 : Kp C H (upd (upd H' P (.lst [V.int pl])) a (.lst ((bs ++ [P]).map V.ref))) := fun b o hb hh => by
                rw [upd_ne (fun z => hb (by rw [z]; exact own a List.mem_cons_self))]
                exact same_upd nP _ _ (sm _ _ hh)
              obtain ⟨s4, h4⟩ := shown (H := H) h3 n2 e2 h0 own2 k2
              rw [List.set_comm _ _ nij, set_set] at h4
              exact q _ _ _ s4 h4
            | cons k kr =>
              dsimp only at hf
              obtain ⟨ys, h5, hf⟩ := bind_some' hf
              split at hf
              · rename_i hl
                cases hf
                rw [if_pos (by simp)]
                have hk : k < bs.length := by rw [n.len]; exact (List.getElem?_eq_some_iff.mp h5).1
                have eb : bs[k]? = some bs[k] := List.getElem?_eq_getElem hk
                have ec : cell k = V.ref bs[k] := by
                  show V.ref (bs.getD k 0) = _
                  rw [List.getD_eq_getElem?_getD, eb]
                  rfl
                obtain ⟨vs, w1, w2⟩ := n'.cel k bs[k] ys eb h5
                have hbm : bs[k] ∈ a :: bs := List.mem_cons_of_mem _ (List.getElem_mem hk)
                refine ⟨.ref D0, hjj hjs, rIx_list (v := V.ref bs[k]) (SqL.of hD0) (by rw [← ec]; exact L2.atI_nat (j := 0) (by rfl)) ⟨.inl ⟨rfl, _, SqL.of w1⟩, .int pl, e3, ?_⟩⟩
                refine ⟨bs[k], vs, .int pl, rfl, rfl, w1, by rw [w2.length, sizeLine_eq]; omega, ?_⟩
                have n3 := n'.set eb (w2.append (.one (d := .int pl) (v := .int pl) rfl))
                have h6 := hM'.chgW (p := bs[k]) (ys := vs ++ [V.int pl]) (List.mem_append_left _ hbm) (n.fr _ hbm)
                have k3 : Kp C H (upd H' bs[k] (.lst (vs ++ [V.int pl]))) := fun b o hb hh => by
                  rw [upd_ne (fun z => hb (by rw [z]; exact own _ hbm))]
                  exact sm _ _ hh
                obtain ⟨s4, h7⟩ := shown (H := H) h6 n3 e2 h0 (fun b hb => .inl (own b hb)) k3
                rw [List.set_comm _ _ nij, set_set] at h7
                exact q _ _ _ s4 h7
              · cases hf
        refine lc_list (xs := bs.map V.ref) (fun t H' => Same H H' ∧ ∃ acc rest, H' D0 = some (.lst (acc.map cell)) ∧ acc.length ≤ t ∧ pickD ms mk t (yss.drop t) = some rest ∧ ks = acc ++ rest)
          ⟨sD, [], ks, upd_same, Nat.le_refl _, h2, rfl⟩ (fun t H' _ z => SqL.of (z.1 _ _ n.at_)) (fun t x H' hx z => ?_) (fun H' z => ?_)
        · obtain ⟨sm, acc, rest, z1, z2, z3, z4⟩ := z
          have ht : t < bs.length := by
            have := (List.getElem?_eq_some_iff.mp hx).1
            simpa using this
          have hty : t < yss.length := by rw [← n.len]; exact ht
          have eb : bs[t]? = some bs[t] := List.getElem?_eq_getElem ht
          rw [List.getElem?_map, eb] at hx
          cases hx
          rw [List.drop_eq_getElem_cons hty] at z3
          unfold pickD at z3
          obtain ⟨x, y1, z5⟩ := bind_some' z3
          clear z3
          obtain ⟨v, y2, z6⟩ := bind_some' z5
          clear z5
          obtain ⟨b, y3, z7⟩ := bind_some' z6
          clear z6
          obtain ⟨rest', y4, z8⟩ := bind_some' z7
          clear z7
          obtain ⟨vs, w1, w2⟩ := n.cel t bs[t] yss[t] eb (List.getElem?_eq_getElem hty)
          obtain ⟨xv, x1, x2⟩ := w2.atI y1
          have hxi : ∃ ix, x = .int ix ∧ atI ms ix = some v := by
            unfold gIx at y2
            cases x with
            | int ix => exact ⟨ix, rfl, y2⟩
            | _ => cases y2
          obtain ⟨ix, rfl, y5⟩ := hxi
          cases (show xv = .int ix from x2)
          obtain ⟨vv, v1, v2⟩ := hm5.atI y5
          have hel : e < (L2.wipe σ [e]).length := by rw [wipe_length]; exact eS
          have wn : ∀ y, y ≠ e → ((L2.wipe σ [e]).set e (some (V.ref bs[t])))[y]? = σ[y]? := fun y hy => by
            rw [List.getElem?_set_ne (Ne.symm hy), wipe_get, if_neg (fun z => hy (by simpa using z.1))]
          have we : ((L2.wipe σ [e]).set e (some (V.ref bs[t])))[e]? = some (some (.ref bs[t])) := List.getElem?_set_self hel
          have m1 : ((L2.wipe σ [e]).set e (some (V.ref bs[t])))[m]? = some (some (.ref am)) := by rw [wn m nme]; exact hm1
          have p1 : ((L2.wipe σ [e]).set e (some (V.ref bs[t])))[p]? = some (some (.int pl)) := by rw [wn p npe]; exact hp1
          refine ⟨by rw [wipe_set (by simp)]; exact wipe_wipe, ?_⟩
          have sq : SqL K H' am us := SqL.of (sm _ _ hm4)
          refine ⟨.ref am, m1, .ref bs[t], we, rIx_list (SqL.of (sm _ _ w1)) x1 (rIx_list sq v1 ⟨.ref am, m1, .int pl, p1, rIx_list sq hw1 ?_⟩)⟩
          refine od_eq [] H' v mk b vv wp _ (by rw [hide_nil']; exact v2.mono sm) (by rw [hide_nil']; exact hw2.mono sm) y3 (fun _ _ => by simp) fun bv H3 sm3 rb => ?_
          split at z8
          · cases z8
            cases (show bv = .bl true from rb)
            refine ⟨true, rfl, ?_⟩
            dsimp only
            rw [if_pos rfl]
            have hal : acc.length < 100000 := by omega
            refine ⟨.ref bs[t], we, _, sm3 _ _ z1, by rw [List.length_map, sizeLine_eq]; omega, fun b o hh => ?_, acc ++ [t], rest', ?_, by simp; omega, y4, by rw [z4]; simp⟩
            · rw [upd_ne (ne_of_none hh nD)]
              exact sm3 _ _ (sm _ _ hh)
            · rw [upd_same, List.map_append]
              show _ = some (HO.lst (acc.map cell ++ [V.ref (bs.getD t 0)]))
              rw [List.getD_eq_getElem?_getD, eb]
              rfl
          · cases z8
            cases (show bv = .bl false from rb)
            refine ⟨false, rfl, ?_⟩
            dsimp only
            rw [if_neg Bool.false_ne_true]
            exact ⟨fun b o hh => sm3 _ _ (sm _ _ hh), acc, rest, sm3 _ _ z1, by omega, y4, z4⟩
          · cases z8
        · obtain ⟨sm, acc, rest, z1, z2, z3, z4⟩ := z
          rw [List.length_map, n.len, List.drop_length] at z3
          cases z3
          rw [List.append_nil] at z4
          subst z4
          exact fin H' sm z1
      · cases hf
    · cases hf
theorem dsSame {st1 st2 : Stmt} (i j m p e : Nat) (h1 : PS X st1 (tSame1 X.K i j m p e)) (h2 : PS X st2 (tSame2 X.K i j m p e)) : DSs X [st1, st2] (sSame i j m p e) := .mk (pss_cons h1 (pss_one h2)) ev_same
end
end DK
namespace DK
open PySem PySem.Spec PyProof.Rows L2
/-! ## sorted of lists of lists of ints -/
abbrev encR (b : V × List Int) : PD := .list (b.2.map PyData.int)
abbrev leR (p q : V × List Int) : Bool := decide (p.2 ≤ q.2)
def rSortedR (K : PySem.W.Frag) : List V → Hp → VK → Prop := fun vs H Q => ∃ (a : Addr) (ps : List (V × List Int)), vs = [V.ref a] ∧ SqL K H a (ps.map (·.1)) ∧ (∀ p ∈ ps, Dp K H p.1 (encR p)) ∧
  ∀ p : Addr, H p = none → Q (.ref p) (upd H p (.lst ((ps.mergeSort leR).map (·.1))))
theorem each_of_vals : ∀ {ps : List (V × List Int)} {its : List Value}, Vals (ps.map (·.1)) its → PySem.W.EachIs (fun v (b : V × List Int) => RelV b.1 v) its ps
  | [], its, h => by cases h; exact .nil
  | p :: ps, its, h => by
    cases h with
    | cons h1 h2 => exact .cons h1 (each_of_vals h2)
theorem vals_of_each : ∀ {its : List Value} {ps : List (V × List Int)}, PySem.W.EachIs (fun v (b : V × List Int) => RelV b.1 v) its ps → Vals (ps.map (·.1)) its
  | _, _, .nil => .nil
  | _, _, .cons h t => .cons h (vals_of_each t)
theorem each_reads {X : Cx} {pins : List (Addr × Obj)} {s : Shared} {σ : Sg} {H : Hp} (I : Inv X pins σ H s) : ∀ {its : List Value} {ps : List (V × List Int)}, (∀ p ∈ ps, Dp X.K H p.1 (encR p)) → PySem.W.EachIs (fun v (b : V × List Int) => RelV b.1 v) its ps → PySem.W.EachIs (fun v b => ∃ as, Reads s.heap v (encR b) as) its ps
  | _, _, _, .nil => .nil
  | _, _, hd, .cons h t => .cons (Dp.reads I _ _ _ (hd _ List.mem_cons_self) h) (each_reads I (fun p hp => hd p (List.mem_cons_of_mem _ hp)) t)
theorem depth_row (ns : List Int) : (PyData.list (ns.map PyData.int)).depth ≤ 1 := by
  show PyData.depthAll _ + 1 ≤ 1
  have : PyData.depthAll (ns.map PyData.int) = 0 := PySem.W.depth_ints ns
  omega
theorem cr_sortedR {X : Cx} (hu : X.A.units + 64 < cLine) : CallR X (.builtin "sorted") (rSortedR X.K) := by
  intro pins s σ H vs us Q I r h
  obtain ⟨a, ps, rfl, hs, hd, q⟩ := h
  obtain ⟨its, rv, hl, hz⟩ := I.list hs
  rw [Vals.ref1 r]
  have e := each_of_vals rv
  have er := each_reads I hd e
  have hz' : ps.length ≤ sizeLine := by rw [List.length_map] at hz; exact hz
  refine PySem.W.sorted_data (enc := encR) hl.isList e er (PySem.W.AllAlike.of fun b b' => ?_) (PySem.W.Sortable.others fun b => ⟨nofun, nofun⟩) hz' (fun b _ => ?_) fun out hlen ho => ?_
  · show PySem.W.alikeAll _ _ = true
    exact PySem.W.alike_ints _ _
  · have := depth_row b.2
    show X.A.units + 2 + (PyData.list (b.2.map PyData.int)).depth < cLine
    omega
  · rw [PySem.W.dataLe_rows (fun b : V × List Int => b.2)] at ho
    have hv := vals_of_each ho
    obtain ⟨ep, he'⟩ := PyProof.Rows.sortedAll_at s.heap its out.toArray
    have hlen2 : ((ps.mergeSort leR).map (·.1)).length ≤ sizeLine := by
      rw [List.length_map, List.length_mergeSort]
      exact hz'
    exact ⟨.ref _, upd H (s.heap.objs.size + 1) (.lst ((ps.mergeSort leR).map (·.1))), I.laid (t' := s.toks) (fun _ _ => PyProof.Rows.sortedAll_old) (Nat.le_succ _) ⟨hlen2, out, ep, hv, he'⟩, rfl, q _ (I.hok.fresh (Nat.le_succ _))⟩
/-! as a function on data -/
def rowsOf : List PD → Option (List (List Int))
  | [] => some []
  | .list xs :: r => (match intsOf xs with
    | some ns => (rowsOf r).map (ns :: ·)
    | none => none)
  | _ => none
def leI (x y : List Int) : Bool := decide (x ≤ y)
def srtR (rs : List (List Int)) : List (List Int) := rs.mergeSort leI
def encRow (ns : List Int) : PD := .list (ns.map PyData.int)
theorem rowsOf_eq : ∀ {ds : List PD} {rs : List (List Int)}, rowsOf ds = some rs → ds = rs.map encRow
  | [], rs, h => by cases h; rfl
  | d :: ds, rs, h => by
    unfold rowsOf at h
    split at h
    · rename_i h1; cases h1
    · rename_i xs r h1
      cases h1
      split at h
      · rename_i ns hns
        cases e : rowsOf ds with
        | none => rw [e] at h; cases h
        | some q =>
          rw [e] at h
          cases h
          rw [rowsOf_eq e]
          have := (intsOf_rep (K := []) (H := fun _ => none) (ds := xs) (vs := []) (ns := ns))
          have hx : ∀ {xs : List PD} {ns : List Int}, intsOf xs = some ns → xs = ns.map PyData.int := by
            intro xs
            induction xs with
            | nil => intro ns h; cases h; rfl
            | cons x r ih =>
              intro ns h
              cases x with
              | int i =>
                cases e2 : intsOf r with
                | none => unfold intsOf at h; rw [e2] at h; cases h
                | some ms =>
                  unfold intsOf at h
                  rw [e2] at h
                  cases h
                  rw [ih e2]
                  rfl
              | _ => cases h
          rw [hx hns]
          rfl
      · cases h
    · cases h
def gSortedA : List PD → Option (List PD)
  | [.list xs] => (match intsOf xs with
    | some ns => some ((srt ns).map PyData.int)
    | none => (rowsOf xs).map fun rs => (srtR rs).map encRow)
  | _ => none
abbrev rSortedA (K : PySem.W.Frag) : List V → Hp → VK → Prop := fun vs H Q => rSortedI K vs H Q ∨ rSortedR K vs H Q
theorem cr_sortedA {X : Cx} (hu : X.A.units + 64 < cLine) : CallR X (.builtin "sorted") (rSortedA X.K) := fun pins s σ H vs us Q I r h => h.elim (cr_sortedI pins s σ H vs us Q I r) (cr_sortedR hu pins s σ H vs us Q I r)
theorem cf_sortedA {K : PySem.W.Frag} : CallF K (rSortedA K) gSortedA := fun O H ds ys xs Q ra hg fr q => by
  unfold gSortedA at hg
  split at hg
  · rename_i zs
    split at hg
    · rename_i ns hns
      refine .inl (cf_sorted O H [.list zs] ys xs Q ra ?_ fr q)
      show (intsOf zs).map _ = _
      rw [hns]
      exact hg
    · cases e : rowsOf zs with
      | none => rw [e] at hg; cases hg
      | some rs =>
        rw [e] at hg
        cases hg
        obtain ⟨v, rfl, r⟩ := rep1 ra
        obtain ⟨a, vs, rfl, na, h1, h2⟩ := hp_lst r
        rw [rowsOf_eq e] at h2
        have hl : vs.length = rs.length := by rw [h2.length, List.length_map]
        have m1 : (vs.zip rs).map (·.1) = vs := List.map_fst_zip (by omega)
        have m2 : (vs.zip rs).map (·.2) = rs := List.map_snd_zip (by omega)
        have hp : ∀ p ∈ vs.zip rs, Rep K (hide O H) (encRow p.2) p.1 := fun p hp => by
          obtain ⟨i, hi⟩ := List.mem_iff_getElem?.mp hp
          obtain ⟨z1, z2⟩ := List.getElem?_zip_eq_some.mp hi
          obtain ⟨d, w1, w2⟩ := h2.get z1
          rw [List.getElem?_map, z2] at w1
          cases w1
          exact w2
        refine .inr ⟨a, vs.zip rs, rfl, by rw [m1]; exact SqL.of h1, fun p hp' => ((hp p hp').mono hide_le).dp, fun p np => q p _ np ?_⟩
        have em : ((vs.zip rs).mergeSort leR).map (·.2) = srtR rs := by
          have := List.map_mergeSort (r := leR) (s := leI) (f := fun p : V × List Int => p.2) (l := vs.zip rs) (fun a _ b _ => rfl)
          rw [this, m2]
          rfl
        show RepL K (hide O H) ((srtR rs).map encRow) _
        rw [← em, List.map_map]
        have key : ∀ l : List (V × List Int), (∀ p ∈ l, Rep K (hide O H) (encRow p.2) p.1) → RepL K (hide O H) (l.map (encRow ∘ fun x => x.2)) (l.map fun x => x.1) := by
          intro l
          induction l with
          | nil => intro _; exact rfl
          | cons p l ih => intro h; exact ⟨_, _, rfl, h p List.mem_cons_self, ih fun q hq => h q (List.mem_cons_of_mem _ hq)⟩
        exact key _ fun p hp' => hp p ((List.mergeSort_perm _ _).mem_iff.mp hp')
  · cases hg
end DK
namespace DK
open PySem PySem.Spec PyProof.Rows L2
/-! ## xs[lo:hi:k], k a written number -/
def pickL {α : Type} (xs : List α) (lo hi st : Option Int) : List α :=
  (sliceRange (sliceBounds lo hi st xs.length).1 (sliceBounds lo hi st xs.length).2.1 (sliceBounds lo hi st xs.length).2.2).filterMap (xs[·]?)
def tSlK (K : PySem.W.Frag) (te : TE) (tl th : TO) (k : Int) : TE := fun σ H Q => te σ H fun x H1 => ∃ a xs, x = .ref a ∧ SqL K H1 a xs ∧ xs.length ≤ 100000 ∧ tl σ H1 fun lo H2 => th σ H2 fun hi H3 => SqL K H3 a xs ∧ (pickL xs lo hi (some k)).length ≤ 100000 ∧
  ∀ p, H3 p = none → Q (.ref p) (upd H3 p (.lst (pickL xs lo hi (some k))))
theorem Vals.get {xs : List V} {us : List Value} (h : Vals xs us) : ∀ i : Nat, (xs[i]? = none ∧ us[i]? = none) ∨ ∃ x u, xs[i]? = some x ∧ us[i]? = some u ∧ RelV x u := by
  induction h with
  | nil => intro i; exact .inl (by simp)
  | cons h1 h2 ih =>
    intro i
    cases i with
    | zero => exact .inr ⟨_, _, rfl, rfl, h1⟩
    | succ i => simpa using ih i
theorem Vals.pick {xs : List V} {us : List Value} (h : Vals xs us) : ∀ l : List Nat, Vals (l.filterMap (xs[·]?)) (l.filterMap (us[·]?))
  | [] => .nil
  | i :: l => by
    rcases Vals.get h i with ⟨h1, h2⟩ | ⟨x, u, h1, h2, h3⟩
    · rw [List.filterMap_cons_none h1, List.filterMap_cons_none h2]; exact Vals.pick h l
    · rw [List.filterMap_cons_some h1, List.filterMap_cons_some h2]; exact .cons h3 (Vals.pick h l)
section
variable {X : Cx} {K : PySem.W.Frag}
theorem pe_slK {e : Expr} {te : TE} {lo hi : Option Expr} {tl th : TO} {k : Int} {j : Nat} {p2 p3 pos : Pos} (he : PE X e te) (hl : PO X lo tl) (hh : PO X hi th) (h0 : (some k : Option Int) ≠ some 0)
    (hs : ∀ o i, subscripted (.Slice lo hi (some (.Constant (.int k) j p2)) p3) false o i = operate [o, i] (getItem o i) := by with_unfolding_all (intros; rfl)) :
    PE X (.Subscript e (.Slice lo hi (some (.Constant (.int k) j p2)) p3) pos) (tSlK X.K te tl th k) := by
  refine ⟨fun pins s σ H Q I h => ?_⟩
  refine Subscript_ (thn (he.run pins s σ H _ I h) fun v s1 ⟨x, H1, I1, r1, q1⟩ => ?_)
  obtain ⟨a, xs, ex, hx, hn, q⟩ := q1
  subst ex
  cases r1
  have hst : PO X (some (.Constant (.int k) j p2)) (tPart (tC (.int k))) := po_some pe_int
  refine wpAny_Slice (thn (hl.run pins s1 σ H1 _ I1 q) fun vl s2 ⟨l, H2, I2, pl, q2⟩ => ?_)
  refine thn (hh.run pins s2 σ H2 _ I2 q2) fun vu s3 ⟨u, H3, I3, pu, q3⟩ => ?_
  refine thn (hst.run pins s3 σ H3 (fun o H4 => o = some k ∧ H4 = H3) I3 ⟨k, rfl, rfl, rfl⟩) fun vs s4 ⟨o, H4, I4, ps, eo, e4⟩ => ?_
  subst eo e4
  obtain ⟨hx3, hz3, q⟩ := q3
  have I5 : Inv X pins σ H4 { s4 with heap := s4.heap.push { cls := .type "slice", data := .fields #[vl, vu, vs] } } := I4.kept (t' := s4.toks) fun b ob q => Heap.get?_push_of_some _ q
  obtain ⟨its, r, ht, hz⟩ := I5.list hx3
  have hlen := r.length
  show wpAny (model X.prog X.w) X.A (subscriptTail e (.Slice lo hi (some (.Constant (.int k) j p2)) p3) (.ref a) (.ref s4.heap.objs.size)) (EP X pins σ Q) X.xe { s4 with heap := s4.heap.push { cls := .type "slice", data := .fields #[vl, vu, vs] } }
  refine tail_any (ops := [.ref a, .ref s4.heap.objs.size]) ht.isList.typeIs (PySem.slot_list_getitem.lookup) ?_ (hs _ _)
  refine wpAny_getItem_list_slice ht.isList (Heap.IsSliceOf.new _ vl vu vs) pl pu ps h0 ?_ (by rw [List.size_toArray]; omega)
  have ep : slicePick its.toArray l u (some k) = ((sliceRange (sliceBounds l u (some k) xs.length).1 (sliceBounds l u (some k) xs.length).2.1 (sliceBounds l u (some k) xs.length).2.2).filterMap (its[·]?)).toArray := by
    unfold slicePick
    rw [List.size_toArray, ← hlen]
    simp only [List.getElem?_toArray]
  rw [ep]
  refine ⟨.ref _, _, I5.laid (t' := s4.toks) (o := .lst (pickL xs l u (some k))) (fun b ob q => Heap.get?_push_of_some _ q) (Nat.le_refl _) ?_, rfl, q _ (I5.hok.fresh (Nat.le_refl _))⟩
  exact ⟨size_of hz3, _, 0, Vals.pick r _, Heap.get?_push_size _ rfl⟩
theorem RepL.pick {H : Hp} {ds : List PD} {vs : List V} (r : RepL K H ds vs) : ∀ l : List Nat, RepL K H (l.filterMap (ds[·]?)) (l.filterMap (vs[·]?))
  | [] => rfl
  | i :: l => by
    cases h : vs[i]? with
    | none =>
      have h' : ds[i]? = none := by
        rw [List.getElem?_eq_none_iff] at h ⊢
        rw [← r.length]
        exact h
      rw [List.filterMap_cons_none h, List.filterMap_cons_none h']; exact RepL.pick r l
    | some v =>
      obtain ⟨d, h1, h2⟩ := r.get h
      rw [List.filterMap_cons_some h, List.filterMap_cons_some h1]
      exact ⟨_, _, rfl, h2, RepL.pick r l⟩
def fSlK (f : Ev) (g h : EvO) (k : Int) : EvL := fun S => do
  let (d, S1) ← f S
  let (lo, S2) ← g S1
  let (hi, S3) ← h S2
  match d with
  | .list xs => if xs.length ≤ 100000 ∧ (pickL xs lo hi (some k)).length ≤ 100000 then some (pickL xs lo hi (some k), S3) else none
  | _ => none
theorem dSlK {e : Expr} {lo hi : Option Expr} {f : Ev} {g h : EvO} {k : Int} {j : Nat} {p2 p3 pos : Pos} (he : DE X e f) (hl : DO X lo g) (hh : DO X hi h) (h0 : (some k : Option Int) ≠ some 0 := by decide)
    (hs : ∀ o i, subscripted (.Slice lo hi (some (.Constant (.int k) j p2)) p3) false o i = operate [o, i] (getItem o i) := by with_unfolding_all (intros; rfl)) :
    DF X (.Subscript e (.Slice lo hi (some (.Constant (.int k) j p2)) p3) pos) (fSlK f g h k) := by
  obtain ⟨tl, pl, kl⟩ := hl.ok
  obtain ⟨th, ph, kh⟩ := hh.ok
  refine .mk (pe_slK pe_w pl ph h0 hs) fun C σ H S xs S' Q hS hf q => ?_
  unfold fSlK at hf
  obtain ⟨⟨d, S1⟩, h1, hf⟩ := bind_some' hf
  obtain ⟨⟨l, S2⟩, h2, hf⟩ := bind_some' hf
  obtain ⟨⟨u, S3⟩, h3, hf⟩ := bind_some' hf
  have hd : ∃ xs, d = .list xs := by
    cases d with
    | list xs => exact ⟨xs, rfl⟩
    | _ => cases hf
  obtain ⟨zs, rfl⟩ := hd
  dsimp only at hf
  split at hf
  · rename_i hb
    cases hf
    refine he C σ H S _ S1 _ hS h1 fun v H1 k1 hS1 r1 => ?_
    obtain ⟨a, vs, rfl, na, a1, a2⟩ := hp_lst r1
    have hvl : vs.length = zs.length := a2.length
    refine ⟨a, vs, rfl, SqL.of a1, by rw [hvl]; exact hb.1, kl C σ H1 S1 l S2 _ hS1 h2 fun H2 k2 hS2 => kh C σ H2 S2 u _ _ hS2 h3 fun H3 k3 hS3 => ?_⟩
    have r3 : Rep X.K (hide C.hid H3) (.list zs) (.ref a) := (r1.mono k2.vw).mono k3.vw
    obtain ⟨a', vs', e', na', a3, a4⟩ := hp_lst r3
    cases e'
    have ev : vs' = vs := by
      have q1 := k3.vw _ _ (k2.vw _ _ (hide_some.mpr ⟨na, a1⟩))
      have q2 := (hide_some.mp q1).2
      rw [a3] at q2
      cases q2
      rfl
    subst ev
    have ep : pickL vs' l u (some k) = (sliceRange (sliceBounds l u (some k) zs.length).1 (sliceBounds l u (some k) zs.length).2.1 (sliceBounds l u (some k) zs.length).2.2).filterMap (vs'[·]?) := by
      unfold pickL
      rw [hvl]
    have rp : RepL X.K (hide C.hid H3) (pickL zs l u (some k)) (pickL vs' l u (some k)) := by
      rw [ep]
      exact RepL.pick a4 _
    refine ⟨SqL.of a3, by rw [rp.length]; exact hb.2, fun p np => ?_⟩
    exact new_list ((k1.trans k2).trans k3) hS3 rp q p np
  · cases hf
end
end DK
namespace DK
open PySem PySem.Spec PyProof.Rows L2
section
variable {X : Cx} {K : PySem.W.Frag}
theorem compL_len {vs : List Nat} {tgt : PD → Stt → Option Stt} {cond : EvB} {elt : Ev} : ∀ {ds : List PD} {S S' : Stt} {acc ys : List PD}, compL vs tgt cond elt ds S acc = some (ys, S') → acc.length ≤ ys.length
  | [], S, S', acc, ys, h => by cases h; exact Nat.le_refl _
  | d :: ds, S, S', acc, ys, h => by
    unfold compL at h
    split at h
    · cases h
    · split at h
      · cases h
      · split at h
        · cases h
        · have := compL_len h; simp at this; omega
      · exact compL_len h
def compL2 (vs : List Nat) (tgt : PD → Stt → Option Stt) (cond : EvB) (items1 : EvL) (vs1 : List Nat) (tgt1 : PD → Stt → Option Stt) (cond1 : EvB) (elt : Ev) : List PD → Stt → List PD → Option (List PD × Stt)
  | [], S, acc => some (acc, S)
  | d :: ds, S, acc => match tgt d S with
    | none => none
    | some S1 => match cond S1 with
      | none => none
      | some (false, S2) => compL2 vs tgt cond items1 vs1 tgt1 cond1 elt ds (wipeS S2 vs) acc
      | some (true, S2) => match items1 S2 with
        | none => none
        | some (es, S3) => match compL vs1 tgt1 cond1 elt es (wipeS S3 vs1) acc with
          | none => none
          | some (acc', S4) => if acc'.length ≤ 100000 then compL2 vs tgt cond items1 vs1 tgt1 cond1 elt ds (wipeS S4 vs) acc' else none
def fLc2 (items : EvL) (vs : List Nat) (tgt : PD → Stt → Option Stt) (cond : EvB) (items1 : EvL) (vs1 : List Nat) (tgt1 : PD → Stt → Option Stt) (cond1 : EvB) (elt : Ev) : EvL := fun S => do
  let (ds, S1) ← items S
  if noOw S1 vs then (do
    let (ys, S2) ← compL2 vs tgt cond items1 vs1 tgt1 cond1 elt ds (wipeS S1 vs) []
    some (ys, unw S1 S2 vs)) else none
theorem wipe_sub {σ σ' : Sg} {vs vs1 : List Nat} (h : ∀ i ∈ vs1, i ∈ vs) : L2.wipe (L2.wipe σ vs1) vs = L2.wipe σ vs := by
  refine List.ext_getElem? fun j => ?_
  rw [wipe_get, wipe_get, wipe_length, wipe_get]
  by_cases h1 : j ∈ vs ∧ j < σ.length
  · rw [if_pos h1, if_pos h1]
  · rw [if_neg h1, if_neg h1, if_neg fun z => h1 ⟨h j z.1, z.2⟩]
theorem ev_lc2 {w w1 : TI} {g g1 : TG} {tt tt1 : TT} {te : TE} {vs vs1 : List Nat} {items items1 : EvL} {tgt tgt1 : PD → Stt → Option Stt} {cond cond1 : EvB} {elt : Ev} (hi : EvI K w items) (hg : EvG K g vs tgt) (ht : EvT K tt cond)
    (hi1 : EvI K w1 items1) (hg1 : EvG K g1 vs1 tgt1) (ht1 : EvT K tt1 cond1) (he : EvE K te elt) (hv : ∀ i ∈ vs1, i ∈ vs) :
    EvF K (tLc2 w g tt w1 g1 tt1 te vs vs1) (fLc2 items vs tgt cond items1 vs1 tgt1 cond1 elt) := fun C σ H S xs S' Q hS hf q => by
  unfold fLc2 at hf
  obtain ⟨⟨ds, S1⟩, h1, hf⟩ := bind_some' hf
  dsimp only at hf
  split at hf
  · rename_i no1
    obtain ⟨⟨ys, S2⟩, h2, hf⟩ := bind_some' hf
    cases hf
    refine hi C σ H S ds S1 _ hS h1 fun J H1 k1 hS1 it => ?_
    intro D nD
    have sD := same_upd (o := HO.lst []) nD
    have nDh : D ∉ C.hid := hS1.new nD
    have nDo : D ∉ (C.more D).own := fun z => nDh (own_hid (C := C) z)
    have h0 : C.H0 D = none := H0_none hS1 nD
    have noO := hS1.noO no1
    have noO1 : ∀ p ∈ C.O, p.1 ∉ vs1 := fun p hp z => noO p hp (hv _ z)
    have nOD : ∀ p ∈ C.O, p.2 ≠ D := fun p hp z => nDh (by rw [← z]; exact Hold.in_hid hp)
    have start : Hold K (C.more D) (L2.wipe σ vs) (upd H1 D (.lst [])) (wipeS S1 vs) := (hS1.more nD).wipe (σ := σ) noO rfl
    have vwD : Same (hide C.hid H1) (hide (C.more D).hid (upd H1 D (.lst []))) := vw_more (Kp.of sD) nD
    refine ⟨fun i m H' => m = ds.length - i ∧ i ≤ ds.length ∧ ∃ Si acc avs, Kp C H1 H' ∧ Same (hide C.hid H1) (hide (C.more D).hid H') ∧ Hold K (C.more D) (L2.wipe σ vs) H' Si ∧ H' D = some (.lst avs) ∧ RepL K (hide (C.more D).hid H') acc avs ∧ compL2 vs tgt cond items1 vs1 tgt1 cond1 elt (ds.drop i) Si acc = some (ys, S2),
      ⟨ds.length, by omega, Nat.zero_le _, wipeS S1 vs, [], [], .of sD, vwD, start, upd_same, rfl, by simpa using h2⟩, ?_⟩
    rintro i m H' ⟨rfl, hi', Si, acc, avs, kH, vH, hSi, hD, ra, hl⟩
    obtain ⟨go, stop, yld⟩ := it H' (C.more D).hid vH fun p np => hSi.new np
    by_cases hlt : i < ds.length
    · refine .inr ⟨go i hlt, fun H2 => ∃ Si acc avs, Kp C H1 H2 ∧ Same (hide C.hid H1) (hide (C.more D).hid H2) ∧ Hold K (C.more D) (L2.wipe σ vs) H2 Si ∧ H2 D = some (.lst avs) ∧ RepL K (hide (C.more D).hid H2) acc avs ∧ compL2 vs tgt cond items1 vs1 tgt1 cond1 elt (ds.drop (i + 1)) Si acc = some (ys, S2),
        fun H2 h => ⟨ds.length - (i + 1), by omega, rfl, by omega, h⟩, fun x H2 hy => ?_⟩
      obtain ⟨sm, rx⟩ := yld i ds[i] x H2 (List.getElem?_eq_getElem hlt) hy
      have hS2 := hSi.same sm
      rw [List.drop_eq_getElem_cons hlt] at hl
      unfold compL2 at hl
      cases e1 : tgt ds[i] Si with
      | none => rw [e1] at hl; cases hl
      | some S3 =>
        rw [e1] at hl
        dsimp only at hl
        refine hg (C.more D) _ H2 Si ds[i] x S3 _ hS2 noO rx e1 fun σ3 hS3 ew => ?_
        rw [wipe_wipe] at ew
        refine ⟨ew, ?_⟩
        cases e2 : cond S3 with
        | none => rw [e2] at hl; cases hl
        | some p =>
          obtain ⟨b, S4⟩ := p
          rw [e2] at hl
          refine ht (C.more D) σ3 H2 S3 b S4 _ hS3 e2 fun H4 k4 hS4 => ?_
          have hD4 : H4 D = some (.lst avs) := k4 D _ nDo (sm _ _ hD)
          have kH4 : Kp C H1 H4 := (kH.trans (Kp.of sm)).trans k4
          have vw4 : Same (hide (C.more D).hid H') (hide (C.more D).hid H4) := (Kp.of (C := C.more D) sm).vw.trans k4.vw
          cases b with
          | false =>
            rw [if_neg Bool.false_ne_true]
            exact ⟨_, acc, avs, kH4, vH.trans vw4, hS4.wipe noO ew, hD4, ra.mono vw4, hl⟩
          | true =>
            rw [if_pos rfl]
            dsimp only at hl
            cases e3 : items1 S4 with
            | none => rw [e3] at hl; cases hl
            | some p5 =>
              obtain ⟨es, S5⟩ := p5
              rw [e3] at hl
              dsimp only at hl
              cases e4 : compL vs1 tgt1 cond1 elt es (wipeS S5 vs1) acc with
              | none => rw [e4] at hl; cases hl
              | some p6 =>
                obtain ⟨acc2, S6⟩ := p6
                rw [e4] at hl
                dsimp only at hl
                split at hl
                · rename_i hb
                  refine hi1 (C.more D) σ3 H4 S4 es S5 _ hS4 e3 fun J1 H5 k5 hS5 it1 => ?_
                  have hD5 : H5 D = some (.lst avs) := k5 D _ nDo hD4
                  have vw5 : Same (hide (C.more D).hid H') (hide (C.more D).hid H5) := vw4.trans k5.vw
                  have st1 : Hold K (C.more D) (L2.wipe σ3 vs1) H5 (wipeS S5 vs1) := hS5.wipe (σ := σ3) noO1 rfl
                  have ew2 : L2.wipe (L2.wipe σ3 vs1) vs = L2.wipe σ vs := by rw [wipe_sub (σ' := σ) hv]; exact ew
                  refine ⟨fun j k H6 => k = es.length - j ∧ j ≤ es.length ∧ ∃ Sj ac bvs, Kp C H1 H6 ∧ Same (hide (C.more D).hid H5) (hide (C.more D).hid H6) ∧ Hold K (C.more D) (L2.wipe σ3 vs1) H6 Sj ∧ H6 D = some (.lst bvs) ∧ RepL K (hide (C.more D).hid H6) ac bvs ∧ compL vs1 tgt1 cond1 elt (es.drop j) Sj ac = some (acc2, S6),
                    ⟨es.length, by omega, Nat.zero_le _, wipeS S5 vs1, acc, avs, kH4.trans k5, Same.refl _, st1, hD5, ra.mono vw5, by simpa using e4⟩, ?_⟩
                  rintro j k H6 ⟨rfl, hj', Sj, ac, bvs, kH6, v56, hSj, hD6, rb, hm⟩
                  obtain ⟨go1, stop1, yld1⟩ := it1 H6 (C.more D).hid v56 fun p np => hSj.new np
                  by_cases hlj : j < es.length
                  · refine .inr ⟨go1 j hlj, fun H7 => ∃ Sj ac bvs, Kp C H1 H7 ∧ Same (hide (C.more D).hid H5) (hide (C.more D).hid H7) ∧ Hold K (C.more D) (L2.wipe σ3 vs1) H7 Sj ∧ H7 D = some (.lst bvs) ∧ RepL K (hide (C.more D).hid H7) ac bvs ∧ compL vs1 tgt1 cond1 elt (es.drop (j + 1)) Sj ac = some (acc2, S6),
                      fun H7 h => ⟨es.length - (j + 1), by omega, rfl, by omega, h⟩, fun y H7 hy1 => ?_⟩
                    obtain ⟨sm7, ry⟩ := yld1 j es[j] y H7 (List.getElem?_eq_getElem hlj) hy1
                    have hS7 := hSj.same sm7
                    rw [List.drop_eq_getElem_cons hlj] at hm
                    unfold compL at hm
                    cases f1 : tgt1 es[j] Sj with
                    | none => rw [f1] at hm; cases hm
                    | some S7 =>
                      rw [f1] at hm
                      dsimp only at hm
                      refine hg1 (C.more D) _ H7 Sj es[j] y S7 _ hS7 noO1 ry f1 fun σ7 hS8 ew7 => ?_
                      rw [wipe_wipe] at ew7
                      refine ⟨ew7, ?_⟩
                      cases f2 : cond1 S7 with
                      | none => rw [f2] at hm; cases hm
                      | some p8 =>
                        obtain ⟨b1, S8⟩ := p8
                        rw [f2] at hm
                        refine ht1 (C.more D) σ7 H7 S7 b1 S8 _ hS8 f2 fun H8 k8 hS9 => ?_
                        have hD8 : H8 D = some (.lst bvs) := k8 D _ nDo (sm7 _ _ hD6)
                        have kH8 : Kp C H1 H8 := (kH6.trans (Kp.of sm7)).trans k8
                        have vw8 : Same (hide (C.more D).hid H6) (hide (C.more D).hid H8) := (Kp.of (C := C.more D) sm7).vw.trans k8.vw
                        cases b1 with
                        | false =>
                          rw [if_neg Bool.false_ne_true]
                          exact ⟨_, ac, bvs, kH8, v56.trans vw8, hS9.wipe noO1 ew7, hD8, rb.mono vw8, hm⟩
                        | true =>
                          rw [if_pos rfl]
                          dsimp only at hm
                          cases f3 : elt S8 with
                          | none => rw [f3] at hm; cases hm
                          | some p9 =>
                            obtain ⟨z, S9⟩ := p9
                            rw [f3] at hm
                            refine he (C.more D) σ7 H8 S8 z S9 _ hS9 f3 fun v H9 k9 hSA r9 => ?_
                            have hD9 : H9 D = some (.lst bvs) := k9 D _ nDo hD8
                            have vw9 : Same (hide (C.more D).hid H6) (hide (C.more D).hid H9) := vw8.trans k9.vw
                            have hlen := compL_len hm
                            rw [List.length_append] at hlen
                            simp only [List.length_cons, List.length_nil] at hlen
                            refine ⟨bvs, hD9, by rw [rb.length, sizeLine_eq]; omega, _, ac ++ [z], bvs ++ [v], fun b o hb hh => ?_, (v56.trans vw9).trans vw_chg, (hSA.chg hD9 nOD h0).wipe noO1 ew7, upd_same, ((rb.mono vw9).append (.one r9)).mono vw_chg, hm⟩
                            rw [upd_ne (fun z => by rw [z, nD] at hh; cases hh)]
                            exact (kH8.trans k9) b o hb hh
                  · refine .inl ⟨stop1 j (by omega), ?_⟩
                    rw [List.drop_eq_nil_of_le (by omega)] at hm
                    cases hm
                    exact ⟨_, _, bvs, kH6, (vH.trans vw5).trans v56, hSj.wipe noO ew2, hD6, rb, hl⟩
                · cases hl
    · refine .inl ⟨stop i (by omega), ?_⟩
      rw [List.drop_eq_nil_of_le (by omega)] at hl
      cases hl
      exact q D avs H' (free_of' k1 hS1 nD) (k1.trans kH) hD (hS1.unw no1 hSi rfl vH) ra
  · cases hf
variable {tg tg1 elt iter iter1 : Expr} {ifs ifs1 : List Expr} {scope : Scope} {own : List (Str × Nat)} {pos : Pos} {vs1 : List Nat} {items items1 : EvL} {tgt tgt1 : PD → Stt → Option Stt} {cond cond1 : EvB} {el : Ev}
theorem dLc2F (hc : X.calm = true) (hN : X.N.Nodup) (hi : DI X tg iter items) (ok : BlkOk X.N X.env.scope scope own) (hv : ∀ i ∈ vs1, i ∈ own.map (·.2))
    (hg : ∃ g, (∀ (s : Shared) (H : Hp) (C : Addr) (cl : List (Str × Addr)) (fp : List Addr), PG (X.blk s H scope (compEnvC scope cl C X.env) fp) tg g) ∧ EvG X.K g (own.map (·.2)) tgt)
    (ht : ∀ (s : Shared) (H : Hp) (C : Addr) (cl : List (Str × Addr)) (fp : List Addr), DTs (X.blk s H scope (compEnvC scope cl C X.env) fp) ifs cond)
    (hi1 : ∀ (s : Shared) (H : Hp) (C : Addr) (cl : List (Str × Addr)) (fp : List Addr), DI (X.blk s H scope (compEnvC scope cl C X.env) fp) tg1 iter1 items1)
    (hg1 : ∃ g, (∀ (s : Shared) (H : Hp) (C : Addr) (cl : List (Str × Addr)) (fp : List Addr), PG (X.blk s H scope (compEnvC scope cl C X.env) fp) tg1 g) ∧ EvG X.K g vs1 tgt1)
    (ht1 : ∀ (s : Shared) (H : Hp) (C : Addr) (cl : List (Str × Addr)) (fp : List Addr), DTs (X.blk s H scope (compEnvC scope cl C X.env) fp) ifs1 cond1)
    (he : ∀ (s : Shared) (H : Hp) (C : Addr) (cl : List (Str × Addr)) (fp : List Addr), DE (X.blk s H scope (compEnvC scope cl C X.env) fp) elt el) (hs : ∀ x, foldedSetIterable iter X.env x = pure x := by intro _; rfl) (hs1 : ∀ env x, foldedSetIterable iter1 env x = pure x := by intro _ _; rfl) :
    DF X (.ListComp elt [⟨tg, iter, ifs, 0⟩, ⟨tg1, iter1, ifs1, 0⟩] scope pos) (fLc2 items (own.map (·.2)) tgt cond items1 vs1 tgt1 cond1 el) := by
  obtain ⟨g, pg, kg⟩ := hg
  obtain ⟨g1, pg1, kg1⟩ := hg1
  refine .mk (pe_lc2 hc hN pi_w ok hv pg (tt := fun σ H Q => ∀ (s : Shared) (H0 : Hp) (C : Addr) (cl : List (Str × Addr)) (fp : List Addr), wTs (X.blk s H0 scope (compEnvC scope cl C X.env) fp) ifs σ H Q)
    (wi1 := fun σ H R => ∀ (s : Shared) (H0 : Hp) (C : Addr) (cl : List (Str × Addr)) (fp : List Addr), wI (X.blk s H0 scope (compEnvC scope cl C X.env) fp) tg1 iter1 σ H R)
    (tt1 := fun σ H Q => ∀ (s : Shared) (H0 : Hp) (C : Addr) (cl : List (Str × Addr)) (fp : List Addr), wTs (X.blk s H0 scope (compEnvC scope cl C X.env) fp) ifs1 σ H Q)
    (te := fun σ H Q => ∀ (s : Shared) (H0 : Hp) (C : Addr) (cl : List (Str × Addr)) (fp : List Addr), wE (X.blk s H0 scope (compEnvC scope cl C X.env) fp) elt σ H Q)
    (fun s H C cl fp => ⟨fun pins s' σ H' Q I h => h s H C cl fp pins s' I⟩) (fun s H C cl fp => ⟨fun pins s' σ H' Q I h => h s H C cl fp pins s' I⟩) pg1 (fun s H C cl fp => ⟨fun pins s' σ H' Q I h => h s H C cl fp pins s' I⟩) (fun s H C cl fp => ⟨fun pins s' σ H' Q I h => h s H C cl fp pins s' I⟩) hs hs1) ?_
  exact ev_lc2 hi kg (fun C σ H S b S' Q hS hf q s H0 C0 cl fp => ht s H0 C0 cl fp C σ H S b S' Q hS hf q) (fun C σ H S b S' Q hS hf q s H0 C0 cl fp => hi1 s H0 C0 cl fp C σ H S b S' Q hS hf q) kg1
    (fun C σ H S b S' Q hS hf q s H0 C0 cl fp => ht1 s H0 C0 cl fp C σ H S b S' Q hS hf q) (fun C σ H S b S' Q hS hf q s H0 C0 cl fp => he s H0 C0 cl fp C σ H S b S' Q hS hf q) hv
theorem dSetLc2 {y : Str} {py spos : Pos} (i : Nat) (hc : X.calm = true) (hN : X.N.Nodup) (hi : DI X tg iter items) (ok : BlkOk X.N X.env.scope scope own) (hv : ∀ i ∈ vs1, i ∈ own.map (·.2))
    (hg : ∃ g, (∀ (s : Shared) (H : Hp) (C : Addr) (cl : List (Str × Addr)) (fp : List Addr), PG (X.blk s H scope (compEnvC scope cl C X.env) fp) tg g) ∧ EvG X.K g (own.map (·.2)) tgt)
    (ht : ∀ (s : Shared) (H : Hp) (C : Addr) (cl : List (Str × Addr)) (fp : List Addr), DTs (X.blk s H scope (compEnvC scope cl C X.env) fp) ifs cond)
    (hi1 : ∀ (s : Shared) (H : Hp) (C : Addr) (cl : List (Str × Addr)) (fp : List Addr), DI (X.blk s H scope (compEnvC scope cl C X.env) fp) tg1 iter1 items1)
    (hg1 : ∃ g, (∀ (s : Shared) (H : Hp) (C : Addr) (cl : List (Str × Addr)) (fp : List Addr), PG (X.blk s H scope (compEnvC scope cl C X.env) fp) tg1 g) ∧ EvG X.K g vs1 tgt1)
    (ht1 : ∀ (s : Shared) (H : Hp) (C : Addr) (cl : List (Str × Addr)) (fp : List Addr), DTs (X.blk s H scope (compEnvC scope cl C X.env) fp) ifs1 cond1)
    (he : ∀ (s : Shared) (H : Hp) (C : Addr) (cl : List (Str × Addr)) (fp : List Addr), DE (X.blk s H scope (compEnvC scope cl C X.env) fp) elt el)
    (hy : X.N[i]? = some y := by rfl) (hyl : X.env.scope.names.lookup y = some .local := by rfl)
    (hsw : swapsWith (.ListComp elt [⟨tg, iter, ifs, 0⟩, ⟨tg1, iter1, ifs1, 0⟩] scope pos) (some (.Name y py)) spos.line X.env = pure true := by exact sw_true rfl rfl rfl (by decide +kernel)) (hs : ∀ x, foldedSetIterable iter X.env x = pure x := by intro _; rfl) (hs1 : ∀ env x, foldedSetIterable iter1 env x = pure x := by intro _ _; rfl) :
    DS X (.Assign [.Name y py] (.ListComp elt [⟨tg, iter, ifs, 0⟩, ⟨tg1, iter1, ifs1, 0⟩] scope pos) spos) (sSetF i (fLc2 items (own.map (·.2)) tgt cond items1 vs1 tgt1 cond1 el)) := by
  obtain ⟨g, pg, kg⟩ := hg
  obtain ⟨g1, pg1, kg1⟩ := hg1
  refine .mk (ps_setLc2 hc hN hy hyl hsw pi_w ok hv pg (tt := fun σ H Q => ∀ (s : Shared) (H0 : Hp) (C : Addr) (cl : List (Str × Addr)) (fp : List Addr), wTs (X.blk s H0 scope (compEnvC scope cl C X.env) fp) ifs σ H Q)
    (wi1 := fun σ H R => ∀ (s : Shared) (H0 : Hp) (C : Addr) (cl : List (Str × Addr)) (fp : List Addr), wI (X.blk s H0 scope (compEnvC scope cl C X.env) fp) tg1 iter1 σ H R)
    (tt1 := fun σ H Q => ∀ (s : Shared) (H0 : Hp) (C : Addr) (cl : List (Str × Addr)) (fp : List Addr), wTs (X.blk s H0 scope (compEnvC scope cl C X.env) fp) ifs1 σ H Q)
    (te := fun σ H Q => ∀ (s : Shared) (H0 : Hp) (C : Addr) (cl : List (Str × Addr)) (fp : List Addr), wE (X.blk s H0 scope (compEnvC scope cl C X.env) fp) elt σ H Q)
    (fun s H C cl fp => ⟨fun pins s' σ H' Q I h => h s H C cl fp pins s' I⟩) (fun s H C cl fp => ⟨fun pins s' σ H' Q I h => h s H C cl fp pins s' I⟩) pg1 (fun s H C cl fp => ⟨fun pins s' σ H' Q I h => h s H C cl fp pins s' I⟩) (fun s H C cl fp => ⟨fun pins s' σ H' Q I h => h s H C cl fp pins s' I⟩) hs hs1) ?_
  exact ev_setF (ev_lc2 hi kg (fun C σ H S b S' Q hS hf q s H0 C0 cl fp => ht s H0 C0 cl fp C σ H S b S' Q hS hf q) (fun C σ H S b S' Q hS hf q s H0 C0 cl fp => hi1 s H0 C0 cl fp C σ H S b S' Q hS hf q) kg1
    (fun C σ H S b S' Q hS hf q s H0 C0 cl fp => ht1 s H0 C0 cl fp C σ H S b S' Q hS hf q) (fun C σ H S b S' Q hS hf q s H0 C0 cl fp => he s H0 C0 cl fp C σ H S b S' Q hS hf q) hv)
end
end DK
namespace DK
open PySem PySem.Spec PyProof.Rows L2
section
variable {K : PySem.W.Frag}
/-- x is True: both bools -/
def gIsB (neg : Bool) : PD → PD → Option PD := fun a b => match a, b with
  | .bool x, .bool y => some (.bool (neg != decide (x = y)))
  | _, _ => none
theorem od_isB : OpD K rIsB (gIsB false) := fun O H a b d x y Q ra rb hg fr q => by
  unfold gIsB at hg
  split at hg
  · rename_i u v
    cases hg
    cases (show x = .bl u from ra)
    cases (show y = .bl v from rb)
    exact ⟨u, v, rfl, rfl, q _ H (Same.refl _) (by simp [Rep])⟩
  · cases hg
theorem od_isnB : OpD K rNotB (gIsB true) := fun O H a b d x y Q ra rb hg fr q => by
  unfold gIsB at hg
  split at hg
  · rename_i u v
    cases hg
    cases (show x = .bl u from ra)
    cases (show y = .bl v from rb)
    exact ⟨u, v, rfl, rfl, q _ H (Same.refl _) (by simp [Rep])⟩
  · cases hg
end
end DK
namespace DK
open PySem PySem.Spec PyProof.Rows L2
/-! ## owned lists looked at as shared data; results that own their inner lists -/
def freeS (S : Stt) : Bool := S.all fun x => !isOn (some x)
def frzL : List Nat → Stt → Stt
  | [], S => S
  | i :: r, S => frzL r (frz i S)
def bShow (is : List Nat) (c : EvB) : EvB := fun S => if freeS (frzL is S) then (match c (frzL is S) with
  | some (b, _) => some (b, S)
  | none => none) else none
def isCls : PD → Bool
  | .list (.int _ :: r) => r.all fun d => match d with
    | .int _ => true
    | _ => false
  | _ => false
def isDiv : List PD → Bool
  | .list _ :: _ => true
  | _ => false
def fShow (i : Nat) (f : EvL) : EvL := fun S => match S[i]? with
  | some (.nst yss) => if freeS (S.set i .no) && yss.all isDiv && !yss.isEmpty then (match f (frz i S) with
    | some (zs, _) => if zs.all isCls then some (zs, S) else none
    | none => none) else none
  | _ => none
section
variable {K : PySem.W.Frag} {C : Ctx} {σ : Sg} {H H' : Hp} {S : Stt} {i j : Nat}
theorem Hold.noOwn (h : Hold K C σ H S) (f : freeS S = true) : C.O = [] := by
  cases e : C.O with
  | nil => rfl
  | cons p r =>
    have hp : p ∈ C.O := by rw [e]; exact List.mem_cons_self
    have hall := List.all_eq_true.mp f
    rcases h.own p hp with ⟨xs, w, _⟩ | ⟨xs, w⟩
    · have := hall _ (List.mem_of_getElem? w); cases this
    · have := hall _ (List.mem_of_getElem? w); cases this
theorem Hold.frz1 (h : Hold K C σ H S) (i : Nat) : ∃ C', Hold K C' σ H (frz i S) ∧ (∀ b ∈ C'.hid, b ∈ C.hid) := by
  cases e : S[i]? with
  | none =>
    have ef : frz i S = S := by unfold frz; rw [e]
    rw [ef]
    exact ⟨C, h, fun _ z => z⟩
  | some x =>
    rw [frz_of e]
    cases ed : ownD x with
    | none => exact ⟨C, h, fun _ z => z⟩
    | some xs => exact ⟨_, h.frzD e ed, fun b z => drop_hid z⟩
theorem Hold.frzL : ∀ (is : List Nat) {C : Ctx} {S : Stt}, Hold K C σ H S → ∃ C', Hold K C' σ H (frzL is S) ∧ (∀ b ∈ C'.hid, b ∈ C.hid)
  | [], C, S, h => ⟨C, h, fun _ z => z⟩
  | i :: r, C, S, h => by
    obtain ⟨C1, h1, s1⟩ := h.frz1 i
    obtain ⟨C2, h2, s2⟩ := Hold.frzL r h1
    exact ⟨C2, h2, fun b z => s1 b (s2 b z)⟩
theorem Kp.same (k : Kp C H H') (e : C.O = []) : Same H H' := fun b o h => k b o (by unfold Ctx.own; rw [e]; simp) h
theorem ev_show {t : TT} {c : EvB} (is : List Nat) (h : EvT K t c) : EvT K t (bShow is c) := fun C σ H S b S' Q hS hf q => by
  unfold bShow at hf
  split at hf
  · rename_i fr
    split at hf
    · rename_i b' S2 e
      cases hf
      obtain ⟨C', hC, sub⟩ := hS.frzL is
      refine h C' σ H _ b S2 _ hC e fun H' k _ => ?_
      have sm := k.same (hC.noOwn fr)
      exact q H' (.of sm) (hS.same sm)
    · cases hf
  · cases hf
theorem sep_int {O : List Addr} : ∀ {ds : List PD} {vs : List V}, (ds.all fun d => match d with
    | .int _ => true
    | _ => false) = true → RepL K (hide O H) ds vs → ∀ G, RepL K G ds vs
  | [], vs, _, r, G => r
  | d :: ds, vs, h, r, G => by
    obtain ⟨v, w, rfl, r1, r2⟩ := r
    simp only [List.all_cons, Bool.and_eq_true] at h
    refine ⟨v, w, rfl, ?_, sep_int h.2 r2 G⟩
    cases d with
    | int k => exact r1
    | _ => cases h.1
theorem sep_cls {O O' : List Addr} (hh : ∀ b ∈ O', b ∉ O → ∃ c r, H b = some (.lst (.ref c :: r))) : ∀ {zs : List PD} {us : List V}, zs.all isCls = true → RepL K (hide O H) zs us → RepL K (hide O' H) zs us
  | [], us, _, r => r
  | z :: zs, us, h, r => by
    obtain ⟨v, w, rfl, r1, r2⟩ := r
    simp only [List.all_cons, Bool.and_eq_true] at h
    refine ⟨v, w, rfl, ?_, sep_cls hh h.2 r2⟩
    cases z with
    | list ds =>
      cases ds with
      | nil => cases h.1
      | cons d ds =>
        cases d with
        | int k =>
          obtain ⟨q, vs, rfl, e1, r3⟩ := r1
          obtain ⟨e2, e3⟩ := hide_some.mp e1
          have r4 := r3
          obtain ⟨v1, w1, rfl, r5, r6⟩ := r4
          cases (show v1 = .int k from r5)
          refine ⟨q, _, rfl, hide_some.mpr ⟨fun hq => ?_, e3⟩, ⟨_, _, rfl, rfl, sep_int (O := O) (H := H) h.1 r6 _⟩⟩
          obtain ⟨c, r, e4⟩ := hh q hq e2
          rw [e3] at e4
          cases e4
        | _ => cases h.1
    | _ => cases h.1
theorem set_no_free (h : freeS (S.set i .no) = true) (hS : Hold K C σ H S) : ∀ p ∈ C.O, p.1 = i := fun p hp => by
  have hd := hS.drop i
  have e := hd.noOwn h
  by_cases z : p.1 = i
  · exact z
  · have hm : p ∈ (C.drop i).O := mem_drop.mpr ⟨hp, z⟩
    rw [e] at hm
    cases hm
/-- a list of lists is looked at as shared data; whatever else the name owned stays hidden -/
theorem Hold.reveal (hS : Hold K C σ H S) {yss : List (List PD)} (ei : S[i]? = some (.nst yss)) : ∃ (D : Ctx) (a : Addr) (bs : List Addr), D.O = (C.drop i).O ∧ (∀ b ∈ C.hid, b ∈ D.hid ∨ b ∈ a :: bs) ∧ Hold K D σ H (S.set i (.sh (.list (yss.map PyData.list)))) ∧ H a = some (.lst (bs.map V.ref)) ∧ Cel K C H i bs yss := by
  obtain ⟨a, bs, h1, h2, h3, h4, h5⟩ := hS.at_nst ei
  let gh : List Addr := ((C.O.filter fun p => decide (p.1 = i)).map (·.2)).filter fun b => decide (b ∉ a :: bs)
  have hgh : ∀ b, b ∈ gh ↔ (i, b) ∈ C.O ∧ b ∉ a :: bs := fun b => by
    show b ∈ ((C.O.filter fun p => decide (p.1 = i)).map (·.2)).filter (fun b => decide (b ∉ a :: bs)) ↔ _
    rw [List.mem_filter]
    constructor
    · rintro ⟨q, w⟩
      obtain ⟨p, hp, rfl⟩ := List.mem_map.mp q
      obtain ⟨q1, q2⟩ := List.mem_filter.mp hp
      have q2 := of_decide_eq_true q2
      refine ⟨?_, of_decide_eq_true w⟩
      rw [← q2]
      exact q1
    · rintro ⟨q, w⟩
      exact ⟨List.mem_map.mpr ⟨(i, b), List.mem_filter.mpr ⟨q, decide_eq_true rfl⟩, rfl⟩, decide_eq_true w⟩
  let D : Ctx := (C.drop i).mw gh
  have sub : ∀ b ∈ D.hid, b ∈ C.hid := fun b hb => by
    rcases mem_mw.mp hb with z | z
    · exact Hold.in_hid ((hgh b).mp z).1
    · exact drop_hid z
  have vw : Same (hide C.hid H) (hide D.hid H) := vw_of sub
  have hd := hS.drop i
  have hD : Hold K D σ H (S.set i .no) := by
    refine ⟨hd.len, fun j v x e1 e2 => ?_, hd.own, hd.nod, fun p hp z => ?_, fun b hb => hS.wd b (sub b hb), hd.frame, hd.fresh, hd.bd⟩
    · rcases set_get e2 with ⟨_, rfl, _⟩ | ⟨hne, e2⟩
      · trivial
      · exact (hS.slot j v x e1 e2).vw (fun b z => mem_drop.mpr ⟨z, fun z => hne z.symm⟩) vw
    · rcases List.mem_append.mp z with z | z
      · obtain ⟨q1, q2⟩ := mem_drop.mp hp
        have q3 : (p.1, p.2) ∈ C.O := q1
        exact q2 (hS.slot_inj q3 ((hgh _).mp z).1)
      · exact hd.apart p hp z
  have inO : ∀ b ∈ a :: bs, (i, b) ∈ C.O := fun b hb => by
    rcases List.mem_cons.mp hb with z | z
    · rw [z]; exact h2
    · exact h5.in_O b z
  have nD : ∀ b ∈ a :: bs, b ∉ D.hid := fun b hb z => by
    rcases mem_mw.mp z with z | z
    · exact ((hgh b).mp z).2 hb
    · exact hS.out (inO b hb) z
  have rp : Rep K (hide D.hid H) (.list (yss.map PyData.list)) (.ref a) := ⟨a, bs.map V.ref, rfl, hide_some.mpr ⟨nD a List.mem_cons_self, h3⟩, h5.rep hS sub fun b hb => nD b (List.mem_cons_of_mem _ hb)⟩
  have fin := hD.putSh (i := i) (v := .ref a) (fun p hp => (mem_drop.mp hp).2) rp
  rw [set_set] at fin
  have hi : i < σ.length := (List.getElem?_eq_some_iff.mp h1).1
  have e3 : σ.set i (some (.ref a)) = σ := by
    refine List.ext_getElem? fun j => ?_
    by_cases hj : i = j
    · subst hj
      rw [List.getElem?_set_self hi, h1]
    · rw [List.getElem?_set_ne hj]
  rw [e3] at fin
  refine ⟨D, a, bs, rfl, fun b hb => ?_, fin, h3, h5⟩
  rcases List.mem_append.mp hb with z | z
  · exact .inl (mem_mw.mpr (.inr (List.mem_append_left _ z)))
  · obtain ⟨p, hp, rfl⟩ := List.mem_map.mp z
    by_cases hpi : p.1 = i
    · by_cases hm : p.2 ∈ a :: bs
      · exact .inr hm
      · have q3 : (i, p.2) ∈ C.O := by rw [← hpi]; exact hp
        exact .inl (mem_mw.mpr (.inl ((hgh _).mpr ⟨q3, hm⟩)))
    · exact .inl (mem_mw.mpr (.inr (List.mem_append_right _ (List.mem_map.mpr ⟨p, mem_drop.mpr ⟨hp, hpi⟩, rfl⟩))))
theorem ev_fshow {t : TE} {f : EvL} (i : Nat) (h : EvF K t f) : EvF K t (fShow i f) := fun C σ H S zs S' Q hS hf q => by
  unfold fShow at hf
  split at hf
  · rename_i yss ei
    split at hf
    · rename_i hc
      simp only [Bool.and_eq_true, Bool.not_eq_true'] at hc
      obtain ⟨⟨fr, hd⟩, ne⟩ := hc
      split at hf
      · rename_i zs' S2 e
        split at hf
        · rename_i hz
          cases hf
          have hfz : frz i S = S.set i (.sh (.list (yss.map PyData.list))) := by unfold frz; rw [ei]
          have hO : (C.drop i).O = [] := (hS.drop i).noOwn fr
          obtain ⟨D, a, bs, eO, cov, hC, h3, h5⟩ := hS.reveal ei
          rw [hfz] at e
          refine h D σ H _ zs S2 _ hC e fun p vs H' np k hp _ r => ?_
          have sm := k.same (eO.trans hO)
          have lists : ∀ b ∈ a :: bs, ∃ c r, H' b = some (.lst (.ref c :: r)) := fun b hb => by
            rcases List.mem_cons.mp hb with z | z
            · subst z
              cases bs with
              | nil =>
                have := h5.1
                cases yss with
                | nil => cases ne
                | cons _ _ => simp at this
              | cons c bs => exact ⟨c, _, sm _ _ h3⟩
            · obtain ⟨k, hk, ek⟩ := List.mem_iff_getElem.mp z
              have hky : k < yss.length := by rw [← h5.1]; exact hk
              obtain ⟨_, vs, w1, w2⟩ := h5.2 k b yss[k] (by rw [List.getElem?_eq_getElem hk, ek]) (List.getElem?_eq_getElem hky)
              have := List.all_eq_true.mp hd _ (List.getElem_mem hky)
              cases hy : yss[k] with
              | nil => rw [hy] at this; cases this
              | cons d ds =>
                rw [hy] at this w2
                cases d with
                | list es =>
                  obtain ⟨v, w, rfl, ⟨c, _, rfl, _, _⟩, _⟩ := w2
                  exact ⟨c, _, sm _ _ w1⟩
                | _ => cases this
          refine q p vs H' np (.of sm) hp (hS.same_new sm np hp) (sep_cls (fun b hb hb2 => ?_) hz r)
          rcases List.mem_cons.mp hb with z | z
          · exact absurd (by rw [z]; exact List.mem_cons_self) hb2
          · rcases cov b z with w | w
            · exact absurd (List.mem_cons_of_mem _ w) hb2
            · exact lists b w
        · cases hf
      · cases hf
    · cases hf
  · cases hf
end
end DK
namespace DK
open PySem PySem.Spec PyProof.Rows L2
section
variable {X : Cx} {K : PySem.W.Frag} {C : Ctx} {σ : Sg} {H H' : Hp} {S : Stt} {i j : Nat} {a p : Addr} {bs : List Addr} {yss : List (List PD)} {e : Expr} {pos : Pos}
theorem dShowT (is : List Nat) {c : EvB} (h : DT X e c) : DT X e (bShow is c) := ev_show is h
theorem dShowF (i : Nat) {f : EvL} (h : DF X e f) : DF X e (fShow i f) := ev_fshow i h
/-- new hidden lists -/
theorem Hold.addW (h : Hold K C σ H S) {ps : List Addr} (sm : Same H H') (nw : ∀ b ∈ ps, H b = none) (lst : ∀ b ∈ ps, ∃ xs, H' b = some (.lst xs)) : Hold K (C.mw ps) σ H' S := by
  have np : ∀ b o, H b = some o → b ∉ ps := fun b o z w => by rw [nw b w] at z; cases z
  have vw : Same (hide C.hid H') (hide C.hid H') := Same.refl _
  have h' := h.same sm
  have vw2 : Same (hide C.hid H) (hide (C.mw ps).hid H') := fun b o z => by
    obtain ⟨z1, z2⟩ := hide_some.mp z
    refine hide_some.mpr ⟨fun w => ?_, sm _ _ z2⟩
    rcases mem_mw.mp w with w | w
    · exact np b o z2 w
    · exact z1 w
  refine ⟨h.len, fun k v x e1 e2 => ?_, h.own, h.nod, fun q hq z => ?_, fun b hb => ?_, h'.frame, h.fresh, h'.bd⟩
  · have q := h.slot k v x e1 e2
    cases x with
    | no => trivial
    | sh d => obtain ⟨y, q1, q2⟩ := q; exact ⟨y, q1, q2.mono vw2⟩
    | ow xs => obtain ⟨a, vs, q1, q2, q3, q4⟩ := q; exact ⟨a, vs, q1, q2, sm _ _ q3, q4.mono vw2⟩
    | scr ns => obtain ⟨a, q1, q2⟩ := q; exact ⟨a, q1, sqL_mono vw2 q2⟩
    | raw v => exact q
    | nst yss => obtain ⟨a, bs, q1, q2, q3, q4, q5⟩ := q; exact ⟨a, bs, q1, q2, sm _ _ q3, q4, q5.mono (fun _ _ z => z) (fun b _ _ o z => sm b o z) vw2⟩
  · rcases List.mem_append.mp z with z | z
    · obtain ⟨xs, w⟩ := h.wd q.2 (Hold.in_hid hq)
      exact np _ _ w z
    · exact h.apart q hq z
  · rcases mem_mw.mp hb with z | z
    · exact lst b z
    · obtain ⟨xs, w⟩ := h.wd b z
      exact ⟨xs, sm _ _ w⟩
/-- hidden lists come to light -/
theorem Hold.unW {ps : List Addr} (h : Hold K (C.mw ps) σ H S) : Hold K C σ H S := by
  have sub : ∀ b ∈ C.hid, b ∈ (C.mw ps).hid := fun b hb => mem_mw.mpr (.inr hb)
  have vw : Same (hide (C.mw ps).hid H) (hide C.hid H) := vw_of sub
  exact ⟨h.len, fun k v x e1 e2 => (h.slot k v x e1 e2).vw (fun _ z => z) vw, h.own, h.nod, fun q hq z => h.apart q hq (List.mem_append_right _ z), fun b hb => h.wd b (sub b hb), h.frame, h.fresh, h.bd⟩
/-! ## x.append(y), y's list goes into the list of lists x -/
def sPushM (i j : Nat) : EvSt := fun S => if i = 0 ∨ j = 0 ∨ i = j then none else match S[i]?, S[j]? with
  | some (.nst yss), some (.ow zs) => if yss.length < 100000 then some (.nx ((S.set j .no).set i (.nst (yss ++ [zs])))) else none
  | _, _ => none
theorem dPushM {l m : Expr} {p1 p2 : Pos} (hb : PE X (.Call (.Attribute l "append" p1) [m] [] p2) (tBM X.K "list" rAppend (tVar i) (tCons (tVar j) tNil)))
    (hs : swapsWith (.Call (.Attribute l "append" p1) [m] [] p2) none pos.line X.env = pure false := by rfl) :
    DS X (.Expr (.Call (.Attribute l "append" p1) [m] [] p2) pos) (sPushM i j) := by
  refine .mk (ps_expr hb hs) fun C σ H S o D hS hf q => ?_
  unfold sPushM at hf
  split at hf
  · cases hf
  · rename_i hn
    simp only [not_or] at hn
    obtain ⟨h0, j0, ij⟩ := hn
    split at hf
    · rename_i yss zs ei ej
      split at hf
      · rename_i hl
        cases hf
        obtain ⟨pp, vs, p0, p1, p2, p3⟩ := hS.at_ow ej
        have hu := hS.unown p0
        have ei' : (S.set j .no)[i]? = some (.nst yss) := by rw [List.getElem?_set_ne (Ne.symm ij)]; exact ei
        obtain ⟨a, bs, h1, n, hM, own⟩ := hu.hideN ei' h0
        have f0 : C.H0 pp = none := by
          rcases hS.fresh _ p0 with z | ⟨z, _⟩
          · exact z.2
          · exact absurd z j0
        -- the context without both
        let C0 : Ctx := (C.drop j).drop i
        have npO : pp ∉ (C.drop j).hid := hS.out p0
        have np0 : pp ∉ C0.hid := fun z => npO (drop_hid z)
        have pn : pp ∉ a :: bs := fun z => n.out pp z (List.mem_append_left _ List.mem_cons_self)
        have n0 : Nst X.K C0 H a bs yss := by
          refine ⟨n.at_, n.nod, n.len, fun k b ys e1 e2 => ?_, n.fr, fun b hb z => n.out b hb (List.mem_cons_of_mem _ z)⟩
          obtain ⟨ws, w1, w2⟩ := n.cel k b ys e1 e2
          refine ⟨ws, w1, w2.mono (vw_of fun b hb => ?_)⟩
          rcases mem_mw.mp hb with z | z
          · exact mem_mw.mpr (.inl z)
          · exact mem_mw.mpr (.inr (List.mem_cons_of_mem _ z))
        have sub : ∀ b, b ∈ pp :: (C0.mw (a :: bs)).hid → b ∈ ((((C.drop j).more pp).drop i).mw (a :: bs)).hid := fun b hb => by
          rcases List.mem_cons.mp hb with z | z
          · rw [z]; exact mem_mw.mpr (.inr List.mem_cons_self)
          · rcases mem_mw.mp z with z | z
            · exact mem_mw.mpr (.inl z)
            · exact mem_mw.mpr (.inr (List.mem_cons_of_mem _ z))
        have subC : ∀ b, b ∈ pp :: (C0.mw (a :: bs)).hid → b ∈ C.hid := fun b hb => by
          rcases List.mem_cons.mp hb with z | z
          · rw [z]; exact Hold.in_hid p0
          · rcases mem_mw.mp z with z | z
            · have := own b z
              exact own_hid (drop_own (C := C) (i := j) this)
            · exact drop_hid (drop_hid z)
        have n2 := n0.push (zs := zs) (us := vs) p2 (fun z => by
          rcases mem_mw.mp z with z | z
          · exact pn z
          · exact np0 z) f0 (p3.mono (vw_of subC)) fun k b ys e1 e2 => by
            obtain ⟨ws, w1, w2⟩ := n.cel k b ys e1 e2
            exact ⟨ws, w1, w2.mono (vw_of sub)⟩
        have h2 := hM.chgW (p := a) (ys := (bs ++ [pp]).map V.ref) (List.mem_append_left _ List.mem_cons_self) (n.fr a List.mem_cons_self)
        have h3 : Hold X.K (C0.mw (a :: (bs ++ [pp]))) σ (upd H a (.lst ((bs ++ [pp]).map V.ref))) ((S.set j .no).set i .no) := by
          refine h2.reW (W := (a :: (bs ++ [pp])) ++ C0.W) fun b => ?_
          show b ∈ (a :: (bs ++ [pp])) ++ C0.W ↔ b ∈ (a :: bs) ++ (pp :: C0.W)
          simp only [List.mem_cons, List.mem_append, List.not_mem_nil, or_false]
          constructor
          · rintro ((q | q | q) | q)
            · exact .inl (.inl q)
            · exact .inl (.inr q)
            · exact .inr (.inl q)
            · exact .inr (.inr q)
          · rintro ((q | q) | q | q)
            · exact .inl (.inl q)
            · exact .inl (.inr (.inl q))
            · exact .inl (.inr (.inr q))
            · exact .inr q
        have aO : a ∈ C.own := drop_own (C := C) (i := j) (own a List.mem_cons_self)
        have k2 : Kp C H (upd H a (.lst ((bs ++ [pp]).map V.ref))) := fun b o hb hh => by
          rw [upd_ne (fun z => hb (by rw [z]; exact aO))]
          exact hh
        have fin := h3.showN n2 h1 h0 (drop_no (C := C.drop j))
        rw [set_set] at fin
        refine ⟨.ref a, h1, .inl ⟨rfl, _, SqL.of n.at_⟩, .ref pp, p1, a, bs.map V.ref, .ref pp, rfl, rfl, n.at_, by rw [List.length_map, n.len, sizeLine_eq]; omega, ?_⟩
        have e4 : bs.map V.ref ++ [V.ref pp] = (bs ++ [pp]).map V.ref := by rw [List.map_append]; rfl
        rw [e4]
        refine q (C0.gainL i (a :: (bs ++ [pp]))) σ _ ⟨rfl, rfl, rfl, k2, fun b hb => ?_⟩ fin
        rcases gainL_own hb with z | z
        · rcases List.mem_cons.mp z with z | z
          · rw [z]; exact .inl aO
          · rcases List.mem_append.mp z with z | z
            · exact .inl (drop_own (C := C) (i := j) (own b (List.mem_cons_of_mem _ z)))
            · simp at z; rw [z]; exact .inl (in_own p0)
        · exact .inl (drop_own (C := C) (i := j) (drop_own (C := C.drop j) (i := i) z))
      · cases hf
    · cases hf
/-! ## x = [a new list] -/
def sNst1 (i : Nat) (f : EvL) : EvSt := fun S => if i = 0 ∨ ¬ i < S.length then none else match f S with
  | some (zs, S1) => some (.nx (S1.set i (.nst [zs])))
  | none => none
theorem dNst1 {f : EvL} {x : Str} {pos' pos2 : Pos} (i : Nat) (h : DF X e f) (hN : X.N.Nodup) (hi : X.N[i]? = some x := by rfl) (hx : Loc X.env.scope x := by first | exact Or.inl rfl | exact Or.inr rfl)
    (hs : swapsWith (.List [e] pos2) (some (.Name x pos')) pos.line X.env = pure false := by rfl) (hst : starEach [e] X.env = (false, eval e X.env) :: starEach [] X.env := by rfl) (hf : X.fn x = true ∨ X.env.scope.names.lookup x = some .local := by first | exact .inl rfl | exact .inr rfl | assumption) :
    DS X (.Assign [.Name x pos'] (.List [e] pos2) pos) (sNst1 i f) := .mk (ps_set hN hi hx (pe_lst (pa_cons pe_w pa_nil hst)) hs hf) fun C σ H S o D hS hg q => by
  unfold sNst1 at hg
  split at hg
  · cases hg
  · rename_i hn
    simp only [not_or, Classical.not_not] at hn
    obtain ⟨h0, hil⟩ := hn
    split at hg
    · rename_i zs S1 e1
      cases hg
      refine h C σ H S zs S1 _ hS e1 fun pp us H1 np k1 hp hS1 r1 => ⟨by show 1 ≤ _; rw [sizeLine_eq]; omega, fun a na => ?_⟩
      have ap : a ≠ pp := fun z => by rw [z, hp] at na; cases na
      have f0 := H0_none hS np
      have na0 : H a = none := by
        cases hh : H a with
        | none => rfl
        | some o =>
          have ho : a ∉ C.own := fun z => by
            obtain ⟨xs, w⟩ := hS1.wd a (own_hid (C := C.more pp) z)
            rw [na] at w; cases w
          rw [k1 a o ho hh] at na
          cases na
      have fa := H0_none hS na0
      have hA := (hS1.more (p := a) (xs := [V.ref pp]) na).drop i
      have sm := same_upd (o := HO.lst [V.ref pp]) na
      have hA2 : Hold X.K ((C.drop i).mw [a, pp]) (σ.set i (some (.ref a))) (upd H1 a (.lst [V.ref pp])) ((S1.set i .no).set i .no) := hA.putNo (i := i) fun q hq => (mem_drop.mp hq).2
      have hn : Nst X.K (C.drop i) (upd H1 a (.lst [V.ref pp])) a [pp] [zs] := by
        refine ⟨upd_same, by simp [ap], rfl, fun k b ys w1 w2 => ?_, fun b hb => ?_, fun b hb => ?_⟩
        · cases k with
          | zero =>
            cases w1
            cases w2
            refine ⟨us, sm _ _ hp, r1.mono fun b o z => ?_⟩
            obtain ⟨z1, z2⟩ := hide_some.mp z
            refine hide_some.mpr ⟨fun w => ?_, sm _ _ z2⟩
            rcases mem_mw.mp w with w | w
            · rcases List.mem_cons.mp w with w | w
              · rw [w, na] at z2; cases z2
              · simp at w
                exact z1 (by rw [w]; exact List.mem_cons_self)
            · exact z1 (List.mem_cons_of_mem _ (drop_hid w))
          | succ k => simp at w1
        · simp at hb
          rcases hb with rfl | rfl
          · exact fa
          · exact f0
        · simp at hb
          rcases hb with rfl | rfl
          · exact fun z => hS.new na0 (drop_hid z)
          · exact fun z => hS.new np (drop_hid z)
      have il : i < σ.length := by rw [hS.len]; exact hil
      have fin := hA2.showN hn (List.getElem?_set_self il) h0 drop_no
      rw [set_set, set_set] at fin
      refine q ((C.drop i).gainL i [a, pp]) _ _ ⟨rfl, rfl, rfl, k1.trans (.of sm), fun b hb => ?_⟩ fin
      rcases gainL_own hb with z | z
      · simp at z
        rcases z with rfl | rfl
        · exact .inr na0
        · exact .inr np
      · exact .inl (drop_own z)
    · cases hg
end
end DK
namespace DK
open PySem PySem.Spec PyProof.Rows L2
/-! ## results that own their inner lists -/
def spN (K : PySem.W.Frag) (n : Nat) (f : List PD → Option (List (List PD))) : Sp := fun vs H Q _ => ∃ (W : List Addr) (ds : List PD) (yss : List (List PD)), ds.length = n ∧ AllLst W H ∧ RepL K (hide W H) ds vs ∧ f ds = some yss ∧
  ∀ p bs H', Same H H' → (p :: bs).Nodup → (∀ b ∈ p :: bs, H b = none) → H' p = some (.lst (bs.map V.ref)) → bs.length = yss.length →
    (∀ (k : Nat) (b : Addr) (ys : List PD), bs[k]? = some b → yss[k]? = some ys → ∃ us, H' b = some (.lst us) ∧ RepL K (hide ((p :: bs) ++ W) H') ys us) → Q (.ref p) H'
def resN (i : Nat) : Option Out → Option (List (List PD))
  | some (.nx S) => match S[i]? with
    | some (.nst yss) => some yss
    | _ => none
  | _ => none
def defN (N n i : Nat) (g : EvSt) : List PD → Option (List (List PD)) := fun ds => if ds.length = n ∧ i ≠ 0 then resN i (g (ini N (ds.map Sl.sh))) else none
theorem defN_len {N n i : Nat} {g : EvSt} : ∀ ds d, defN N n i g ds = some d → ds.length = n := fun ds d h => by
  unfold defN at h
  split at h
  · rename_i z; exact z.1
  · cases h
theorem resN_some {i : Nat} {o : Option Out} {yss : List (List PD)} (h : resN i o = some yss) : ∃ S, o = some (.nx S) ∧ S[i]? = some (.nst yss) := by
  unfold resN at h
  split at h
  · rename_i S
    split at h
    · rename_i ys e
      cases h
      exact ⟨S, rfl, e⟩
    · cases h
  · cases h
theorem ev_seq {K : PySem.W.Frag} {t u : TS} {g h : EvSt} (a : EvS K t g) (b : EvS K u h) : EvS K (tSeq t u) (sSeq g h) := fun C σ H S o D hS hf q => by
  unfold sSeq at hf
  cases e : g S with
  | none => rw [e] at hf; cases hf
  | some o1 =>
    rw [e] at hf
    refine a C σ H S o1 _ hS e ?_
    cases o1 with
    | nx S1 => exact fun C1 σ1 H1 s1 hS1 => b C1 σ1 H1 S1 o D hS1 hf (q.step s1)
    | rt d S1 => cases hf; exact q
    | rtF d S1 => cases hf; exact q
    | bk S1 => cases hf; exact q
    | ct S1 => cases hf; exact q
section
variable {P : Program} {w : World} {K : PySem.W.Frag} {mg : Str → Option Value} {base : Heap} {x qual : Str} {st : Stmt} {f : Addr} {fd : FuncData} {N ps : List Str} {k i : Nat} {g1 g2 : EvSt}
abbrev BodN (P : Program) (w : World) (K : PySem.W.Frag) (mg : Str → Option Value) (base : Heap) (N : List Str) (qual : Str) (st : Stmt) (f : Addr) (k i : Nat) (g1 g2 : EvSt) (s1 s2 : Stmt) (e : Expr) : Prop :=
  ∀ (cdv : Value) (A : Around) (outer : List Env) (s : Shared) (H : Hp) (E : XK), Room k (A.deeper (envOfC qual (defScope st) s.heap.objs.size f cdv)) →
    DS (cxOf CX0 P w K mg base N qual (defScope st) f cdv A outer s H E).nox s1 g1 ∧ DS (cxOf CX0 P w K mg base N qual (defScope st) f cdv A outer s H E).nox s2 g2 ∧ OwN (cxOf CX0 P w K mg base N qual (defScope st) f cdv A outer s H E).nox e i
theorem okN {s1 s2 : Stmt} {e : Expr} {pos : Pos} (F : Fun K x qual st f fd) (S : FnScope N ps (defScope st)) (hbody : defBody st = [s1, s2, .Return (some e) pos]) (hb : BodN P w K mg base N qual st f k i g1 g2 s1 s2 e) : FnOk P w K mg base CX0 (k + 1) f fd ps (spN K ps.length (defN N.length ps.length i (sSeq g1 g2))) := by
  refine F.ok S (fun vs H Q E h => ?_) fun cdv A outer s H vs Q E hr h => ?_
  · obtain ⟨W, ds, d, hl, _, r, _⟩ := h
    rw [r.length, hl]
  · obtain ⟨W, ds, yss, hl, wd, r, hd, q⟩ := h
    obtain ⟨h1, h2, hO⟩ := hb cdv A outer s H E hr
    unfold defN at hd
    split at hd
    · rename_i hc
      obtain ⟨S', eS, ei⟩ := resN_some hd
      rw [hbody]
      refine ⟨_, pss_cons ps_w (pss_cons ps_w (pss_one (ps_ret hO))), ?_⟩
      have hS := start_P (N := N) wd r (by rw [r.length, hl]; exact pre_len S)
      have ev := ev_seq h1 h2
      refine ev _ _ H _ _ { nx := tRet (tVar i) { nx := fun _ H' => Q .non H', rt := Q }, rt := Q } hS eS ?_
      intro C' σ' H' s' hS'
      obtain ⟨a, bs, e1, n, hM, own⟩ := hS'.hideN ei hc.2
      refine ⟨.ref a, e1, q a bs H' (same_of s') n.nod (fun b hb => ?_) n.at_ n.len fun k b ys w1 w2 => ?_⟩
      · rcases s'.own b (own b hb) with z | z
        · simp [Ctx.own] at z
        · exact z
      · obtain ⟨us, w3, w4⟩ := n.cel k b ys w1 w2
        refine ⟨us, w3, w4.mono (vw_of fun c hc => ?_)⟩
        rcases List.mem_append.mp hc with z | z
        · exact mem_mw.mpr (.inl z)
        · exact mem_mw.mpr (.inr (List.mem_append_left _ (by show c ∈ C'.W; rw [s'.w]; exact z)))
    · cases hd
end
/-- x = f(..): a list of lists of its own -/
def sSetN (i : Nat) (g : List PD → Option (List (List PD))) (a : EvL) : EvSt := fun S => if i = 0 ∨ ¬ i < S.length then none else match a S with
  | some (ds, S1) => (match g ds with
    | some yss => some (.nx (S1.set i (.nst yss)))
    | none => none)
  | none => none
section
variable {X : Cx} {K : PySem.W.Frag} {ps : List Str} {x y : Str} {p pos pos' : Pos} {e : Expr} {es : List Expr} {k n : Nat}
theorem dSetN {a : EvL} {g : List PD → Option (List (List PD))} (i : Nat) (c : Cal X k x ps (spN X.K n g)) (hr : Room k X.A) (ha : DA X (e :: es) a) (hn : ∀ ds d, g ds = some d → ds.length = n) (hN : X.N.Nodup) {pc : Pos} (hg : Gl X x := by rfl)
    (hdb : (x == ("__debug__" : Str)) = false := by decide) (he : starEach (e :: es) X.env = (false, eval e X.env) :: starEach es X.env := by rfl) (hpl : (backTo pc (starEach es X.env)).any (·.1) = false := by rfl)
    (hps : Passes CX0 X E0 := by exact pass0) (hi : X.N[i]? = some y := by rfl) (hx : Loc X.env.scope y := by first | exact Or.inl rfl | exact Or.inr rfl)
    (hs : swapsWith (.Call (.Name x p) (e :: es) [] pc) (some (.Name y pos')) pos.line X.env = pure false := by rfl) (hf : X.fn y = true ∨ X.env.scope.names.lookup y = some .local := by first | exact .inl rfl | exact .inr rfl | assumption) :
    DS X (.Assign [.Name y pos'] (.Call (.Name x p) (e :: es) [] pc) pos) (sSetN i g a) := by
  obtain ⟨f, fd, F, hm, hk, hb⟩ := c.ex
  refine .mk (ps_set hN hi hx (pe_call F hr hg hm hk hb .nil hps pa_w hdb he hpl) hs hf) fun C σ H S o D hS hgg q => ?_
  unfold sSetN at hgg
  split at hgg
  · cases hgg
  · rename_i hne
    simp only [not_or, Classical.not_not] at hne
    obtain ⟨h0, hil⟩ := hne
    split at hgg
    · rename_i ds S1 e1
      split at hgg
      · rename_i yss e2
        cases hgg
        refine ha C σ H S ds S1 _ hS e1 fun vs H1 k1 hS1 r1 => ?_
        rw [List.append_nil]
        refine ⟨C.hid, ds, yss, hn _ _ e2, hS1.wd, r1, e2, fun a bs H' sm nod nw at_ len cel => ?_⟩
        have nw0 : ∀ b ∈ a :: bs, H b = none := fun b hb => free_of' k1 hS1 (nw b hb)
        have lst : ∀ b ∈ a :: bs, ∃ xs, H' b = some (.lst xs) := fun b hb => by
          rcases List.mem_cons.mp hb with z | z
          · rw [z]; exact ⟨_, at_⟩
          · obtain ⟨j, hj, ej⟩ := List.mem_iff_getElem.mp z
            obtain ⟨us, w1, _⟩ := cel j b yss[j] (by rw [List.getElem?_eq_getElem hj, ej]) (List.getElem?_eq_getElem (by rw [← len]; exact hj))
            exact ⟨us, w1⟩
        have hA : Hold X.K ((C.drop i).mw (a :: bs)) (σ.set i (some (.ref a))) H' (S1.set i .no) := by
          have h2 := (hS1.drop i).addW sm nw lst
          have h3 := h2.putNo (i := i) (w := some (.ref a)) fun q hq => (mem_drop.mp hq).2
          rw [set_set] at h3
          exact h3
        have hn : Nst X.K (C.drop i) H' a bs yss := by
          refine ⟨at_, nod, len, fun k b ys w1 w2 => ?_, fun b hb => H0_none (C := C.drop i) (hS.drop i) (nw0 b hb), fun b hb z => hS.new (nw0 b hb) (drop_hid z)⟩
          obtain ⟨us, w3, w4⟩ := cel k b ys w1 w2
          refine ⟨us, w3, w4.mono (vw_of fun c hc => ?_)⟩
          rcases mem_mw.mp hc with z | z
          · exact List.mem_append_left _ z
          · exact List.mem_append_right _ (drop_hid z)
        have il : i < σ.length := by rw [hS.len]; exact hil
        have fin := hA.showN hn (List.getElem?_set_self il) h0 drop_no
        rw [set_set] at fin
        refine q ((C.drop i).gainL i (a :: bs)) _ _ ⟨rfl, rfl, rfl, k1.trans (.of sm), fun b hb => ?_⟩ fin
        rcases gainL_own hb with z | z
        · exact .inr (nw0 b z)
        · exact .inl (drop_own z)
      · cases hgg
    · cases hgg
end
end DK
namespace DK
open PySem PySem.Spec PyProof.Rows L2
section
variable {X : Cx} {K : PySem.W.Frag} {C : Ctx} {σ : Sg} {H H' : Hp} {S : Stt}
/-- for d in x: for o in d: if c: return ..; d.append(a new list). x: a list of lists of its own; c is false at each -/
def sTail (i d o : Nat) (c : EvB) (f : EvL) : EvSt := fun S => if i = 0 ∨ i = d ∨ i = o ∨ d = o ∨ isOn S[d]? = true ∨ isOn S[o]? = true ∨ ¬ (d < S.length ∧ o < S.length) ∨ freeS (S.set i .no) = false then none else match S[i]? with
  | some (.nst yss) => if (yss.all fun ys => decide (ys.length < 100000) && ys.all fun cls => match c (((S.set i .no).set d .no).set o (.sh cls)) with
      | some (b, _) => !b
      | none => false) then (match f (((S.set i .no).set d .no).set o .no) with
      | some (zs, _) => some (.nx ((((S.set i .no).set d .no).set o .no).set i (.nst (yss.map fun ys => ys ++ [.list zs]))))
      | none => none) else none
  | _ => none
theorem Hold.clr (h : Hold K C σ H S) {d : Nat} (n : isOn S[d]? = false) : Hold K C σ H (S.set d .no) := by
  have q := h.drop d
  rw [h.undrop (fun xs e => by rw [e] at n; cases n) fun xs e => by rw [e] at n; cases n] at q
  exact q
def tTail (K : PySem.W.Frag) (i d o : Nat) (tc : TT) (te : TE) : TS := tFor (iList K (tVar i)) (gName d) (tSeq (tFor (iList K (tVar d)) (gName o) (tIfS tc tNever tNext)) (tDrop (tBM K "list" rAppend (tVar d) (tCons te tNil))))
theorem ev_tail {i d o : Nat} {tc : TT} {te : TE} {c : EvB} {f : EvL} (hc : EvT K tc c) (hf0 : EvF K te f) : EvS K (tTail K i d o tc te) (sTail i d o c f) := fun C σ H S out D hS hf q => by
  unfold sTail at hf
  split at hf
  · cases hf
  · rename_i hn
    simp only [not_or, Bool.not_eq_true, Bool.not_eq_false, Classical.not_not] at hn
    obtain ⟨h0, id, io, do_, ond, ono, ⟨dl, ol⟩, fr⟩ := hn
    split at hf
    · rename_i yss ei
      split at hf
      · rename_i hall
        split at hf
        rotate_left
        · cases hf
        rename_i zs S3 ef
        cases hf
        obtain ⟨a, bs, ha, n, hM, own⟩ := hS.hideN ei h0
        have hO : (C.drop i).O = [] := (hS.drop i).noOwn fr
        generalize eD : (C.drop i).mw (a :: bs) = D0 at hM
        have hDO : D0.O = [] := by rw [← eD]; exact hO
        have nO : ∀ (j : Nat), ∀ p ∈ D0.O, p.1 ≠ j := fun j p hp => by rw [hDO] at hp; cases hp
        have wD : ∀ b ∈ a :: bs, b ∈ D0.W := fun b hb => by rw [← eD]; exact List.mem_append_left _ hb
        have fD : ∀ b ∈ a :: bs, D0.H0 b = none := fun b hb => by rw [← eD]; exact n.fr b hb
        have hid : ∀ b ∈ a :: bs, b ∈ D0.hid := fun b hb => List.mem_append_left _ (wD b hb)
        generalize eS : ((S.set i .no).set d .no).set o .no = S0 at ef q
        have dS : d < σ.length := by rw [hS.len]; exact dl
        have oS : o < σ.length := by rw [hS.len]; exact ol
        have hS0 : Hold K D0 σ H S0 := by
          have q1 : Hold K D0 σ H ((S.set i .no).set d .no) := hM.clr (by rw [List.getElem?_set_ne id]; exact ond)
          rw [← eS]
          exact q1.clr (by rw [List.getElem?_set_ne do_, List.getElem?_set_ne io]; exact ono)
        have set0 : ∀ x, S0.set o x = ((S.set i .no).set d .no).set o x := fun x => by rw [← eS, set_set]
        -- the outer loop's invariant
        let Pv : Nat → Sg → Hp → Prop := fun t σt Ht => Hold K D0 σt Ht S0 ∧ σt.length = σ.length ∧ (∀ b x, b ∉ a :: bs → H b = some x → Ht b = some x) ∧ Ht a = some (.lst (bs.map V.ref)) ∧ σt[i]? = some (some (.ref a)) ∧
          ∀ (k : Nat) (b : Addr) (ys : List PD), bs[k]? = some b → yss[k]? = some ys → ∃ vs, Ht b = some (.lst vs) ∧ RepL K (hide D0.hid Ht) (if k < t then ys ++ [.list zs] else ys) vs
        refine ⟨.ref a, ha, a, rfl, ⟨_, SqL.of n.at_⟩, for_list (xs := bs.map V.ref) Pv ⟨hS0, rfl, fun _ _ _ z => z, n.at_, ha, fun k b ys e1 e2 => by rw [← eD, if_neg (Nat.not_lt_zero k)]; exact n.cel k b ys e1 e2⟩ (fun t σt Ht _ p => SqL.of p.2.2.2.1) (fun t x σt Ht hx p => ?_) fun σt Ht p => ?_⟩
        · obtain ⟨hT, lenT, kT, aT, iT, celT⟩ := p
          have ht : t < bs.length := by
            have := (List.getElem?_eq_some_iff.mp hx).1
            simpa using this
          have hty : t < yss.length := by rw [← n.len]; exact ht
          have eb : bs[t]? = some bs[t] := List.getElem?_eq_getElem ht
          rw [List.getElem?_map, eb] at hx
          cases hx
          generalize hb : bs[t] = b at eb
          have hbm : b ∈ a :: bs := List.mem_cons_of_mem _ (List.mem_of_getElem? eb)
          obtain ⟨vs, w1, w2⟩ := celT t b yss[t] eb (List.getElem?_eq_getElem hty)
          rw [if_neg (Nat.lt_irrefl t)] at w2
          have hys := List.all_eq_true.mp hall _ (List.getElem_mem hty)
          simp only [Bool.and_eq_true, decide_eq_true_eq] at hys
          obtain ⟨hlen, hcls⟩ := hys
          have dT : d < σt.length := by rw [lenT]; exact dS
          have ed : (σt.set d (some (V.ref b)))[d]? = some (some (.ref b)) := List.getElem?_set_self dT
          have hTd : Hold K D0 (σt.set d (some (V.ref b))) Ht S0 := by
            have q1 := hT.putNo (i := d) (w := some (V.ref b)) (nO d)
            have e3 : S0.set d .no = S0 := by
              refine List.ext_getElem? fun j => ?_
              by_cases hj : d = j
              · subst hj
                have hl : d < S0.length := by rw [← eS]; simpa using dl
                rw [List.getElem?_set_self hl, ← eS, List.getElem?_set_ne (Ne.symm do_), List.getElem?_set_self (by simpa using dl)]
              · rw [List.getElem?_set_ne hj]
            rw [e3] at q1
            exact q1
          let Pi : Nat → Sg → Hp → Prop := fun k σk Hk => Hold K D0 σk Hk S0 ∧ σk.length = σ.length ∧ Same Ht Hk ∧ σk[d]? = some (some (.ref b)) ∧ σk[i]? = some (some (.ref a))
          show tSeq _ _ _ (σt.set d (some (V.ref b))) Ht
          refine ⟨.ref b, ed, b, rfl, ⟨_, SqL.of w1⟩, for_list (xs := vs) Pi ⟨hTd, by rw [List.length_set]; exact lenT, Same.refl _, ed, by rw [List.getElem?_set_ne (Ne.symm id)]; exact iT⟩ (fun k σk Hk _ p => SqL.of (p.2.2.1 _ _ w1)) (fun k x σk Hk hx p => ?_) fun σk Hk p => ?_⟩
          · obtain ⟨hK, lenK, smK, edK, iK⟩ := p
            obtain ⟨cls, ec, rc⟩ := w2.get hx
            have hcm := List.all_eq_true.mp hcls cls (List.mem_of_getElem? ec)
            have rk : Rep K (hide D0.hid Hk) cls x := rc.mono (Keep.of (O := D0.hid) smK).vw
            have hP := hK.putSh (i := o) (nO o) rk
            rw [set0] at hP
            split at hcm
            · rename_i bb S2 e2
              cases bb with
              | true => cases hcm
              | false =>
                show tIfS tc tNever tNext _ (σk.set o (some x)) Hk
                refine hc D0 _ Hk _ false S2 _ hP e2 fun H2 k2 _ => ?_
                have sm2 := k2.same hDO
                rw [if_neg Bool.false_ne_true]
                have hN := (hK.putNo (i := o) (w := some x) (nO o)).same sm2
                have e3 : S0.set o .no = S0 := by rw [set0, eS]
                rw [e3] at hN
                exact ⟨hN, by rw [List.length_set]; exact lenK, fun b o z => sm2 _ _ (smK _ _ z), by rw [List.getElem?_set_ne (Ne.symm do_)]; exact edK, by rw [List.getElem?_set_ne (Ne.symm io)]; exact iK⟩
            · cases hcm
          · obtain ⟨hK, lenK, smK, edK, iK⟩ := p
            have wk := smK _ _ w1
            refine ⟨.ref b, edK, .inl ⟨rfl, _, SqL.of wk⟩, hf0 D0 σk Hk S0 zs S3 _ hK ef fun p us H1 np k1 hp hS1 r1 => ?_⟩
            have sm1 := k1.same hDO
            refine ⟨b, vs, .ref p, rfl, rfl, sm1 _ _ wk, by rw [w2.length, sizeLine_eq]; omega, ?_⟩
            have hN := (hK.same sm1).chgW (p := b) (ys := vs ++ [V.ref p]) (wD b hbm) (fD b hbm)
            have nab : a ≠ b := fun z => (List.nodup_cons.mp n.nod).1 (by rw [z]; exact List.mem_of_getElem? eb)
            have vwb : Same (hide D0.hid H1) (hide D0.hid (upd H1 b (.lst (vs ++ [V.ref p])))) := fun c2 o2 z => by
              obtain ⟨z1, z2⟩ := hide_some.mp z
              refine hide_some.mpr ⟨z1, ?_⟩
              rw [upd_ne (fun y => z1 (by rw [y]; exact hid b hbm))]
              exact z2
            have vwt : Same (hide D0.hid Ht) (hide D0.hid H1) := fun c2 o2 z => by
              obtain ⟨z1, z2⟩ := hide_some.mp z
              exact hide_some.mpr ⟨z1, sm1 _ _ (smK _ _ z2)⟩
            have rp : Rep K (hide D0.hid H1) (.list zs) (.ref p) := ⟨p, us, rfl, hide_some.mpr ⟨hK.new np, hp⟩, r1.mono hide_more_le⟩
            refine ⟨hN, lenK, fun c y hc' hy => ?_, ?_, iK, fun k c ys e1 e2 => ?_⟩
            · rw [upd_ne (fun z => hc' (by rw [z]; exact hbm))]
              exact sm1 _ _ (smK _ _ (kT c y hc' hy))
            · rw [upd_ne nab]
              exact sm1 _ _ (smK _ _ aT)
            · by_cases hkt : k = t
              · subst hkt
                rw [eb] at e1
                cases e1
                rw [List.getElem?_eq_getElem hty] at e2
                cases e2
                refine ⟨vs ++ [V.ref p], upd_same, ?_⟩
                rw [if_pos (Nat.lt_succ_self _)]
                exact ((w2.mono vwt).append (.one rp)).mono vwb
              · obtain ⟨us2, w3, w4⟩ := celT k c ys e1 e2
                have ncb : c ≠ b := fun z => by
                  subst z
                  have nd := (List.nodup_cons.mp n.nod).2
                  have h1 := (List.getElem?_eq_some_iff.mp eb).1
                  have h2 := (List.getElem?_eq_some_iff.mp e1).1
                  have h3 := (List.getElem?_eq_some_iff.mp eb).2.trans (List.getElem?_eq_some_iff.mp e1).2.symm
                  rcases Nat.lt_or_gt_of_ne hkt with y | y
                  · exact List.pairwise_iff_getElem.mp nd k t h2 h1 y h3.symm
                  · exact List.pairwise_iff_getElem.mp nd t k h1 h2 y h3
                refine ⟨us2, by rw [upd_ne ncb]; exact sm1 _ _ (smK _ _ w3), ?_⟩
                have eif : (if k < t + 1 then ys ++ [PyData.list zs] else ys) = if k < t then ys ++ [PyData.list zs] else ys := by
                  by_cases h1 : k < t
                  · rw [if_pos h1, if_pos (by omega)]
                  · rw [if_neg h1, if_neg (by omega)]
                rw [eif]
                exact (w4.mono vwt).mono vwb
        · obtain ⟨hT, lenT, kT, aT, iT, celT⟩ := p
          rw [← eD] at hT
          have n' : Nst K (C.drop i) Ht a bs (yss.map fun ys => ys ++ [.list zs]) := by
            refine ⟨aT, n.nod, by rw [List.length_map]; exact n.len, fun k b ys e1 e2 => ?_, n.fr, n.out⟩
            rw [List.getElem?_map] at e2
            cases e3 : yss[k]? with
            | none => rw [e3] at e2; cases e2
            | some zs0 =>
              rw [e3] at e2
              cases e2
              have := celT k b zs0 e1 e3
              have hk := (List.getElem?_eq_some_iff.mp e1).1
              rw [if_pos (by simpa using hk), ← eD] at this
              exact this
          obtain ⟨s4, h4⟩ := shown (H := H) hT n' iT h0 (fun b hb => .inl (own b hb)) fun b x hb hx => kT b x (fun z => hb (own b z)) hx
          exact q _ σt Ht s4 h4
      · cases hf
    · cases hf
theorem dTail {st : Stmt} {tc : Expr} {te : Expr} {c : EvB} {f : EvL} (i d o : Nat) (h : PS X st (tTail X.K i d o (wT X tc) (wE X te))) (hc : DT X tc c) (hf : DF X te f) : DS X st (sTail i d o c f) := .mk h (ev_tail hc hf)
end
end DK
namespace DK
open PySem PySem.Spec PyProof.Rows L2
section
variable {X : Cx} {K : PySem.W.Frag} {tg : Expr} {pos : Pos}
/-! ## x = [a new list for .. in ..] -/
def nstL (vs : List Nat) (tgt : PD → Stt → Option Stt) (elt : EvL) : List PD → Stt → List (List PD) → Option (List (List PD) × Stt)
  | [], S, acc => some (acc, S)
  | d :: ds, S, acc => match tgt d S with
    | none => none
    | some S1 => match elt S1 with
      | none => none
      | some (y, S3) => nstL vs tgt elt ds (wipeS S3 vs) (acc ++ [y])
def sNstC (i : Nat) (items : EvL) (vs : List Nat) (tgt : PD → Stt → Option Stt) (elt : EvL) : EvSt := fun S => if i = 0 ∨ ¬ i < S.length then none else match items S with
  | some (ds, S1) => if noOw S1 vs && decide (ds.length < 100000) then (match nstL vs tgt elt ds (wipeS S1 vs) [] with
    | some (yss, S2) => some (.nx ((unw S1 S2 vs).set i (.nst yss)))
    | none => none) else none
  | none => none
theorem ev_nstc {w : TI} {g : TG} {tt : TT} {te : TE} {vs : List Nat} {items : EvL} {tgt : PD → Stt → Option Stt} {elt : EvL} (i : Nat) (hi : EvI K w items) (hg : EvG K g vs tgt) (ht : EvT K tt bTrue) (he : EvF K te elt) :
    EvS K (tAsg (tLc w g tt te vs) (gName i)) (sNstC i items vs tgt elt) := fun C σ H S o Ds hS hf q => by
  unfold sNstC at hf
  split at hf
  · cases hf
  · rename_i hne
    simp only [not_or, Classical.not_not] at hne
    obtain ⟨h0i, hil⟩ := hne
    split at hf
    · rename_i ds S1 h1
      split at hf
      · rename_i hc
        rw [Bool.and_eq_true] at hc
        obtain ⟨no1, hsz⟩ := hc
        have hsz := of_decide_eq_true hsz
        split at hf
        · rename_i yss S2 h2
          cases hf
          refine hi C σ H S ds S1 _ hS h1 fun J H1 k1 hS1 it => ?_
          intro D nD
          have nDh : D ∉ C.hid := hS1.new nD
          have hf0 : C.H0 D = none := H0_none hS1 nD
          have noO := hS1.noO no1
          have start : Hold K (C.mw [D]) (L2.wipe σ vs) (upd H1 D (.lst [])) (wipeS S1 vs) := (hS1.more nD).wipe (σ := σ) noO rfl
          have n0 : Nst K C (upd H1 D (.lst [])) D [] [] := ⟨upd_same, by simp, rfl, fun k b ys e1 => by simp at e1, fun b hb => by simp at hb; rw [hb]; exact hf0, fun b hb => by simp at hb; rw [hb]; exact nDh⟩
          have vw0 : Same (hide C.hid H1) (hide (C.mw [D]).hid (upd H1 D (.lst []))) := vw_more (Kp.of (same_upd (o := HO.lst []) nD)) nD
          refine ⟨fun t m H' => m = ds.length - t ∧ t ≤ ds.length ∧ ∃ Si bs acc, Kp C H1 H' ∧ Same (hide C.hid H1) (hide (C.mw (D :: bs)).hid H') ∧ Hold K (C.mw (D :: bs)) (L2.wipe σ vs) H' Si ∧ Nst K C H' D bs acc ∧ (∀ b ∈ D :: bs, H1 b = none) ∧ acc.length ≤ t ∧ nstL vs tgt elt (ds.drop t) Si acc = some (yss, S2),
            ⟨ds.length, by omega, Nat.zero_le _, wipeS S1 vs, [], [], .of (same_upd nD), vw0, start, n0, fun b hb => by simp at hb; rw [hb]; exact nD, Nat.le_refl _, by simpa using h2⟩, ?_⟩
          rintro t m H' ⟨rfl, ht', Si, bs, acc, kH, vH, hSi, n, nw, hal, hl⟩
          obtain ⟨go, stop, yld⟩ := it H' (C.mw (D :: bs)).hid vH fun p np => hSi.new np
          by_cases hlt : t < ds.length
          · refine .inr ⟨go t hlt, fun H2 => ∃ Si bs acc, Kp C H1 H2 ∧ Same (hide C.hid H1) (hide (C.mw (D :: bs)).hid H2) ∧ Hold K (C.mw (D :: bs)) (L2.wipe σ vs) H2 Si ∧ Nst K C H2 D bs acc ∧ (∀ b ∈ D :: bs, H1 b = none) ∧ acc.length ≤ t + 1 ∧ nstL vs tgt elt (ds.drop (t + 1)) Si acc = some (yss, S2),
              fun H2 h => ⟨ds.length - (t + 1), by omega, rfl, by omega, h⟩, fun x H2 hy => ?_⟩
            obtain ⟨sm, rx⟩ := yld t ds[t] x H2 (List.getElem?_eq_getElem hlt) hy
            have hS2 := hSi.same sm
            have n2 := n.kp (Kp.of sm)
            rw [List.drop_eq_getElem_cons hlt] at hl
            unfold nstL at hl
            cases e1 : tgt ds[t] Si with
            | none => rw [e1] at hl; cases hl
            | some S3 =>
              rw [e1] at hl
              dsimp only at hl
              refine hg (C.mw (D :: bs)) _ H2 Si ds[t] x S3 _ hS2 noO rx e1 fun σ3 hS3 ew => ?_
              rw [wipe_wipe] at ew
              refine ⟨ew, ht (C.mw (D :: bs)) σ3 H2 S3 true S3 _ hS3 rfl fun H4 k4 hS4 => ?_⟩
              rw [if_pos rfl]
              cases e3 : elt S3 with
              | none => rw [e3] at hl; cases hl
              | some p5 =>
                obtain ⟨y, S5⟩ := p5
                rw [e3] at hl
                dsimp only at hl
                have n4 := n2.kp k4
                refine he (C.mw (D :: bs)) σ3 H4 S3 y S5 _ hS4 e3 fun p us H5 np k5 hp hS5 r5 => ?_
                have n5 := n4.kp k5
                obtain ⟨n6, h6⟩ := push_core n4 hS4 np k5 hp hS5 r5
                have e4 : bs.map V.ref ++ [V.ref p] = (bs ++ [p]).map V.ref := by rw [List.map_append]; rfl
                refine ⟨bs.map V.ref, n5.at_, by rw [List.length_map, n.len, sizeLine_eq]; omega, ?_⟩
                rw [e4]
                have kT : Kp C H1 H5 := ((kH.trans (Kp.of sm)).trans (Kp.back (C := C) k4 fun b z => z)).trans (Kp.back (C := C) k5 fun b z => z)
                have np1 : H1 p = none := by
                  cases hh : H1 p with
                  | none => rfl
                  | some o =>
                    have po : p ∉ C.own := fun z => by
                      obtain ⟨xs, w⟩ := hS4.wd p (mem_mw.mpr (.inr (own_hid z)))
                      rw [np] at w; cases w
                    have := ((kH.trans (Kp.of sm)).trans (Kp.back (C := C) k4 fun b z => z)) p o po hh
                    rw [np] at this; cases this
                refine ⟨wipeS S5 vs, bs ++ [p], acc ++ [y], fun b o hb hh => ?_, fun b o z => ?_, h6.wipe noO ew, n6, fun b hb => ?_, by simp; omega, hl⟩
                · rw [upd_ne (fun z => by rw [z, nw D List.mem_cons_self] at hh; cases hh)]
                  exact kT b o hb hh
                · obtain ⟨z1, z2⟩ := hide_some.mp z
                  have nb : b ∉ D :: (bs ++ [p]) := fun w => by
                    rcases List.mem_cons.mp w with w | w
                    · rw [w, nw D List.mem_cons_self] at z2; cases z2
                    · rcases List.mem_append.mp w with w | w
                      · rw [nw b (List.mem_cons_of_mem _ w)] at z2; cases z2
                      · simp at w; rw [w, np1] at z2; cases z2
                  refine hide_some.mpr ⟨fun w => ?_, ?_⟩
                  · rcases mem_mw.mp w with w | w
                    · exact nb w
                    · exact z1 w
                  · rw [upd_ne (fun w => nb (by rw [w]; exact List.mem_cons_self))]
                    exact kT b o (fun w => z1 (own_hid w)) z2
                · rcases List.mem_cons.mp hb with w | w
                  · rw [w]; exact nw D List.mem_cons_self
                  · rcases List.mem_append.mp w with w | w
                    · exact nw b (List.mem_cons_of_mem _ w)
                    · simp at w; rw [w]; exact np1
          · refine .inl ⟨stop t (by omega), ?_⟩
            rw [List.drop_eq_nil_of_le (by omega)] at hl
            cases hl
            have hU := hS1.unw no1 hSi rfl vH
            have hd := (hU.drop i).putNo (i := i) (w := some (V.ref D)) fun p hp => (mem_drop.mp hp).2
            rw [set_set] at hd
            have n' : Nst K (C.drop i) H' D bs yss := by
              refine ⟨n.at_, n.nod, n.len, fun k b ys e1 e2 => ?_, n.fr, fun b hb z => n.out b hb (drop_hid z)⟩
              obtain ⟨us, w1, w2⟩ := n.cel k b ys e1 e2
              refine ⟨us, w1, w2.mono (vw_of fun c hc => ?_)⟩
              rcases mem_mw.mp hc with z | z
              · exact mem_mw.mpr (.inl z)
              · exact mem_mw.mpr (.inr (drop_hid z))
            have il : i < σ.length := by rw [hS.len]; exact hil
            have fin := Hold.showN (C := C.drop i) hd n' (List.getElem?_set_self il) h0i drop_no
            rw [set_set] at fin
            refine q ((C.drop i).gainL i (D :: bs)) (σ.set i (some (V.ref D))) H' ⟨rfl, rfl, rfl, k1.trans kH, fun b hb => ?_⟩ fin
            rcases gainL_own hb with z | z
            · refine .inr ?_
              exact free_of' k1 hS1 (nw b z)
            · exact .inl (drop_own z)
        · cases hf
      · cases hf
    · cases hf
theorem dNstC {y : Str} {py spos : Pos} {elt iter : Expr} {scope : Scope} {own : List (Str × Nat)} {items : EvL} {tgt : PD → Stt → Option Stt} {el : EvL} (i : Nat) (hc : X.calm = true) (hN : X.N.Nodup) (hi : DI X tg iter items) (ok : BlkOk X.N X.env.scope scope own)
    (hg : ∃ g, (∀ (s : Shared) (H : Hp) (C : Addr) (cl : List (Str × Addr)) (fp : List Addr), PG (X.blk s H scope (compEnvC scope cl C X.env) fp) tg g) ∧ EvG X.K g (own.map (·.2)) tgt)
    (he : ∀ (s : Shared) (H : Hp) (C : Addr) (cl : List (Str × Addr)) (fp : List Addr), DF (X.blk s H scope (compEnvC scope cl C X.env) fp) elt el)
    (hy : X.N[i]? = some y := by rfl) (hyl : X.env.scope.names.lookup y = some .local := by rfl)
    (hsw : swapsWith (.ListComp elt [⟨tg, iter, [], 0⟩] scope pos) (some (.Name y py)) spos.line X.env = pure true := by exact sw_true rfl rfl rfl (by decide +kernel)) (hs : ∀ x, foldedSetIterable iter X.env x = pure x := by intro _; rfl) :
    DS X (.Assign [.Name y py] (.ListComp elt [⟨tg, iter, [], 0⟩] scope pos) spos) (sNstC i items (own.map (·.2)) tgt el) := by
  obtain ⟨g, pg, kg⟩ := hg
  refine .mk (ps_setLc hc hN hy hyl hsw pi_w ok pg (tt := fun σ H Q => ∀ (s : Shared) (H0 : Hp) (C : Addr) (cl : List (Str × Addr)) (fp : List Addr), wTs (X.blk s H0 scope (compEnvC scope cl C X.env) fp) [] σ H Q)
    (te := fun σ H Q => ∀ (s : Shared) (H0 : Hp) (C : Addr) (cl : List (Str × Addr)) (fp : List Addr), wE (X.blk s H0 scope (compEnvC scope cl C X.env) fp) elt σ H Q)
    (fun s H C cl fp => ⟨fun pins s' σ H' Q I h => h s H C cl fp pins s' I⟩) (fun s H C cl fp => ⟨fun pins s' σ H' Q I h => h s H C cl fp pins s' I⟩) hs) ?_
  exact ev_nstc i hi kg (fun C σ H S b S' Q hS hf q s H0 C0 cl fp => dtNil C σ H S b S' Q hS hf q) (fun C σ H S xs S' Q hS hf q s H0 C0 cl fp => he s H0 C0 cl fp C σ H S xs S' Q hS hf q)
end
end DK
namespace DK
open PySem PySem.Spec PyProof.Rows L2
/-- the same result as shared data -/
def toF (f : List PD → Option (List (List PD))) : List PD → Option (List PD) := fun ds => (f ds).map fun yss => yss.map PyData.list
theorem toF_len {f : List PD → Option (List (List PD))} {n : Nat} (h : ∀ ds d, f ds = some d → ds.length = n) : ∀ ds d, toF f ds = some d → ds.length = n := fun ds d hd => by
  unfold toF at hd
  cases e : f ds with
  | none => rw [e] at hd; cases hd
  | some yss => exact h ds yss e
section
variable {P : Program} {w : World} {K : PySem.W.Frag} {mg : Str → Option Value} {base : Heap} {fd : FuncData} {ps : List Str} {k n : Nat} {f : Addr} {x : Str}
theorem spN_F {g : List PD → Option (List (List PD))} {vs : List V} {H : Hp} {Q : VK} {E : XK} (h : spF K n (toF g) vs H Q E) : spN K n g vs H Q E := by
  obtain ⟨W, ds, ys, hl, wd, r, hg, q⟩ := h
  unfold toF at hg
  cases e : g ds with
  | none => rw [e] at hg; cases hg
  | some yss =>
    rw [e] at hg
    cases hg
    refine ⟨W, ds, yss, hl, wd, r, e, fun p bs H' sm nod nw at_ len cel => q p (bs.map V.ref) H' sm (nw p List.mem_cons_self) at_ (RepL.of_get (by simp [len]) fun j v d h1 h2 => ?_)⟩
    rw [List.getElem?_map] at h1 h2
    cases e1 : bs[j]? with
    | none => rw [e1] at h1; cases h1
    | some b =>
      cases e2 : yss[j]? with
      | none => rw [e2] at h2; cases h2
      | some zs =>
        rw [e1] at h1
        rw [e2] at h2
        cases h1
        cases h2
        obtain ⟨us, w1, w2⟩ := cel j b zs e1 e2
        have hb := List.mem_of_getElem? e1
        have nb : b ∉ p :: W := fun z => by
          rcases List.mem_cons.mp z with z | z
          · exact (List.nodup_cons.mp nod).1 (by rw [← z]; exact hb)
          · obtain ⟨xs, y⟩ := wd b z
            rw [nw b (List.mem_cons_of_mem _ hb)] at y; cases y
        refine ⟨b, us, rfl, hide_some.mpr ⟨nb, w1⟩, w2.mono (vw_of fun c hc => ?_)⟩
        rcases List.mem_cons.mp hc with z | z
        · rw [z]; exact List.mem_append_left _ List.mem_cons_self
        · exact List.mem_append_right _ z
theorem fnok_NF {g : List PD → Option (List (List PD))} (h : FnOk P w K mg base CX0 k f fd ps (spN K n g)) : FnOk P w K mg base CX0 k f fd ps (spF K n (toF g)) :=
  ⟨fun vs H Q E q => h.len vs H Q E (spN_F q), fun A outer s H args us vs Q E a b c d q => h.run A outer s H args us vs Q E a b c d (spN_F q)⟩
theorem okd_NF {g : List PD → Option (List (List PD))} (h : Okd P w K mg base k x ps (spN K n g)) : Okd P w K mg base k x ps (spF K n (toF g)) := by
  obtain ⟨f, fd, F, r⟩ := h
  exact ⟨f, fd, fnok_NF F, r⟩
end
end DK
namespace DK
open PySem PySem.Spec PyProof.Rows L2
/-! ## {e}, one whole number -/
def tSet1 (w : World) (te : TE) : TE := fun σ H Q => ∀ p, H p = none → te σ (upd H p (SetO w p (fun _ => false) 0)) fun x H1 => ∃ k, x = .int k ∧ H1 p = some (SetO w p (fun _ => false) 0) ∧
  Q (.ref p) (upd H1 p (SetO w p (fun j => false || decide (j = k)) 1))
section
variable {X : Cx} {e : Expr} {te : TE} {pos : Pos}
theorem pe_set1 (hcd : PySem.W.kdsCode X.K X.env.code = true) (he : PE X e te) (hst : starEach [e] X.env = (false, eval e X.env) :: starEach [] X.env := by rfl) : PE X (.Set [e] 0 pos) (tSet1 X.w te) := by
  refine ⟨fun pins s σ H Q I h => ?_⟩
  rw [arm_eval_Set]
  refine wpAny_bind (wpAny_standAt ?_)
  refine wpAny_bind (PySem.W.kds_main I.kIn hcd fun b => ?_)
  rw [hst]
  show wpAny _ _ (setDisplay .oneByOne b [(false, do let v ← eval e X.env; standAt pos; pure v)]) _ _ s
  unfold setDisplay
  have e0 : (DisplayRoad.oneByOne == DisplayRoad.constants) = false := rfl
  have e1 : (DisplayRoad.oneByOne == DisplayRoad.unsure) = false := rfl
  simp only [e0, e1, Bool.false_eq_true, if_false]
  refine wpAny_bind (PpSet.newSet_ok ?_)
  dsimp only
  have fr : H s.heap.objs.size = none := I.hok.fresh (Nat.le_refl _)
  have I1 : Inv X pins σ (upd H s.heap.objs.size (SetO X.w s.heap.objs.size (fun _ => false) 0)) { s with heap := s.heap.push { cls := .type "set", dict := none, data := .set #[] 0 (.fresh 0 0 (!X.w.params.followText "set-order")) } } :=
    I.laid (t' := s.toks) (fun b u e => Heap.get?_push_of_some _ e) (Nat.le_refl _) (setO_new (setR_fresh X.w))
  have h1 := h s.heap.objs.size fr
  generalize et : (do let v ← eval e X.env; standAt pos; pure v) = t
  have en : (if [(false, t)].length > 30 then 0 else ([(false, t)].findIdx? (fun x => x.fst)).getD [(false, t)].length) = 1 := rfl
  rw [en]
  show wpAny _ _ ((holding [Value.ref s.heap.objs.size] do
    let first ← (t >>= fun v => holding [v] (pure []) >>= fun r => pure (v :: r))
    holding first do
      forIn first PUnit.unit fun x __s => do
        let _ ← setAdd s.heap.objs.size x
        pure (ForInStep.yield PUnit.unit)
      pure ()
    pure ()) >>= fun _ => pure (Value.ref s.heap.objs.size)) _ _ _
  refine wpAny_bind (wpAny_holding ?_)
  refine wpAny_bind (wpAny_bind ?_)
  rw [← et]
  refine wpAny_bind (thn (he.run pins _ σ _ _ I1 h1) fun v s1 ⟨x, H1, I2, r1, q1⟩ => ?_)
  refine wpAny_bind (wpAny_standAt (wpAny_pure ?_))
  refine wpAny_bind (wpAny_holding (wpAny_pure (wpAny_pure ?_)))
  obtain ⟨k, rfl, hk, q⟩ := q1
  obtain ⟨tk, rfl⟩ := r1
  refine wpAny_bind (wpAny_holding ?_)
  rw [List.forIn_cons]
  unfold setAdd
  have R := setO_get I2 hk
  refine wpAny_bind (wpAny_bind (wpAny_bind (wpAny_bind ?_)))
  refine (intKind X.prog X.w).pyHash (intKind_is _ _ k tk) ?_
  refine setR_add_hashed (s := { s1 with toks := s1.toks + 1 }) R (by decide) fun h' sb new => ?_
  refine wpAny_pure ?_
  dsimp only
  rw [List.forIn_nil]
  refine wpAny_pure (wpAny_pure (wpAny_pure (wpAny_pure ?_)))
  have new' : SetR X.w h' s.heap.objs.size (fun j => false || decide (j = k)) 1 := by simpa using new
  have hex : ∃ u, h'.get? s.heap.objs.size = some u := by
    obtain ⟨o, _, _, _, ho, _⟩ := new'
    exact ⟨o, ho⟩
  exact ⟨.ref s.heap.objs.size, upd H1 s.heap.objs.size (SetO X.w s.heap.objs.size (fun j => false || decide (j = k)) 1), I2.write (e := s.heap.objs.size) (t' := s1.toks + 1) (by rw [hk]; trivial) (.inl rfl) (fun b u hb hu => (sb.2 b hb).trans hu) hex (setO_new new'), rfl, q⟩
end
end DK
namespace DK
open PySem PySem.Spec PyProof.Rows L2
/-! ## the places that can be reached -/
def addT : List Int → List Int → List PD → Option (List Int × List Int)
  | seen, wait, [] => some (seen, wait)
  | seen, wait, .int t :: r => if t ∈ seen then addT seen wait r else if seen.length < 60 then addT (seen ++ [t]) (wait ++ [t]) r else none
  | _, _, _ => none
def rchL (tg : List PD → Option (List PD)) (g : PD) : Nat → List Int → List Int → Option (List Int)
  | 0, _, _ => none
  | m + 1, seen, wait => match wait.getLast? with
    | none => some seen
    | some p => match tg [g, .int p] with
      | none => none
      | some ds => match addT seen wait.dropLast ds with
        | none => none
        | some (s, w) => rchL tg g m s w
def srtI (l : List Int) : List Int := l.mergeSort fun a b => decide (a ≤ b)
def fReached (tg : List PD → Option (List PD)) : List PD → Option (List PD)
  | [g, .int p] => (rchL tg g 1000 [p] [p]).map fun s => (srtI s).map PyData.int
  | _ => none
theorem fReached_len {tg : List PD → Option (List PD)} : ∀ ds d, fReached tg ds = some d → ds.length = 2 := fun ds d h => by
  unfold fReached at h
  split at h
  · rfl
  · cases h
theorem asc_extI : ∀ {a b : List Int}, a.Pairwise (· < ·) → b.Pairwise (· < ·) → (∀ x, x ∈ a ↔ x ∈ b) → a = b
  | [], [], _, _, _ => rfl
  | [], y :: b, _, _, h => by have := (h y).mpr List.mem_cons_self; cases this
  | x :: a, [], _, _, h => by have := (h x).mp List.mem_cons_self; cases this
  | x :: a, y :: b, ha, hb, h => by
    have ha' := List.pairwise_cons.mp ha
    have hb' := List.pairwise_cons.mp hb
    have e : x = y := by
      rcases List.mem_cons.mp ((h x).mp List.mem_cons_self) with z | z
      · exact z
      · rcases List.mem_cons.mp ((h y).mpr List.mem_cons_self) with w | w
        · exact w.symm
        · have := hb'.1 x z
          have := ha'.1 y w
          omega
    subst e
    rw [asc_extI ha'.2 hb'.2 fun z => ?_]
    constructor
    · intro hz
      rcases List.mem_cons.mp ((h z).mp (List.mem_cons_of_mem _ hz)) with w | w
      · have := ha'.1 z hz
        omega
      · exact w
    · intro hz
      rcases List.mem_cons.mp ((h z).mpr (List.mem_cons_of_mem _ hz)) with w | w
      · have := hb'.1 z hz
        omega
      · exact w
theorem srtI_asc {l : List Int} (h : l.Nodup) : (srtI l).Pairwise (· < ·) ∧ ∀ x, x ∈ srtI l ↔ x ∈ l := by
  have pm : (srtI l).Perm l := List.mergeSort_perm _ _
  have nd := pm.nodup_iff.mpr h
  have le : (srtI l).Pairwise fun a b => decide (a ≤ b) = true := List.pairwise_mergeSort (fun a b c h1 h2 => by simp at *; omega) (fun a b => by simp; omega) l
  refine ⟨(le.and nd).imp fun {a b} h => ?_, fun x => pm.mem_iff⟩
  have h1 := of_decide_eq_true h.1
  have h2 := h.2
  omega
def tReached (K : PySem.W.Frag) (w : World) (tg : List PD → Option (List PD)) : TS := tSeq (tAsg (tSet1 w (tVar 1)) (gName 2)) (tSeq (tAsg (tLst (tCons (tVar 1) tNil)) (gName 3)) (tSeq
  (tWhile (fun σ H Q => tVar 3 σ H fun x H' => ∃ k, TruV K x H' k ∧ Q k H') (tFor (iList K (tCall (spF K 2 tg) [] E0 (tCons (tVar 0) (tCons (tBM0 K "list" rPop (tVar 3)) tNil)))) (gName 4)
    (tIfS (tTest (tOp (rSNotIn w) (tVar 4) (tVar 2))) (tSeq (tDrop (tSAdd w (tVar 2) (tCons (tVar 4) tNil))) (tDrop (tBM K "list" rAppend (tVar 3) (tCons (tVar 4) tNil)))) tNext)))
  (tRet (tCB (rSortedSet w) (tCons (tVar 2) tNil)))))
section
variable {K : PySem.W.Frag} {w : World} {tg : List PD → Option (List PD)}
theorem rd_reached (htg : ∀ ds d, tg ds = some d → ds.length = 2) {n1 n2 n3 n4 n5 : Str} {vs : List V} {H : Hp} {Q : VK} {E : XK} (h : spF K 2 (fReached tg) vs H Q E) : tReached K w tg { nx := fun _ H' => Q .non H', rt := Q } (L2.start [n1, n2, n3, n4, n5] vs) H := by
  obtain ⟨W, ds, ys, hl, wd, r, hf, q⟩ := h
  unfold fReached at hf
  split at hf
  rotate_left
  · cases hf
  rename_i g p
  obtain ⟨vg, w1, rfl, rg, r2⟩ := r
  obtain ⟨vp, w2, rfl, rp, r3⟩ := r2
  cases (show w2 = [] from r3)
  cases (show vp = .int p from rp)
  cases e : rchL tg g 1000 [p] [p] with
  | none => rw [e] at hf; cases hf
  | some res =>
    rw [e] at hf
    cases hf
    show tReached K w tg _ [some vg, some (.int p), none, none, none] H
    refine fun a na => ⟨.int p, rfl, p, rfl, upd_same, ?_⟩
    refine ⟨.int p, rfl, by show 1 ≤ _; rw [sizeLine_eq]; omega, fun b nb => ?_⟩
    have nba : b ≠ a := fun z => by rw [z, upd_same] at nb; cases nb
    have nb0 : H b = none := by
      cases hh : H b with
      | none => rfl
      | some o => rw [upd_ne nba, upd_ne nba, hh] at nb; cases nb
    let Inn : List Int → List Int → Option V → Sg → Hp → Prop := fun seen wait y σ Hx => σ = [some vg, some (.int p), some (.ref a), some (.ref b), y] ∧ Same H Hx ∧ Hx a = some (SetO w a (fun j => decide (j ∈ seen)) seen.length) ∧ Hx b = some (.lst (wait.map V.int)) ∧ seen.Nodup ∧ seen.length ≤ 60 ∧ wait.length ≤ seen.length
    refine ⟨fun m σ Hx => ∃ seen wait y, Inn seen wait y σ Hx ∧ rchL tg g m seen wait = some res, ⟨1000, [p], [p], none, ⟨rfl, fun c o z => ?_, ?_, upd_same, by simp, by simp, by simp⟩, e⟩, ?_⟩
    · have ca : c ≠ a := fun y => by rw [y, na] at z; cases z
      have cb : c ≠ b := fun y => by rw [y, nb0] at z; cases z
      rw [upd_ne cb, upd_ne ca, upd_ne ca]
      exact z
    · rw [upd_ne (Ne.symm nba), upd_same]
      have : (fun j => false || decide (j = p)) = fun j => decide (j ∈ [p]) := by funext j; simp
      rw [this]
      rfl
    · rintro m σ Hx ⟨seen, wait, y, ⟨rfl, sm, ha, hb, nd, sl, wl⟩, hr⟩
      cases m with
      | zero => cases hr
      | succ m =>
        unfold rchL at hr
        refine ⟨.ref b, rfl, !(wait.map V.int).isEmpty, .inl ⟨_, SqL.of hb, rfl⟩, ?_⟩
        cases hg : wait.getLast? with
        | none =>
          rw [hg] at hr
          cases hr
          have hw : wait = [] := List.getLast?_eq_none_iff.mp hg
          subst hw
          rw [if_neg (by simp)]
          refine ⟨.ref a, rfl, a, _, _, rfl, ha, by omega, fun ns p' hp hm hln np => ?_⟩
          obtain ⟨s1, s2⟩ := srtI_asc nd
          have en : ns = srtI res := asc_extI hp s1 fun x => by rw [hm, s2]; simp
          have np0 : H p' = none := sm.free np
          refine q p' (ns.map V.int) _ (fun c o z => same_upd np _ _ (sm _ _ z)) np0 upd_same ?_
          rw [en]
          exact rep_ints _
        | some p1 =>
          rw [hg] at hr
          dsimp only at hr
          have hne : wait ≠ [] := fun z => by rw [z] at hg; cases hg
          rw [if_pos (by cases wait with
            | nil => exact absurd rfl hne
            | cons _ _ => rfl)]
          cases ht : tg [g, .int p1] with
          | none => rw [ht] at hr; cases hr
          | some ds' =>
            rw [ht] at hr
            dsimp only at hr
            cases hA : addT seen wait.dropLast ds' with
            | none => rw [hA] at hr; cases hr
            | some sw =>
              obtain ⟨s', w'⟩ := sw
              rw [hA] at hr
              dsimp only at hr
              refine ⟨fun σ' H' => ∃ seen wait y, Inn seen wait y σ' H' ∧ rchL tg g m seen wait = some res, fun σ' H' z => ⟨m, Nat.lt_succ_self _, z⟩, ?_⟩
              have sm1 : Same H (upd Hx b (.lst (wait.map V.int).dropLast)) := fun c o z => by
                rw [upd_ne (fun y => by rw [y, nb0] at z; cases z)]
                exact sm _ _ z
              have wl1 : (wait.map V.int)[(wait.map V.int).length - 1]? = some (.int p1) := by
                rw [← List.getLast?_eq_getElem?, List.getLast?_map, hg]
                rfl
              refine ⟨vg, rfl, .ref b, rfl, .inl ⟨rfl, _, SqL.of hb⟩, b, wait.map V.int, .int p1, rfl, rfl, hb, wl1, ?_⟩
              refine ⟨W, [g, .int p1], ds', rfl, fun c hc => ?_, ⟨vg, [.int p1], rfl, rg.mono (Keep.of (O := W) sm1).vw, .int p1, [], rfl, rfl, rfl⟩, ht, fun p2 us H2 sm2 np2 hp2 ru => ?_⟩
              · obtain ⟨xs, z⟩ := wd c hc
                exact ⟨xs, sm1 _ _ z⟩
              have ha1 : (upd Hx b (.lst (wait.map V.int).dropLast)) a = some (SetO w a (fun j => decide (j ∈ seen)) seen.length) := by rw [upd_ne (Ne.symm nba)]; exact ha
              have p2a : p2 ≠ a := fun z => by rw [z, ha1] at np2; cases np2
              have p2b : p2 ≠ b := fun z => by rw [z, upd_same] at np2; cases np2
              refine ⟨p2, rfl, ⟨_, SqL.of hp2⟩, for_list (xs := us) (fun i σ' H' => ∃ sn wt y, Inn sn wt y σ' H' ∧ H' p2 = some (.lst us) ∧ addT sn wt (ds'.drop i) = some (s', w')) ⟨seen, wait.dropLast, y, ⟨rfl, fun c o z => sm2 _ _ (sm1 _ _ z), sm2 _ _ ha1, ?_, nd, sl, by rw [List.length_dropLast]; omega⟩, hp2, hA⟩ (fun i σ' H' _ z => ?_) (fun i x σ' H' hx z => ?_) (fun σ' H' z => ?_)⟩
              · have := sm2 _ _ (upd_same (H := Hx) (a := b) (o := HO.lst (wait.map V.int).dropLast))
                rw [this, List.map_dropLast]
              · obtain ⟨sn, wt, y, _, z, _⟩ := z
                exact SqL.of z
              · obtain ⟨sn, wt, y, ⟨rfl, sm3, ha3, hb3, nd3, sl3, wl3⟩, h3, hA3⟩ := z
                obtain ⟨d, e1, e2⟩ := ru.get hx
                have hi := (List.getElem?_eq_some_iff.mp e1).1
                have ed : ds'[i] = d := (List.getElem?_eq_some_iff.mp e1).2
                rw [List.drop_eq_getElem_cons hi, ed] at hA3
                cases d with
                | int t =>
                  cases (show x = .int t from e2)
                  unfold addT at hA3
                  show tIfS _ _ _ _ [some vg, some (.int p), some (.ref a), some (.ref b), some (.int t)] H'
                  refine ⟨.int t, rfl, .ref a, rfl, t, a, _, _, rfl, rfl, ha3, !decide (t ∈ sn), rfl, ?_⟩
                  by_cases hm : t ∈ sn
                  · rw [if_pos hm] at hA3
                    rw [if_neg (by simp [hm])]
                    exact ⟨sn, wt, some (.int t), ⟨rfl, sm3, ha3, hb3, nd3, sl3, wl3⟩, h3, hA3⟩
                  · rw [if_neg hm] at hA3
                    rw [if_pos (by simp [hm])]
                    split at hA3
                    · rename_i hlt
                      refine ⟨.ref a, rfl, ⟨a, _, _, rfl, ha3⟩, .int t, rfl, a, t, _, _, rfl, rfl, ha3, by show sn.length + 1 < 4096; omega, ?_⟩
                      rw [if_neg (by simp [hm])]
                      have eS : (fun j => decide (j ∈ sn) || decide (j = t)) = fun j => decide (j ∈ sn ++ [t]) := by
                        funext j
                        simp [List.mem_append]
                      rw [eS]
                      have hb4 : (upd H' a (SetO w a (fun j => decide (j ∈ sn ++ [t])) (sn.length + 1))) b = some (.lst (wt.map V.int)) := by rw [upd_ne nba]; exact hb3
                      refine ⟨.ref b, rfl, .inl ⟨rfl, _, SqL.of hb4⟩, .int t, rfl, b, wt.map V.int, .int t, rfl, rfl, hb4, by rw [List.length_map, sizeLine_eq]; omega, ?_⟩
                      refine ⟨sn ++ [t], wt ++ [t], some (.int t), ⟨rfl, fun c o z => ?_, ?_, ?_, ?_, by simp; omega, by simp; omega⟩, ?_, hA3⟩
                      · rw [upd_ne (fun y => by rw [y, nb0] at z; cases z), upd_ne (fun y => by rw [y, na] at z; cases z)]
                        exact sm3 _ _ z
                      · rw [upd_ne (Ne.symm nba), upd_same]
                        simp
                      · rw [upd_same, List.map_append]
                        rfl
                      · exact List.nodup_append.mpr ⟨nd3, by simp, fun x hx y hy z => by simp at hy; rw [z, hy] at hx; exact hm hx⟩
                      · rw [upd_ne p2b, upd_ne p2a]
                        exact h3
                    · cases hA3
                | _ => cases hA3
              · obtain ⟨sn, wt, y, hI, h3, hA3⟩ := z
                rw [ru.length, List.drop_length] at hA3
                cases hA3
                exact ⟨_, _, y, hI, hr⟩
end
end DK
namespace DK
open PySem PySem.Spec PyProof.Rows L2
/-! ## calls with keywords, in the order of the parameters -/
def gK {α : Type} (n m : Nat) (us ws : List α) : List α := if us.length = n ∧ ws.length = m then us ++ ws else []
structure DfK (K : PySem.W.Frag) (mg : Str → Option Value) (x : Str) (st : Stmt) (ps ks : List Str) (n : Nat) : Prop where
  ex : ∃ (f : Addr) (fd : FuncData), Fun K x x st f fd ∧ mg x = some (.ref f) ∧ KBinds K fd ps ks (gK n ks.length) (gK n ks.length)
def OkdK (P : Program) (w : World) (K : PySem.W.Frag) (mg : Str → Option Value) (base : Heap) (k : Nat) (x : Str) (ps ks : List Str) (n : Nat) (sp : Sp) : Prop :=
  ∃ (f : Addr) (fd : FuncData), FnOk P w K mg base CX0 k f fd ps sp ∧ mg x = some (.ref f) ∧ PySem.W.keepIn K (.ref f) = true ∧ KBinds K fd ps ks (gK n ks.length) (gK n ks.length)
structure CalK (X : Cx) (k : Nat) (x : Str) (ps ks : List Str) (n : Nat) (sp : Sp) : Prop where
  ex : ∃ (f : Addr) (fd : FuncData), FnOk X.prog X.w X.K X.mg X.base CX0 k f fd ps sp ∧ X.mg x = some (.ref f) ∧ PySem.W.keepIn X.K (.ref f) = true ∧ KBinds X.K fd ps ks (gK n ks.length) (gK n ks.length)
theorem vals_gK {n m : Nat} {vs zs : List V} {us ws : List Value} (r : Vals vs us) (r2 : Vals zs ws) : Vals (gK n m vs zs) (gK n m us ws) := by
  unfold gK
  rw [r.length, r2.length]
  split
  · exact r.append r2
  · exact .nil
section
variable {K : PySem.W.Frag} {h : Heap} {mg : Str → Option Value} {fa : List He.Fa} {fn : List He.DefD} {x : Str} {st : Stmt} {ps ks : List Str}
theorem kb_of {fd : FuncData} {n : Nat} (hp : n + ks.length = ps.length) (hp0 : 0 < ps.length) (hb : ∀ us ws : List Value, us.length = n → ws.length = ks.length → bindArgs fd ⟨us, ks.zip ws⟩ = pure (ps.zip (us ++ ws))) : KBinds K fd ps ks (gK n ks.length) (gK n ks.length) :=
  ⟨fun s us ws _ hl => by
    unfold gK at hl ⊢
    split at hl
    · rename_i z
      rw [if_pos z]
      exact .of_eq (hb us ws z.1 z.2)
    · simp at hl; omega, fun r r2 => vals_gK r r2⟩
end
/-! ### the keywords' values -/
def wKw (X : Cx) (kws : List Keyword) : TA := fun σ H Q => ∀ (pos : Pos) (pins : List (Addr × Obj)) (s : Shared), Inv X pins σ H s → wpAny (model X.prog X.w) X.A (evalAll ((backToKw pos (keywordEach kws X.env)).map (·.2))) (AP X pins σ Q) X.xe s
theorem pk_w {X : Cx} {kws : List Keyword} : PK X kws (wKw X kws) := ⟨fun pos pins s _ _ _ I h => h pos pins s I⟩
def DKw (X : Cx) (kws : List Keyword) (f : EvL) : Prop := EvA X.K (wKw X kws) f
theorem DKw.mk {X : Cx} {kws : List Keyword} {t : TA} {f : EvL} (h : PK X kws t) (k : EvA X.K t f) : DKw X kws f := fun C σ H S d S' Q hS hf q pos pins s I => h.run pos pins s σ H Q I (k C σ H S d S' Q hS hf q)
section
variable {X : Cx} {kws : List Keyword} {e : Expr} {es : List Expr} {kpos pos p : Pos} {nm : Option Str} {x : Str} {ps ks : List Str} {k n m : Nat}
theorem dkNil : DKw X [] aNil := .mk pk_nil fun C σ H S ds S' Q hS hf q => by
  cases hf
  exact q [] H Kp.refl hS rfl
theorem dkCons {f : Ev} {g : EvL} (he : DE X e f) (hs : DKw X kws g) : DKw X (⟨nm, e, kpos⟩ :: kws) (aCons f g) :=
  .mk (pk_cons pe_w pk_w) fun C σ H S ds S' Q hS hf q => by
    obtain ⟨d, r, S1, h1, h2, rfl⟩ := aCons_some hf
    refine he C σ H S d S1 _ hS h1 fun v H1 k1 hS1 r1 => ?_
    refine hs C σ H1 S1 r _ _ hS1 h2 fun vs H2 k2 hS2 r2 => ?_
    exact q (v :: vs) H2 (k1.trans k2) hS2 ⟨v, vs, rfl, r1.mono k2.vw, r2⟩
def aApp (f g : EvL) : EvL := fun S => do
  let (ds, S1) ← f S
  let (es, S2) ← g S1
  some (ds ++ es, S2)
theorem aApp_some {f g : EvL} {S S' : Stt} {xs : List PD} (h : aApp f g S = some (xs, S')) : ∃ ds es S1, f S = some (ds, S1) ∧ g S1 = some (es, S') ∧ xs = ds ++ es := by
  unfold aApp at h
  obtain ⟨⟨ds, S1⟩, h1, h⟩ := bind_some' h
  obtain ⟨⟨es, S2⟩, h2, h⟩ := bind_some' h
  cases h
  exact ⟨ds, es, S1, h1, h2, rfl⟩
/-- the lengths are the written ones -/
def lenA (n : Nat) (f : EvL) : EvL := fun S => match f S with
  | some (ds, S1) => if ds.length = n then some (ds, S1) else none
  | none => none
theorem lenA_some {n : Nat} {f : EvL} {S S' : Stt} {xs : List PD} (h : lenA n f S = some (xs, S')) : f S = some (xs, S') ∧ xs.length = n := by
  unfold lenA at h
  split at h
  · rename_i ds S1 e
    split at h
    · rename_i hl
      cases h
      exact ⟨e, hl⟩
    · cases h
  · cases h
theorem ev_args {K : PySem.W.Frag} {t tk : TA} {a b : EvL} (ha : EvA K t a) (hb : EvA K tk b) {C : Ctx} {σ : Sg} {H : Hp} {S S' : Stt} {xs : List PD} {R : List V → Hp → Prop} (hS : Hold K C σ H S) (hf : aApp (lenA n a) (lenA m b) S = some (xs, S'))
    (q : ∀ vs H', Kp C H H' → Hold K C σ H' S' → RepL K (hide C.hid H') xs vs → R vs H') : t σ H fun vs H1 => tk σ H1 fun zs H2 => R (gK n m vs zs) H2 := by
  obtain ⟨ds, es, S1, h1, h2, rfl⟩ := aApp_some hf
  obtain ⟨h1, l1⟩ := lenA_some h1
  obtain ⟨h2, l2⟩ := lenA_some h2
  refine ha C σ H S ds S1 _ hS h1 fun vs H1 k1 hS1 r1 => ?_
  refine hb C σ H1 S1 es S' _ hS1 h2 fun zs H2 k2 hS2 r2 => ?_
  have e : gK n m vs zs = vs ++ zs := if_pos ⟨by rw [r1.length, l1], by rw [r2.length, l2]⟩
  rw [e]
  refine q (vs ++ zs) H2 (k1.trans k2) hS2 (RepL.append ?_ r2)
  exact r1.mono k2.vw
theorem dFnFK {a b : EvL} {g : List PD → Option (List PD)} {q : Nat} (c : CalK X k x ps ks n (spF X.K q g)) (hr : Room k X.A) (ha : DA X (e :: es) a) (hkw : DKw X kws b) (hn : ∀ ds d, g ds = some d → ds.length = q) (hg : Gl X x := by rfl)
    (hall : (backToKw pos (keywordEach kws X.env)).all (·.1.isSome) = true := by rfl) (hks : (backToKw pos (keywordEach kws X.env)).filterMap (·.1) = ks := by rfl)
    (hdb : (x == ("__debug__" : Str)) = false := by decide) (he : starEach (e :: es) X.env = (false, eval e X.env) :: starEach es X.env := by rfl)
    (hpl : ((backTo pos (starEach (e :: es) X.env)).any (·.1) || (backToKw pos (keywordEach kws X.env)).any (·.1.isNone)) = false := by rfl)
    (hps : Passes CX0 X E0 := by exact pass0) : DF X (.Call (.Name x p) (e :: es) kws pos) (fCall g (aApp (lenA n a) (lenA ks.length b))) := by
  obtain ⟨f, fd, F, hm, hk, hb⟩ := c.ex
  refine .mk (pe_callK F hr hg hm hk hb hps pa_w pk_w hall hks hdb he hpl) fun C σ H S d S' Q hS hf qq => ?_
  obtain ⟨ds, h1, h2⟩ := fCall_some hf
  refine ev_args (R := fun vs H1 => spF X.K q g vs H1 Q E0) ha hkw hS h1 fun vs H1 k1 hS1 r1 => ?_
  exact ⟨C.hid, ds, d, hn _ _ h2, hS1.wd, r1, h2, fun p us H' sm np hp ru => qq p us H' (free_of' k1 hS1 np) (k1.trans (.of sm)) hp (hS1.same_new sm np hp) ru⟩
theorem dFnPK {a b : EvL} {g : List PD → Option PD} {q : Nat} (c : CalK X k x ps ks n (spP X.K q g)) (hr : Room k X.A) (ha : DA X (e :: es) a) (hkw : DKw X kws b) (hn : ∀ ds d, g ds = some d → ds.length = q) (hg : Gl X x := by rfl)
    (hall : (backToKw pos (keywordEach kws X.env)).all (·.1.isSome) = true := by rfl) (hks : (backToKw pos (keywordEach kws X.env)).filterMap (·.1) = ks := by rfl)
    (hdb : (x == ("__debug__" : Str)) = false := by decide) (he : starEach (e :: es) X.env = (false, eval e X.env) :: starEach es X.env := by rfl)
    (hpl : ((backTo pos (starEach (e :: es) X.env)).any (·.1) || (backToKw pos (keywordEach kws X.env)).any (·.1.isNone)) = false := by rfl)
    (hps : Passes CX0 X E0 := by exact pass0) : DE X (.Call (.Name x p) (e :: es) kws pos) (eCall g (aApp (lenA n a) (lenA ks.length b))) := by
  obtain ⟨f, fd, F, hm, hk, hb⟩ := c.ex
  refine .mk (pe_callK F hr hg hm hk hb hps pa_w pk_w hall hks hdb he hpl) fun C σ H S d S' Q hS hf qq => ?_
  obtain ⟨ds, h1, h2⟩ := eCall_some hf
  refine ev_args (R := fun vs H1 => spP X.K q g vs H1 Q E0) ha hkw hS h1 fun vs H1 k1 hS1 r1 => ?_
  exact ⟨C.hid, ds, d, hn _ _ h2, hS1.wd, r1, h2, fun v H' sm rv => qq v H' (k1.trans (.of sm)) (hS1.same sm) rv⟩
end
end DK
namespace DK
open PySem PySem.Spec PyProof.Rows L2
/-! ## x[a], x[b] = a pair -/
def stoV (i : Nat) (d : PD) (g : Ev) (S1 : Stt) : Option Stt := if isOw S1[i]? then (match g S1 with
  | some (.int j, S2) => (match S2[i]? with
    | some (.ow xs) => (match ixN xs.length j with
      | some n => some (S2.set i (.ow (xs.set n d)))
      | none => none)
    | _ => none)
  | _ => none) else none
def sSto2 (i : Nat) (f g1 g2 : Ev) : EvSt := fun S => match f S with
  | some (.tuple [d1, d2], S1) => (match stoV i d1 g1 S1 with
    | some S2 => (match stoV i d2 g2 S2 with
      | some S3 => some (.nx S3)
      | none => none)
    | none => none)
  | _ => none
section
variable {X : Cx} {e : Expr} {pos : Pos}
theorem ev_sto {i : Nat} {a : Expr} {g : Ev} (ha : DE X a g) {C : Ctx} {σ : Sg} {H : Hp} {S1 S2 : Stt} {d : PD} {v : V} {Q : Sg → Hp → Prop} (hS : Hold X.K C σ H S1) (r : Rep X.K (hide C.hid H) d v) (hf : stoV i d g S1 = some S2)
    (q : ∀ H', Kp C H H' → Hold X.K C σ H' S2 → Q σ H') : L2.gSub (tVar i) (wE X a) rSetL v σ H Q := by
  unfold stoV at hf
  split at hf
  · rename_i hw
    obtain ⟨xs0, e0⟩ := isOw_some hw
    obtain ⟨ad, vs0, q0, q1, q2, q3⟩ := hS.at_ow e0
    split at hf
    · rename_i j S3 h2
      refine ⟨.ref ad, q1, ha C σ H S1 _ S3 _ hS h2 fun iv H2 k2 hS2 r2 => ?_⟩
      split at hf
      · rename_i xs e1
        split at hf
        · rename_i n hn
          cases hf
          obtain ⟨a0, vs, a2, a3⟩ := Hold.ref_same hS hS2 q1 e1
          cases (show iv = .int j from r2)
          refine ⟨ad, vs, j, n, rfl, rfl, a2, by rw [a3.length]; exact hn, ?_⟩
          exact q _ (k2.trans (ow_keep (K := X.K) a0)) (hS2.updOw e1 a0 (a3.set n (r.mono k2.vw)))
        · cases hf
      · cases hf
    · cases hf
  · cases hf
theorem dSto2 {i : Nat} {l1 l2 a b v : Expr} {f g1 g2 : Ev} {p1 p2 pt : Pos} {kt : Nat} (hc : X.calm = true) (hv : DE X v f) (h1 : OwN X l1 i) (h2 : OwN X l2 i) (ha : DE X a g1) (hb : DE X b g2)
    (has1 : ∀ v, assign (.Subscript l1 a p1) X.env v = (do
      let ov ← holding [v] (eval l1 X.env)
      let iv ← holding [v, ov] (eval a X.env)
      standAt p1
      holding [v, ov, iv] (setItem ov iv v)
      release [v, ov, iv] []) := by intro _; rfl)
    (has2 : ∀ v, assign (.Subscript l2 b p2) X.env v = (do
      let ov ← holding [v] (eval l2 X.env)
      let iv ← holding [v, ov] (eval b X.env)
      standAt p2
      holding [v, ov, iv] (setItem ov iv v)
      release [v, ov, iv] []) := by intro _; rfl)
    (e1 : (assignEach [.Subscript l1 a p1, .Subscript l2 b p2] X.env).map (·.2) = assign (.Subscript l1 a p1) X.env :: (assignEach [.Subscript l2 b p2] X.env).map (·.2) := by rfl)
    (e2 : (assignEach [.Subscript l2 b p2] X.env).map (·.2) = assign (.Subscript l2 b p2) X.env :: (assignEach [] X.env).map (·.2) := by rfl)
    (hn : (assignEach [.Subscript l1 a p1, .Subscript l2 b p2] X.env).length = 2 := by rfl) (hst : (assignEach [.Subscript l1 a p1, .Subscript l2 b p2] X.env).findIdx? (·.1) = none := by rfl)
    (hs : swapsWithSole [.Tuple [.Subscript l1 a p1, .Subscript l2 b p2] kt pt] v pos.line X.env = pure false := by rfl) (hw : swappedStores [.Tuple [.Subscript l1 a p1, .Subscript l2 b p2] kt pt] v X.env = pure none := by rfl)
    (h0 : (assignEach [.Tuple [.Subscript l1 a p1, .Subscript l2 b p2] kt pt] X.env).map (·.2) = [assign (.Tuple [.Subscript l1 a p1, .Subscript l2 b p2] kt pt) X.env] := by rfl) :
    DS X (.Assign [.Tuple [.Subscript l1 a p1, .Subscript l2 b p2] kt pt] v pos) (sSto2 i f g1 g2) := by
  refine .mk (ps_asg pe_w (pg_tup hc (pgs_cons (pg_sub h1 pe_w set_list has1) (pgs_cons (pg_sub h2 pe_w set_list has2) pgs_nil e2) e1) hn hst) hs hw h0) fun C σ H S o D hS hf q => ?_
  unfold sSto2 at hf
  split at hf
  · rename_i d1 d2 S1 hv1
    split at hf
    · rename_i S2 hs1
      split at hf
      · rename_i S3 hs2
        cases hf
        refine hv C σ H S _ S1 _ hS hv1 fun vv H1 k1 hS1 r1 => ?_
        obtain ⟨ad, vs, rfl, sq, rl⟩ := r1
        have rl0 := rl
        obtain ⟨v1, r2, rfl, rd1, rl⟩ := rl
        obtain ⟨v2, r3, rfl, rd2, rl⟩ := rl
        cases (show r3 = [] from rl)
        refine ⟨ad, [v1, v2], rfl, sqT_mono hide_le sq, rfl, v1, [v2], rfl, ev_sto ha hS1 rd1 hs1 fun H2 k2 hS2 => ?_⟩
        refine ⟨v2, [], rfl, ev_sto hb hS2 (rd2.mono k2.vw) hs2 fun H3 k3 hS3 => ⟨rfl, ?_⟩⟩
        exact q C σ H3 (((Step.keep1 k1).trans (.keep1 k2)).trans (.keep1 k3)) hS3
      · cases hf
    · cases hf
  · cases hf
end
end DK
namespace DK
open PySem PySem.Spec PyProof.Rows L2
section
variable {X : Cx} {a : Expr} {pos : Pos}
/-- not x, by the truth of x -/
def eNotT (f : Ev) : Ev := fun S => match eTru f S with
  | some (b, S1) => some (.bool (!b), S1)
  | none => none
theorem dNotTr {f : Ev} (h : DE X a f) : DE X (.UnaryOp .Not a pos) (eNotT f) :=
  .mk (pe_notT pe_w) fun C σ H S d S' Q hS hf q => by
    unfold eNotT at hf
    split at hf
    · rename_i b S1 e
      cases hf
      obtain ⟨d, h1, h2⟩ := eTru_some e
      exact h C σ H S d _ _ hS h1 fun v H1 k1 hS1 r => ⟨b, gTru_ok hide_le r h2, q _ H1 k1 hS1 rfl⟩
    · cases hf
end
end DK
/-! The head by facts: each def told by where it stands, constants by a Bool. -/
noncomputable section
namespace DK
open PySem PySem.Spec PyProof.Rows L2
def mkD (x : Str) (st : Stmt) : He.DefD := ⟨(x, none), x, x, defArgs st, defBody st, defScope st, [], []⟩
theorem fun_ofD {K : PySem.W.Frag} {x : Str} {st : Stmt} {f : Addr} {fd : FuncData} (F : FunD K x x (defArgs st) (defBody st) (defScope st) [] [] f fd) : Fun K x x st f fd := by
  obtain ⟨oc, od, dV, kV, doc, pm, an, cdv, ct, osl, e, lk, hcd, hD, hK⟩ := F.ex
  rcases hD with ⟨_, e2⟩ | ⟨n, _⟩
  · subst e2
    exact ⟨⟨oc, od, kV, doc, pm, an, cdv, ct, osl, e, lk, hcd⟩, F.kp⟩
  · exact absurd rfl n
section
variable {K : PySem.W.Frag} {h : Heap} {mg : Str → Option Value} {fa : List He.Fa} {fn : List He.DefD} {x : Str} {st : Stmt} {ps : List Str}
theorem df_says (X : K.In h) (G : h.Ns mainGlobals mg) (c : He.SaysD fa fn K) (i j : Nat) (h1 : fn[i]? = some (mkD x st)) (h2 : fa[j]? = some (.glo x))
    (hb : ∀ (kV doc pm : Value) (an : Option Addr) (cdv ct : Value) (us : List Value), us.length = ps.length → bindArgs (PySem.W.fnOf x x (defArgs st) (defBody st) (defScope st) .none kV doc pm an cdv ct) ⟨us, []⟩ = pure (ps.zip us)) : Df K mg x st ps := by
  obtain ⟨fd, F⟩ := c.def_ i h1
  exact ⟨He.ga K x, fd, fun_ofD F, He.glo_ok X G (c.fact j h2), (fun_ofD F).binds hb⟩
theorem dfl_says {y : Str} {fx : Addr} (X : K.In h) (G : h.Ns mainGlobals mg) (hfa : mg x = some (.ref fx)) (c : He.SaysD fa fn K) (i j : Nat) (h1 : fn[i]? = some (mkD x st)) (h2 : fa[j]? = some (.glo x))
    (hb : ∀ (kV doc pm : Value) (an : Option Addr) (cdv ct : Value) (us : List Value), us.length = [y].length → bindArgs (PySem.W.fnOf x x (defArgs st) (defBody st) (defScope st) .none kV doc pm an cdv ct) ⟨us, []⟩ = pure ([y].zip us))
    (hb2 : ∀ (kV doc pm : Value) (an : Option Addr) (cdv ct : Value) (s : Shared) (u : Value), BindsTo s (PySem.W.fnOf x x (defArgs st) (defBody st) (defScope st) .none kV doc pm an cdv ct) ⟨[u], []⟩ [(y, u)]) : DfL K mg x st y fx := by
  obtain ⟨fd, F⟩ := c.def_ i h1
  have e := hfa.symm.trans (He.glo_ok X G (c.fact j h2))
  cases e
  refine ⟨⟨fd, fun_ofD F, ?_⟩, df_says X G c i j h1 h2 hb⟩
  obtain ⟨oc, od, kV, doc, pm, an, cdv, ct, osl, e, lk, hcd⟩ := (fun_ofD F).ex
  rw [e]
  exact hb2 _ _ _ _ _ _
theorem dfk_says {ks : List Str} {n : Nat} (X : K.In h) (G : h.Ns mainGlobals mg) (c : He.SaysD fa fn K) (i j : Nat) (h1 : fn[i]? = some (mkD x st)) (h2 : fa[j]? = some (.glo x)) (hp : n + ks.length = ps.length) (hp0 : 0 < ps.length)
    (hb : ∀ (kV doc pm : Value) (an : Option Addr) (cdv ct : Value) (us ws : List Value), us.length = n → ws.length = ks.length → bindArgs (PySem.W.fnOf x x (defArgs st) (defBody st) (defScope st) .none kV doc pm an cdv ct) ⟨us, ks.zip ws⟩ = pure (ps.zip (us ++ ws))) : DfK K mg x st ps ks n := by
  obtain ⟨fd, F⟩ := c.def_ i h1
  have F' := fun_ofD F
  obtain ⟨oc, od, kV, doc, pm, an, cdv, ct, osl, e, lk, hcd⟩ := F'.ex
  refine ⟨He.ga K x, fd, F', He.glo_ok X G (c.fact j h2), kb_of hp hp0 fun us ws l1 l2 => ?_⟩
  rw [e]
  exact hb kV doc pm an cdv ct us ws l1 l2
theorem free_says (X : K.In h) (G : h.Ns mainGlobals mg) (c : He.SaysD fa fn K) (j : Nat) (h2 : fa[j]? = some (.free x)) : mg x = none := He.free_ok X G (c.fact j h2)
/-- a builtin that the module imported -/
def bltB (K : PySem.W.Frag) (x : Str) (b : String) : Bool := He.eqO (PySem.W.nsIn K mainGlobals x) (some (some (.builtin b)))
theorem blt_says {b : String} (X : K.In h) (G : h.Ns mainGlobals mg) (c : bltB K x b = true) : mg x = some (.builtin b) := PySem.W.mg_of X G (He.eqO_ok c)
/-- a pair of numbers that the module holds -/
def numB (K : PySem.W.Frag) (x : Str) (i j : Int) : Bool := He.eqO (PySem.W.nsIn K mainGlobals x) (some (some (.ref (He.ga K x)))) && He.tupB K x [.int i, .int j]
theorem num_says {i j : Int} (X : K.In h) (G : h.Ns mainGlobals mg) (c : numB K x i j = true) : Glb K mg x (.tuple [.int i, .int j]) := by
  obtain ⟨c1, c2⟩ := He.ba c
  exact ⟨.ref (He.ga K x), _, PySem.W.mg_of X G (He.eqO_ok c1), rfl, fun H => ⟨_, _, rfl, He.tupB_ok c2 H, _, _, rfl, rfl, _, _, rfl, rfl, rfl⟩⟩
/-- a whole number that the module holds -/
def wholeB (K : PySem.W.Frag) (x : Str) (i : Int) : Bool := match PySem.W.nsIn K mainGlobals x with
  | some (some (.int j _)) => decide (j = i)
  | _ => false
theorem whole_says {i : Int} (X : K.In h) (G : h.Ns mainGlobals mg) (c : wholeB K x i = true) : Glb K mg x (.int i) := by
  obtain ⟨t, e⟩ := He.int_ok (x := x) (i := i) X G c
  exact ⟨.int i, _, e, ⟨t, rfl⟩, fun H => rfl⟩
end
theorem claim_walk2 {l : PySem.W.OpenLaw} {n : Nat} {q : Program} {loose : List Str} {XP : (Str → Option Value) → Heap → Prop} {YP : World → Heap → Prop} {dr : DefRec} {y : Str}
    (most : l.most = some n) (fits : n ≤ sizeLine) (nodef : dr.params.defaults = [])
    (F : ∀ (w : World) (mg : Str → Option Value) (fa : Addr) (h : Heap), YP w h → h.Ns mainGlobals mg → mg dr.name = some (.ref fa) →
      ∃ (K : PySem.W.Frag) (sp : Sp) (fd : FuncData), K.In h ∧ (∀ (s : Shared) (u : Value), BindsTo s fd ⟨[u], []⟩ [(y, u)]) ∧
        (∀ (Hs : Hp) (a : Addr) (ns : List Int), ns.length ≤ n → SqL K Hs a (ns.map V.int) → sp [.ref a] Hs (fun v _ => v = .bl true) E0) ∧
        ∀ base : Heap, K.In base → base.Ns mainGlobals mg → AtA l.prog w K mg base callerA fa fd [y] sp) :
    PySem.W.WalkO q loose XP YP l.row.toRowW dr [] (fun f vs => PySem.call f vs) := by
  refine Att.attach_call most nodef (fun w s0 s1 mg mb fa o pm cd doc a vs ns G Y ho hd hcd hmg hobj hints hlen hgen => ?_)
  obtain ⟨K, sp, fd, inK, bnd, want, FF⟩ := F w mg fa _ Y G.T.g hmg
  exact claim_call inK G.T.g G.T.b G.T.builtins G.T.nolimit hgen hobj hints (Nat.le_trans hlen fits) FF bnd (fun Hs sq => want Hs a ns hlen sq)
end DK
end
namespace Lw
open PySem PySem.W PySem.Spec PyProof.Rows L2 DK
def topS (i : Nat) : Stmt := PySem.Challenge.pw_oddkeep_k72_whole_total_chances.main.body.getD i (.Pass ⟨0, 0, 0, 0⟩)
abbrev s_number : Stmt := topS 8
abbrev s_times : Stmt := topS 11
abbrev s_targets : Stmt := topS 14
abbrev s_first_wrong : Stmt := topS 31
abbrev s_plus : Stmt := topS 9
abbrev s_chances_to : Stmt := topS 29
abbrev s_step_chance : Stmt := topS 32
abbrev s_chance_of : Stmt := topS 33
abbrev s_minus : Stmt := topS 10
abbrev s_places_of : Stmt := topS 15
abbrev s_reached : Stmt := topS 16
abbrev s_all_reached : Stmt := topS 25
abbrev s_divided : Stmt := topS 12
abbrev s_scaled : Stmt := topS 18
abbrev s_without : Stmt := topS 19
abbrev s_reduced : Stmt := topS 20
abbrev s_solution_of : Stmt := topS 21
abbrev s_only_solution : Stmt := topS 22
abbrev s_branches : Stmt := topS 24
abbrev s_means : Stmt := topS 26
abbrev s_chances : Stmt := topS 27
abbrev s_chances_of : Stmt := topS 35
abbrev s__law_draw : Stmt := topS 39
abbrev s__law_number : Stmt := topS 40
abbrev s__law_plus : Stmt := topS 41
abbrev s__law_times : Stmt := topS 42
abbrev s__law_less : Stmt := topS 44
abbrev s__law_shares : Stmt := topS 48
abbrev s__law_place : Stmt := topS 49
abbrev s__law_game : Stmt := topS 50
abbrev s__law_targets : Stmt := topS 51
abbrev s__law_walk : Stmt := topS 53
abbrev s__law_step : Stmt := topS 52
abbrev s__law_chance : Stmt := topS 54
abbrev s_check_held : Stmt := topS 36
abbrev s_run_chance_given : Stmt := topS 37
abbrev s__law_part : Stmt := topS 55
abbrev s_law : Stmt := topS 56
def fnL0 : List He.DefD := [mkD "number" s_number, mkD "times" s_times, mkD "targets" s_targets, mkD "first_wrong" s_first_wrong, mkD "plus" s_plus, mkD "chances_to" s_chances_to, mkD "step_chance" s_step_chance, mkD "chance_of" s_chance_of, mkD "minus" s_minus, mkD "places_of" s_places_of, mkD "reached" s_reached, mkD "all_reached" s_all_reached, mkD "divided" s_divided, mkD "scaled" s_scaled, mkD "without" s_without, mkD "reduced" s_reduced, mkD "solution_of" s_solution_of, mkD "only_solution" s_only_solution, mkD "branches" s_branches, mkD "means" s_means, mkD "chances" s_chances, mkD "chances_of" s_chances_of, mkD "_law_draw" s__law_draw, mkD "_law_number" s__law_number, mkD "_law_plus" s__law_plus, mkD "_law_times" s__law_times, mkD "_law_less" s__law_less, mkD "_law_shares" s__law_shares, mkD "_law_place" s__law_place, mkD "_law_game" s__law_game]
def fnL1 : List He.DefD := [mkD "_law_targets" s__law_targets, mkD "_law_walk" s__law_walk, mkD "_law_step" s__law_step, mkD "_law_chance" s__law_chance, mkD "check_held" s_check_held, mkD "run_chance_given" s_run_chance_given, mkD "_law_part" s__law_part, mkD "law" s_law]
def fnL : List He.DefD := fnL0 ++ fnL1
def faL0 : List He.Fa := [.glo "number", .glo "times", .glo "targets", .glo "first_wrong", .glo "plus", .glo "chances_to", .glo "step_chance", .glo "chance_of", .glo "minus", .glo "places_of", .glo "reached", .glo "all_reached", .glo "divided", .glo "scaled", .glo "without", .glo "reduced", .glo "solution_of", .glo "only_solution", .glo "branches", .glo "means", .glo "chances", .glo "chances_of", .glo "_law_draw", .glo "_law_number", .glo "_law_plus", .glo "_law_times", .glo "_law_less", .glo "_law_shares", .glo "_law_place", .glo "_law_game"]
def faL1 : List He.Fa := [.glo "_law_targets", .glo "_law_walk", .glo "_law_step", .glo "_law_chance", .glo "check_held", .glo "run_chance_given", .glo "_law_part", .glo "law", .free "abs", .free "all", .free "any", .free "bool", .free "enumerate", .free "int", .free "isinstance", .free "len", .free "list", .free "range", .free "sorted", .free "sum", .free "tuple", .free "zip"]
def faL : List He.Fa := faL0 ++ faL1
def exL (K : PySem.W.Frag) : Bool := bltB K "gcd" "math.gcd" && (numB K "NOUGHT" 0 1 && (numB K "ONE" 1 1 && (true)))
def looseL0 : List Str := ["__name__", "OddsError", "NotARun", "NeverSo", "NOUGHT", "ONE", "number", "plus", "minus", "times", "divided", "targets", "places_of", "reached", "scaled", "without", "reduced", "solution_of", "only_solution", "branches", "all_reached", "means", "chances", "chances_to", "first_wrong", "step_chance", "chance_of", "chances_of", "check_held", "run_chance_given"]
def looseL1 : List Str := ["_law_draw", "_law_number", "_law_plus", "_law_times", "_law_minus", "_law_less", "_law_dot", "_law_is_number", "_law_are_numbers", "_law_shares", "_law_place", "_law_game", "_law_targets", "_law_step", "_law_walk", "_law_chance", "_law_part"]
def looseL : List Str := looseL0 ++ looseL1
abbrev hkL : PySem.W.Hook := He.hookX 2 faL fnL [] [] exL
def obL (s : PySem.W.SharedT) : He.AlX := He.obsX 2 faL fnL [] [] exL (HandSHeadRun.getT s)
theorem obL_eq (s : PySem.W.SharedT) : obL s = hkL.obs s.abs := He.obsX_eq (HandSHeadRun.getT_eq s)
abbrev viewL : Program := PySem.W.view (OpenLaw.row PySem.Challenge.rw_oddkeep_k72_whole_total_chances).prog [0, 56]
theorem runL (w : World) : HandSHeadRun.RunEqI (OpenLaw.row PySem.Challenge.rw_oddkeep_k72_whole_total_chances) viewL hkL obL 4000 looseL w := by
  delta HandSHeadRun.RunEqI
  kernel_rfl
end Lw
namespace PL
open PySem PySem.Spec PyProof.Rows L2 DK
/-! ## what a denotation comes to, as a weakest precondition -/
/-- a part that the simplifier is to leave alone: a later part's type speaks of it -/
def Tq {α : Type} (_ : α → Prop) : Type := Unit
def Tr {α : Type} (_ : α → Stt → Prop) : Type := Unit
def Tp (_ _ : Prop) : Type := Unit
def Ok {α : Type} (o : Option α) (Q : α → Prop) (_ : Tq Q := Unit.unit) : Prop := ∃ a, o = some a ∧ Q a
def O2 {α : Type} (o : Option (α × Stt)) (Q : α → Stt → Prop) (_ : Tr Q := Unit.unit) : Prop := ∃ a S, o = some (a, S) ∧ Q a S
theorem Ok.mono {α : Type} {o : Option α} {Q Q' : α → Prop} (h : Ok o Q) (k : ∀ a, Q a → Q' a) : Ok o Q' := by
  obtain ⟨a, e, q⟩ := h
  exact ⟨a, e, k a q⟩
theorem Ok.eq {α : Type} {o : Option α} {b : α} (h : Ok o (· = b)) : o = some b := by
  obtain ⟨a, e, rfl⟩ := h
  exact e
theorem Ok_some {α : Type} {a : α} {Q : α → Prop} : Ok (some a) Q ↔ Q a := ⟨fun ⟨_, e, q⟩ => by cases e; exact q, fun q => ⟨a, rfl, q⟩⟩
theorem Ok_of {α : Type} {o : Option α} {a : α} {Q : α → Prop} (h : o = some a) (q : Q a) : Ok o Q := ⟨a, h, q⟩
def Sh (o : Option Sl) (Q : PD → Prop) (_ : Tq Q := Unit.unit) : Prop := ∃ d, o = some (.sh d) ∧ Q d
def Ow (o : Option Sl) (Q : List PD → Prop) (_ : Tq Q := Unit.unit) : Prop := ∃ d, o = some (.ow d) ∧ Q d
def Sc (o : Option Sl) (Q : List Int → Prop) (_ : Tq Q := Unit.unit) : Prop := ∃ d, o = some (.scr d) ∧ Q d
theorem Sh_sh {d : PD} {Q : PD → Prop} : Sh (some (.sh d)) Q ↔ Q d := ⟨fun ⟨_, e, q⟩ => by cases e; exact q, fun q => ⟨d, rfl, q⟩⟩
theorem Ow_ow {d : List PD} {Q : List PD → Prop} : Ow (some (.ow d)) Q ↔ Q d := ⟨fun ⟨_, e, q⟩ => by cases e; exact q, fun q => ⟨d, rfl, q⟩⟩
theorem Sc_sc {d : List Int} {Q : List Int → Prop} : Sc (some (.scr d)) Q ↔ Q d := ⟨fun ⟨_, e, q⟩ => by cases e; exact q, fun q => ⟨d, rfl, q⟩⟩
/-- a fact, then the rest; a way, then the rest -/
def Nd (p : Prop) (q : Prop) : Prop := p ∧ q
theorem Nd_true {q : Prop} : Nd True q ↔ q := ⟨fun h => h.2, fun h => ⟨trivial, h⟩⟩
def Br (b : Bool) (p q : Prop) (_ : Tp p q := Unit.unit) : Prop := (b = true → p) ∧ (b = false → q)
theorem Br_true {p q : Prop} : Br true p q ↔ p := ⟨fun h => h.1 rfl, fun h => ⟨fun _ => h, nofun⟩⟩
theorem Br_false {p q : Prop} : Br false p q ↔ q := ⟨fun h => h.2 rfl, fun h => ⟨nofun, fun _ => h⟩⟩
def asB (d : PD) (Q : Bool → Prop) (_ : Tq Q := Unit.unit) : Prop := ∃ b, d = .bool b ∧ Q b
theorem asB_b {b : Bool} {Q : Bool → Prop} : asB (.bool b) Q ↔ Q b := ⟨fun ⟨_, e, q⟩ => by cases e; exact q, fun q => ⟨b, rfl, q⟩⟩
def asL (d : PD) (Q : List PD → Prop) (_ : Tq Q := Unit.unit) : Prop := ∃ b, d = .list b ∧ Q b
theorem asL_l {b : List PD} {Q : List PD → Prop} : asL (.list b) Q ↔ Q b := ⟨fun ⟨_, e, q⟩ => by cases e; exact q, fun q => ⟨b, rfl, q⟩⟩
def asI (d : PD) (Q : Int → Prop) (_ : Tq Q := Unit.unit) : Prop := ∃ b, d = .int b ∧ Q b
theorem asI_i {b : Int} {Q : Int → Prop} : asI (.int b) Q ↔ Q b := ⟨fun ⟨_, e, q⟩ => by cases e; exact q, fun q => ⟨b, rfl, q⟩⟩
def asT (d : PD) (Q : List PD → Prop) (_ : Tq Q := Unit.unit) : Prop := ∃ b, d = .tuple b ∧ Q b
theorem asT_l {b : List PD} {Q : List PD → Prop} : asT (.tuple b) Q ↔ Q b := ⟨fun ⟨_, e, q⟩ => by cases e; exact q, fun q => ⟨b, rfl, q⟩⟩
/-! ## expressions -/
section
variable {S : Stt} {g : PD → PD → Option PD} {a b c : Ev} {f : EvL} {t u : EvB} {i j : Nat}
theorem bindO {α β : Type} {o : Option α} {k : α → Option β} {Q : β → Prop} : Ok (o.bind k) Q ↔ Ok o fun x => Ok (k x) Q := by
  cases o with
  | none => exact ⟨fun ⟨_, e, _⟩ => (by cases e), fun ⟨_, e, _⟩ => by cases e⟩
  | some x => exact ⟨fun h => Ok_some.mpr h, fun h => (Ok_some (Q := fun x => Ok (k x) Q)).mp h⟩
theorem O2_Ok {α : Type} {o : Option (α × Stt)} {Q : α → Stt → Prop} : O2 o Q ↔ Ok o fun x => Q x.1 x.2 :=
  ⟨fun ⟨x, y, e, q⟩ => ⟨(x, y), e, q⟩, fun ⟨x, e, q⟩ => ⟨x.1, x.2, e, q⟩⟩
theorem b2 {α β : Type} {o : Option (α × Stt)} {k : α × Stt → Option (β × Stt)} {Q : β → Stt → Prop} : O2 (o.bind k) Q ↔ O2 o fun x s => O2 (k (x, s)) Q := by
  rw [O2_Ok, bindO, O2_Ok]
  exact ⟨fun h => h.mono fun x q => O2_Ok.mpr q, fun h => h.mono fun x q => O2_Ok.mp q⟩
theorem b1 {α β : Type} {o : Option α} {k : α → Option (β × Stt)} {Q : β → Stt → Prop} : O2 (o.bind k) Q ↔ Ok o fun x => O2 (k x) Q := by
  rw [O2_Ok, bindO]
  exact ⟨fun h => h.mono fun x q => O2_Ok.mpr q, fun h => h.mono fun x q => O2_Ok.mp q⟩
theorem b3 {α β : Type} {o : Option (α × Stt)} {k : α × Stt → Option β} {Q : β → Prop} : Ok (o.bind k) Q ↔ O2 o fun x s => Ok (k (x, s)) Q := by
  rw [bindO, O2_Ok]
theorem O2_some {α : Type} {x : α} {Q : α → Stt → Prop} : O2 (some (x, S)) Q ↔ Q x S := by rw [O2_Ok, Ok_some]
theorem O2.mono {α : Type} {o : Option (α × Stt)} {Q Q' : α → Stt → Prop} (h : O2 o Q) (k : ∀ x s, Q x s → Q' x s) : O2 o Q' := by
  obtain ⟨x, s, e, q⟩ := h
  exact ⟨x, s, e, k x s q⟩
theorem Ok_iff {α : Type} {o : Option α} {Q Q' : α → Prop} (h : ∀ x, Q x ↔ Q' x) : Ok o Q ↔ Ok o Q' := ⟨fun z => z.mono fun x => (h x).mp, fun z => z.mono fun x => (h x).mpr⟩
theorem O2_iff {α : Type} {o : Option (α × Stt)} {Q Q' : α → Stt → Prop} (h : ∀ x s, Q x s ↔ Q' x s) : O2 o Q ↔ O2 o Q' := ⟨fun z => z.mono fun x s => (h x s).mp, fun z => z.mono fun x s => (h x s).mpr⟩
theorem Ok_if {α : Type} {p : Prop} [Decidable p] {o : Option α} {Q : α → Prop} : Ok (if p then o else none) Q ↔ Nd p (Ok o Q) := by
  by_cases h : p
  · rw [if_pos h]; exact ⟨fun z => ⟨h, z⟩, fun z => z.2⟩
  · rw [if_neg h]; exact ⟨fun ⟨_, e, _⟩ => by (cases e), fun z => (h z.1).elim⟩
theorem O2_if {α : Type} {p : Prop} [Decidable p] {o : Option (α × Stt)} {Q : α → Stt → Prop} : O2 (if p then o else none) Q ↔ Nd p (O2 o Q) := by
  rw [O2_Ok, Ok_if, O2_Ok]
theorem O2_br {α : Type} {x : Bool} {o o' : Option (α × Stt)} {Q : α → Stt → Prop} : O2 (if x = true then o else o') Q ↔ Br x (O2 o Q) (O2 o' Q) := by
  cases x
  · rw [if_neg (by decide)]; exact Br_false.symm
  · rw [if_pos rfl]; exact Br_true.symm
theorem Ok_br {α : Type} {x : Bool} {o o' : Option α} {Q : α → Prop} : Ok (if x = true then o else o') Q ↔ Br x (Ok o Q) (Ok o' Q) := by
  cases x
  · rw [if_neg (by decide)]; exact Br_false.symm
  · rw [if_pos rfl]; exact Br_true.symm
theorem q_nm {Q : PD → Stt → Prop} : O2 (eNm i S) Q ↔ Sh S[i]? fun d => Q d S := by
  unfold eNm
  constructor
  · rintro ⟨d, s, e, q⟩
    split at e
    · rename_i z h; cases e; exact ⟨d, h, q⟩
    · cases e
  · rintro ⟨d, h, q⟩
    exact ⟨d, S, by rw [h], q⟩
theorem q_c {d : PD} {Q : PD → Stt → Prop} : O2 (eC d S) Q ↔ Q d S := O2_some
theorem q_nil {Q : List PD → Stt → Prop} : O2 (aNil S) Q ↔ Q [] S := O2_some
theorem q_cons {Q : List PD → Stt → Prop} : O2 (aCons a f S) Q ↔ O2 (a S) fun d s => O2 (f s) fun ds s' => Q (d :: ds) s' :=
  Iff.trans b2 (O2_iff fun x s => Iff.trans b2 (O2_iff fun y s' => O2_some))
theorem q_tup {Q : PD → Stt → Prop} : O2 (eTup f S) Q ↔ O2 (f S) fun ds s => Nd (ds.length ≤ 1000) (Q (.tuple ds) s) :=
  Iff.trans b2 (O2_iff fun x s => Iff.trans O2_if (and_congr Iff.rfl O2_some))
theorem q_F {Q : PD → Stt → Prop} : O2 (eF f S) Q ↔ O2 (f S) fun ds s => Q (.list ds) s :=
  Iff.trans b2 (O2_iff fun x s => O2_some)
theorem q_lst {Q : List PD → Stt → Prop} : O2 (fLst f S) Q ↔ O2 (f S) fun ds s => Nd (ds.length ≤ 1000) (Q ds s) :=
  Iff.trans b2 (O2_iff fun x s => Iff.trans O2_if (and_congr Iff.rfl O2_some))
theorem q_op {Q : PD → Stt → Prop} : O2 (eOp g a b S) Q ↔ O2 (a S) fun x s => O2 (b s) fun y s' => Ok (g x y) fun d => Q d s' :=
  Iff.trans b2 (O2_iff fun x s => Iff.trans b2 (O2_iff fun y s' => Iff.trans b1 (Ok_iff fun d => O2_some)))
theorem q_un {g : PD → Option PD} {Q : PD → Stt → Prop} : O2 (eUn g a S) Q ↔ O2 (a S) fun x s => Ok (g x) fun d => Q d s :=
  Iff.trans b2 (O2_iff fun x s => Iff.trans b1 (Ok_iff fun d => O2_some))
theorem q_call {g : List PD → Option PD} {Q : PD → Stt → Prop} : O2 (eCall g f S) Q ↔ O2 (f S) fun x s => Ok (g x) fun d => Q d s :=
  Iff.trans b2 (O2_iff fun x s => Iff.trans b1 (Ok_iff fun d => O2_some))
theorem q_fcall {g : List PD → Option (List PD)} {Q : List PD → Stt → Prop} : O2 (fCall g f S) Q ↔ O2 (f S) fun x s => Ok (g x) fun d => Q d s :=
  Iff.trans b2 (O2_iff fun x s => Iff.trans b1 (Ok_iff fun d => O2_some))
theorem q_B {Q : Bool → Stt → Prop} : O2 (eB a S) Q ↔ O2 (a S) fun d s => asB d fun x => Q x s := by
  unfold eB
  constructor
  · rintro ⟨d, s, e, q⟩
    split at e
    · rename_i z s' h; cases e; exact ⟨_, _, h, d, rfl, q⟩
    · cases e
  · rintro ⟨d, s, h, x, rfl, q⟩
    exact ⟨x, s, by rw [h], q⟩
theorem q_tru {Q : Bool → Stt → Prop} : O2 (eTru a S) Q ↔ O2 (a S) fun d s => Ok (gTru d) fun x => Q x s :=
  Iff.trans b2 (O2_iff fun x s => Iff.trans b1 (Ok_iff fun d => O2_some))
theorem q_bT {Q : Bool → Stt → Prop} : O2 (bTrue S) Q ↔ Q true S := O2_some
theorem q_and {Q : Bool → Stt → Prop} : O2 (bAnd t u S) Q ↔ O2 (t S) fun x s => Br x (O2 (u s) Q) (Q false s) :=
  Iff.trans b2 (O2_iff fun x s => by
    cases x
    · exact Iff.trans O2_some Br_false.symm
    · exact Br_true.symm)
theorem q_or {Q : Bool → Stt → Prop} : O2 (bOr t u S) Q ↔ O2 (t S) fun x s => Br x (Q true s) (O2 (u s) Q) :=
  Iff.trans b2 (O2_iff fun x s => by
    cases x
    · exact Br_false.symm
    · exact Iff.trans O2_some Br_true.symm)
theorem q_not {Q : Bool → Stt → Prop} : O2 (bNot t S) Q ↔ O2 (t S) fun x s => Q (!x) s :=
  Iff.trans b2 (O2_iff fun x s => O2_some)
theorem q_eand {Q : PD → Stt → Prop} : O2 (eAnd a b S) Q ↔ O2 (a S) fun d s => asB d fun x => Br x (O2 (b s) Q) (Q (.bool false) s) := by
  unfold eAnd
  constructor
  · rintro ⟨d, s, e, q⟩
    split at e
    · rename_i s' h; exact ⟨_, _, h, true, rfl, Br_true.mpr ⟨d, s, e, q⟩⟩
    · rename_i s' h; cases e; exact ⟨_, _, h, false, rfl, Br_false.mpr q⟩
    · cases e
  · rintro ⟨d, s, h, x, rfl, q⟩
    cases x
    · exact ⟨_, s, by rw [h], Br_false.mp q⟩
    · obtain ⟨d, s', e, q⟩ := Br_true.mp q
      exact ⟨d, s', by rw [h]; exact e, q⟩
theorem q_eor {Q : PD → Stt → Prop} : O2 (eOr a b S) Q ↔ O2 (a S) fun d s => asB d fun x => Br x (Q (.bool true) s) (O2 (b s) Q) := by
  unfold eOr
  constructor
  · rintro ⟨d, s, e, q⟩
    split at e
    · rename_i s' h; cases e; exact ⟨_, _, h, true, rfl, Br_true.mpr q⟩
    · rename_i s' h; exact ⟨_, _, h, false, rfl, Br_false.mpr ⟨d, s, e, q⟩⟩
    · cases e
  · rintro ⟨d, s, h, x, rfl, q⟩
    cases x
    · obtain ⟨d, s', e, q⟩ := Br_false.mp q
      exact ⟨d, s', by rw [h]; exact e, q⟩
    · exact ⟨_, s, by rw [h], Br_true.mp q⟩
theorem q_enot {Q : PD → Stt → Prop} : O2 (eNot a S) Q ↔ O2 (a S) fun d s => asB d fun x => Q (.bool (!x)) s := by
  unfold eNot
  constructor
  · rintro ⟨d, s, e, q⟩
    split at e
    · rename_i x s' h; cases e; exact ⟨_, _, h, x, rfl, q⟩
    · cases e
  · rintro ⟨d, s, h, x, rfl, q⟩
    exact ⟨_, s, by rw [h], q⟩
theorem q_if {Q : PD → Stt → Prop} : O2 (eIf t a b S) Q ↔ O2 (t S) fun x s => Br x (O2 (a s) Q) (O2 (b s) Q) :=
  Iff.trans b2 (O2_iff fun x s => O2_br)
theorem q_chain {g' : PD → PD → Option PD} {Q : PD → Stt → Prop} : O2 (eChain g g' a b c S) Q ↔ O2 (a S) fun x s => O2 (b s) fun y s' => Ok (g x y) fun d => asB d fun v => Br v (O2 (c s') fun z s'' => Ok (g' y z) fun d => Q d s'') (Q (.bool false) s') := by
  refine Iff.trans b2 (O2_iff fun x s => Iff.trans b2 (O2_iff fun y s' => ?_))
  dsimp only
  constructor
  · rintro ⟨d, s2, e, q⟩
    split at e
    · rename_i h; exact ⟨_, h, true, rfl, Br_true.mpr ((Iff.trans b2 (O2_iff fun z s2 => Iff.trans b1 (Ok_iff fun d => O2_some))).mp ⟨d, s2, e, q⟩)⟩
    · rename_i h; cases e; exact ⟨_, h, false, rfl, Br_false.mpr q⟩
    · cases e
  · rintro ⟨d, h, x, rfl, q⟩
    rw [h]
    cases x
    · exact ⟨_, s', rfl, Br_false.mp q⟩
    · exact (Iff.trans b2 (O2_iff fun z s2 => Iff.trans b1 (Ok_iff fun d => O2_some))).mpr (Br_true.mp q)
theorem q_ixO {Q : PD → Stt → Prop} : O2 (eIxO i a S) Q ↔ Nd (isOw S[i]? = true) (O2 (a S) fun k s => Ow s[i]? fun xs => Ok (gIx (.list xs) k) fun d => Q d s) := by
  refine Iff.trans O2_if (and_congr Iff.rfl (Iff.trans b2 (O2_iff fun k s => ?_)))
  dsimp only
  constructor
  · rintro ⟨d, s', e, q⟩
    split at e
    · rename_i xs h; exact ⟨xs, h, (Iff.trans b1 (Ok_iff fun d => O2_some)).mp ⟨d, s', e, q⟩⟩
    · cases e
  · rintro ⟨xs, h, q⟩
    rw [h]
    exact (Iff.trans b1 (Ok_iff fun d => O2_some)).mpr q
theorem q_sl {g h : EvO} {Q : PD → Stt → Prop} : O2 (eSl a g h S) Q ↔ O2 (a S) fun d s => O2 (g s) fun lo s1 => O2 (h s1) fun hi s2 => Ok (gSl d lo hi) fun r => Q r s2 :=
  Iff.trans b2 (O2_iff fun x s => Iff.trans b2 (O2_iff fun y s' => Iff.trans b2 (O2_iff fun z s2 => Iff.trans b1 (Ok_iff fun d => O2_some))))
theorem q_oNo {Q : Option Int → Stt → Prop} : O2 (oNo S) Q ↔ Q none S := O2_some
theorem q_oSo {Q : Option Int → Stt → Prop} : O2 (oSo a S) Q ↔ O2 (a S) fun d s => asI d fun x => Q (some x) s := by
  unfold oSo
  constructor
  · rintro ⟨d, s, e, q⟩
    split at e
    · rename_i x s' h; cases e; exact ⟨_, _, h, x, rfl, q⟩
    · cases e
  · rintro ⟨d, s, h, x, rfl, q⟩
    exact ⟨_, s, by rw [h], q⟩
theorem q_rev {Q : List PD → Stt → Prop} : O2 (fRev a S) Q ↔ O2 (a S) fun x s => Ok (gRev x) fun d => Q d s :=
  Iff.trans b2 (O2_iff fun x s => Iff.trans b1 (Ok_iff fun d => O2_some))
theorem q_ty {Q : List PD → Stt → Prop} : O2 (aTy a S) Q ↔ O2 (a S) fun x s => Q [x] s :=
  Iff.trans b2 (O2_iff fun x s => O2_some)
theorem q_mnil {Q : List DK.Arg → Stt → Prop} : O2 (mNil S) Q ↔ Q [] S := O2_some
theorem q_mE {m : EvM} {Q : List DK.Arg → Stt → Prop} : O2 (mE a m S) Q ↔ O2 (a S) fun d s => O2 (m s) fun ds s' => Q (.v d :: ds) s' :=
  Iff.trans b2 (O2_iff fun x s => Iff.trans b2 (O2_iff fun y s' => O2_some))
theorem q_mN {m : EvM} {Q : List DK.Arg → Stt → Prop} : O2 (mN i m S) Q ↔ Nd (isOw S[i]? = true) (O2 (m S) fun ds s' => Q (.n i :: ds) s') :=
  Iff.trans O2_if (and_congr Iff.rfl (Iff.trans b2 (O2_iff fun x s => O2_some)))
theorem q_adNil {Q : List PD → Prop} : Ok (ArgD S []) Q ↔ Q [] := Ok_some
theorem q_adV {d : PD} {r : List DK.Arg} {Q : List PD → Prop} : Ok (ArgD S (.v d :: r)) Q ↔ Ok (ArgD S r) fun ds => Q (d :: ds) := by
  show Ok ((ArgD S r).map _) Q ↔ _
  cases ArgD S r with
  | none => exact ⟨fun ⟨_, e, _⟩ => (by cases e), fun ⟨_, e, _⟩ => by cases e⟩
  | some x => exact ⟨fun h => (Ok_some (Q := fun ds => Q (d :: ds))).mpr ((Ok_some (Q := Q)).mp h), fun h => (Ok_some (Q := Q)).mpr ((Ok_some (Q := fun ds => Q (d :: ds))).mp h)⟩
theorem q_adN {r : List DK.Arg} {Q : List PD → Prop} : Ok (ArgD S (.n i :: r)) Q ↔ Ow S[i]? fun xs => Ok (ArgD S r) fun ds => Q (.list xs :: ds) := by
  show Ok (match S[i]? with
    | some (.ow xs) => (ArgD S r).map (.list xs :: ·)
    | _ => none) Q ↔ _
  constructor
  · rintro ⟨ds, e, q⟩
    split at e
    · rename_i xs h
      refine ⟨xs, h, ?_⟩
      cases e2 : ArgD S r with
      | none => rw [e2] at e; cases e
      | some y => rw [e2] at e; cases e; exact Ok_some.mpr q
    · cases e
  · rintro ⟨xs, h, ds, e, q⟩
    exact ⟨_, by rw [h]; show (ArgD S r).map _ = _; rw [e]; rfl, q⟩
theorem q_callM {g : List PD → Option PD} {m : EvM} {Q : PD → Stt → Prop} : O2 (eCallM g m S) Q ↔ O2 (m S) fun as s => Ok (ArgD s as) fun ds => Ok (g ds) fun d => Nd (flat d = true) (Q d s) :=
  Iff.trans b2 (O2_iff fun x s => Iff.trans b1 (Ok_iff fun d => Iff.trans b1 (Ok_iff fun e => Iff.trans O2_if (and_congr Iff.rfl O2_some))))
theorem q_fcallM {g : List PD → Option (List PD)} {m : EvM} {Q : List PD → Stt → Prop} : O2 (fCallM g m S) Q ↔ O2 (m S) fun as s => Ok (ArgD s as) fun ds => Ok (g ds) fun d => Nd (flatL d = true) (Q d s) :=
  Iff.trans b2 (O2_iff fun x s => Iff.trans b1 (Ok_iff fun d => Iff.trans b1 (Ok_iff fun e => Iff.trans O2_if (and_congr Iff.rfl O2_some))))
theorem q_copy {Q : List PD → Stt → Prop} : O2 (fCopy i S) Q ↔ Ow S[i]? fun xs => Q xs S := by
  unfold fCopy
  constructor
  · rintro ⟨d, s, e, q⟩
    split at e
    · rename_i z h; cases e; exact ⟨_, h, q⟩
    · cases e
  · rintro ⟨d, h, q⟩
    exact ⟨d, S, by rw [h], q⟩
theorem q_opN {Q : PD → Stt → Prop} : O2 (eOpN g a i S) Q ↔ O2 (a S) fun d s => Ow s[i]? fun xs => Ok (g d (.list xs)) fun r => Nd (flat r = true) (Q r s) := by
  refine Iff.trans b2 (O2_iff fun k s => ?_)
  dsimp only
  constructor
  · rintro ⟨d, s', e, q⟩
    split at e
    · rename_i xs h; exact ⟨xs, h, (Iff.trans b1 (Ok_iff fun d => Iff.trans O2_if (and_congr Iff.rfl O2_some))).mp ⟨d, s', e, q⟩⟩
    · cases e
  · rintro ⟨xs, h, q⟩
    rw [h]
    exact (Iff.trans b1 (Ok_iff fun d => Iff.trans O2_if (and_congr Iff.rfl O2_some))).mpr q
theorem q_rep {Q : List PD → Stt → Prop} : O2 (fRep a b S) Q ↔ O2 (a S) fun x s => O2 (b s) fun y s' => Ok (gRep x y) fun d => asL d fun zs => Q zs s' := by
  refine Iff.trans b2 (O2_iff fun x s => Iff.trans b2 (O2_iff fun y s' => ?_))
  dsimp only
  constructor
  · rintro ⟨d, s2, e, q⟩
    split at e
    · rename_i zs h; cases e; exact ⟨_, h, _, rfl, q⟩
    · cases e
  · rintro ⟨d, h, zs, rfl, q⟩
    exact ⟨zs, s', by rw [h], q⟩
theorem q_rgL {Q : List PD → Stt → Prop} : O2 (fRgL a S) Q ↔ O2 (a S) fun d s => asI d fun n => Nd (okR n = true) (Q (rng 0 n.toNat) s) := by
  unfold fRgL
  constructor
  · rintro ⟨d, s, e, q⟩
    split at e
    · rename_i z s' h
      split at e
      · rename_i hk; cases e; exact ⟨_, _, h, _, rfl, hk, q⟩
      · cases e
    · cases e
  · rintro ⟨d, s, h, n, rfl, hk, q⟩
    exact ⟨_, s, by rw [h]; exact if_pos hk, q⟩
theorem q_iLst {Q : List PD → Stt → Prop} : O2 (iLst a S) Q ↔ O2 (a S) fun d s => asL d fun x => Q x s := by
  unfold iLst
  constructor
  · rintro ⟨d, s, e, q⟩
    split at e
    · rename_i z s' h; cases e; exact ⟨_, _, h, d, rfl, q⟩
    · cases e
  · rintro ⟨d, s, h, x, rfl, q⟩
    exact ⟨x, s, by rw [h], q⟩
theorem q_iTup {Q : List PD → Stt → Prop} : O2 (iTupl a S) Q ↔ O2 (a S) fun d s => asT d fun x => Q x s := by
  unfold iTupl
  constructor
  · rintro ⟨d, s, e, q⟩
    split at e
    · rename_i z s' h; cases e; exact ⟨_, _, h, d, rfl, q⟩
    · cases e
  · rintro ⟨d, s, h, x, rfl, q⟩
    exact ⟨x, s, by rw [h], q⟩
theorem q_iScr {Q : List PD → Stt → Prop} : O2 (iScr i S) Q ↔ Sc S[i]? fun ns => Q (ns.map PyData.int) S := by
  unfold iScr
  constructor
  · rintro ⟨d, s, e, q⟩
    split at e
    · rename_i z h; cases e; exact ⟨_, h, q⟩
    · cases e
  · rintro ⟨d, h, q⟩
    exact ⟨_, S, by rw [h], q⟩
theorem q_rng1 {Q : List PD → Stt → Prop} : O2 (DK.iRng1 (aCons a aNil) S) Q ↔ O2 (a S) fun d s => asI d fun n => Nd (okR n = true) (Q (rng 0 n.toNat) s) := by
  unfold DK.iRng1
  constructor
  · rintro ⟨d, s, e, q⟩
    split at e
    · rename_i z s' h
      split at e
      · rename_i hk
        cases e
        obtain ⟨d1, s1, e1, d2, s2, e2, h3, h4⟩ := q_cons.mp (⟨_, _, h, rfl, rfl⟩ : O2 _ fun ds s2 => ds = [PyData.int z] ∧ s2 = s)
        cases e2
        cases h3
        subst h4
        exact ⟨_, _, e1, _, rfl, hk, q⟩
      · cases e
    · cases e
  · rintro ⟨d, s, h, n, rfl, hk, q⟩
    refine ⟨_, s, ?_, q⟩
    have : aCons a aNil S = some ([.int n], s) := by
      unfold aCons
      rw [h]
      rfl
    rw [this]
    exact if_pos hk
end
/-! ## statements -/
section
variable {S : Stt} {a b : Ev} {f : EvL} {t : EvB} {g h : EvSt} {i j : Nat} {R : Out → Prop}
def sK (h : EvSt) (R : Out → Prop) : Out → Prop
  | .nx S1 => Ok (h S1) R
  | o => R o
theorem sK_nx : sK h R (.nx S) ↔ Ok (h S) R := Iff.rfl
theorem sK_rt {d : PD} : sK h R (.rt d S) ↔ R (.rt d S) := Iff.rfl
theorem sK_rtF {d : List PD} : sK h R (.rtF d S) ↔ R (.rtF d S) := Iff.rfl
theorem sK_bk : sK h R (.bk S) ↔ R (.bk S) := Iff.rfl
theorem sK_ct : sK h R (.ct S) ↔ R (.ct S) := Iff.rfl
theorem p_seq : Ok (sSeq g h S) R ↔ Ok (g S) (sK h R) := by
  unfold sSeq
  constructor
  · rintro ⟨o, e, q⟩
    split at e
    · rename_i S1 hh; exact ⟨_, hh, o, e, q⟩
    · rename_i hh
      refine ⟨o, e, ?_⟩
      cases o with
      | nx S1 => exact (hh S1 e).elim
      | rt d S1 => exact q
      | rtF d S1 => exact q
      | bk S1 => exact q
      | ct S1 => exact q
  · rintro ⟨o, e, q⟩
    rw [e]
    cases o with
    | nx S1 => exact q
    | rt d S1 => exact ⟨_, rfl, q⟩
    | rtF d S1 => exact ⟨_, rfl, q⟩
    | bk S1 => exact ⟨_, rfl, q⟩
    | ct S1 => exact ⟨_, rfl, q⟩
theorem p_nil : Ok (sNil S) R ↔ R (.nx S) := Ok_some
theorem p_bk : Ok (sBreak S) R ↔ R (.bk S) := Ok_some
theorem p_ct : Ok (sCont S) R ↔ R (.ct S) := Ok_some
theorem p_never : Ok (sNever S) R ↔ False := ⟨fun ⟨_, e, _⟩ => (by cases e), False.elim⟩
theorem p_frz : Ok (sFrz i g S) R ↔ Ok (g (frz i S)) R := Iff.rfl
theorem p_expr : Ok (sExpr a S) R ↔ O2 (a S) fun _ s => R (.nx s) := Iff.trans b3 (O2_iff fun x s => Ok_some)
theorem p_ret : Ok (sRet a S) R ↔ O2 (a S) fun d s => R (.rt d s) := Iff.trans b3 (O2_iff fun x s => Ok_some)
theorem p_retF : Ok (sRetF f S) R ↔ O2 (f S) fun d s => R (.rtF d s) := Iff.trans b3 (O2_iff fun x s => Ok_some)
theorem p_retOw : Ok (sRetOw (i + 1) S) R ↔ Ow S[i + 1]? fun xs => R (.rtF xs (S.set (i + 1) .no)) := by
  unfold sRetOw
  rw [if_neg (by omega)]
  constructor
  · rintro ⟨o, e, q⟩
    split at e
    · rename_i xs hh; cases e; exact ⟨_, hh, q⟩
    · cases e
  · rintro ⟨xs, e, q⟩
    exact ⟨_, by rw [e], q⟩
theorem p_set : Ok (sSet i a S) R ↔ O2 (a S) fun d s => R (.nx (s.set i (.sh d))) := Iff.trans b3 (O2_iff fun x s => Ok_some)
theorem p_setF : Ok (sSetF i f S) R ↔ O2 (f S) fun d s => Nd (i ≠ 0 ∧ i < s.length) (R (.nx (s.set i (.ow d)))) := Iff.trans b3 (O2_iff fun x s => Iff.trans Ok_if (and_congr Iff.rfl Ok_some))
theorem p_if : Ok (sIf t g h S) R ↔ O2 (t S) fun x s => Br x (Ok (g s) R) (Ok (h s) R) := Iff.trans b3 (O2_iff fun x s => Ok_br)
theorem p_app : Ok (sApp i a S) R ↔ Nd (isOw S[i]? = true) (O2 (a S) fun d s => Ow s[i]? fun xs => Nd (xs.length < 100000) (R (.nx (s.set i (.ow (xs ++ [d])))))) := by
  refine Iff.trans Ok_if (and_congr Iff.rfl (Iff.trans b3 (O2_iff fun k s => ?_)))
  dsimp only
  constructor
  · rintro ⟨d, e, q⟩
    split at e
    · rename_i xs h; exact ⟨xs, h, (Iff.trans Ok_if (and_congr Iff.rfl Ok_some)).mp ⟨d, e, q⟩⟩
    · cases e
  · rintro ⟨xs, h, q⟩
    rw [h]
    exact (Iff.trans Ok_if (and_congr Iff.rfl Ok_some)).mpr q
theorem p_ext : Ok (sExt i a S) R ↔ Nd (isOw S[i]? = true) (O2 (a S) fun d s => Ow s[i]? fun xs => asL d fun ys => Nd (xs.length + ys.length < 100000) (R (.nx (s.set i (.ow (xs ++ ys)))))) := by
  refine Iff.trans Ok_if (and_congr Iff.rfl (Iff.trans b3 (O2_iff fun k s => ?_)))
  dsimp only
  constructor
  · rintro ⟨d, e, q⟩
    split at e
    · rename_i xs ys h; exact ⟨xs, h, ys, rfl, (Iff.trans Ok_if (and_congr Iff.rfl Ok_some)).mp ⟨d, e, q⟩⟩
    · cases e
  · rintro ⟨xs, h, ys, rfl, q⟩
    rw [h]
    exact (Iff.trans Ok_if (and_congr Iff.rfl Ok_some)).mpr q
theorem p_clr : Ok (sClr i S) R ↔ Nd (isOw S[i]? = true) (R (.nx (S.set i (.ow [])))) := Iff.trans Ok_if (and_congr Iff.rfl Ok_some)
theorem p_sto : Ok (sSto i a b S) R ↔ O2 (a S) fun d s => Nd (isOw s[i]? = true) (O2 (b s) fun k s1 => Ow s1[i]? fun xs => asI k fun n => Ok (ixN xs.length n) fun m => R (.nx (s1.set i (.ow (xs.set m d))))) := by
  refine Iff.trans b3 (O2_iff fun d s => Iff.trans Ok_if (and_congr Iff.rfl (Iff.trans b3 (O2_iff fun k s1 => ?_))))
  dsimp only
  constructor
  · rintro ⟨o, e, q⟩
    split at e
    · rename_i xs n h
      split at e
      · rename_i m hm; cases e; exact ⟨xs, h, n, rfl, m, hm, q⟩
      · cases e
    · cases e
  · rintro ⟨xs, h, n, rfl, m, hm, q⟩
    rw [h]
    exact ⟨_, by dsimp only; rw [hm], q⟩
theorem p_par : Ok (sPar i j (aCons a (aCons b aNil)) S) R ↔ O2 (a S) fun x s => O2 (b s) fun y s' => R (.nx (((letGo [i, j] s').set i (.sh x)).set j (.sh y))) := by
  have key : ∀ ds s, aCons a (aCons b aNil) S = some (ds, s) → ∃ x s1 y, a S = some (x, s1) ∧ b s1 = some (y, s) ∧ ds = [x, y] := by
    intro ds s e
    obtain ⟨x, s1, e1, y, s2, e2, h, h'⟩ := q_cons.mp (⟨_, _, e, rfl, rfl⟩ : O2 _ fun ds' s' => ds' = ds ∧ s' = s)
    obtain ⟨z, s3, e3, w, s4, e4, h4, h5⟩ := q_cons.mp (⟨_, _, e2, rfl, rfl⟩ : O2 _ fun ds' s' => ds' = y ∧ s' = s2)
    cases e4
    subst h4 h5 h h'
    exact ⟨x, s1, z, e1, e3, rfl⟩
  constructor
  · rintro ⟨o, e, q⟩
    unfold sPar at e
    split at e
    · rename_i x y s h
      cases e
      obtain ⟨x', s1, y', e1, e2, h⟩ := key _ _ h
      cases h
      exact ⟨_, _, e1, _, _, e2, q⟩
    · cases e
  · rintro ⟨x, s, e, y, s', e', q⟩
    refine ⟨_, ?_, q⟩
    have : aCons a (aCons b aNil) S = some ([x, y], s') := by
      unfold aCons
      rw [e]
      show (Option.bind (Option.bind (b s) _) _) = _
      rw [e']
      rfl
    unfold sPar
    rw [this]
theorem p_asg {vs : List Nat} {tgt : PD → Stt → Option Stt} : Ok (sAsg a vs tgt S) R ↔ O2 (a S) fun d s => Ok (tgt d (letGo vs s)) fun s' => R (.nx s') :=
  Iff.trans b3 (O2_iff fun d s => Iff.trans bindO (Ok_iff fun s' => Ok_some))
theorem p_move : Ok (sMove i j S) R ↔ Nd (¬ (j = 0 ∨ i = j ∨ i = 0 ∨ ¬ i < S.length)) (Ow S[j]? fun xs => R (.nx ((S.set j .no).set i (.ow xs)))) := by
  unfold sMove
  by_cases hh : j = 0 ∨ i = j ∨ i = 0 ∨ ¬ i < S.length
  · rw [if_pos hh]
    exact ⟨fun ⟨_, e, _⟩ => (by cases e), fun z => (z.1 hh).elim⟩
  · rw [if_neg hh]
    constructor
    · rintro ⟨o, e, q⟩
      split at e
      · rename_i xs h2; cases e; exact ⟨hh, xs, h2, q⟩
      · cases e
    · rintro ⟨_, xs, e, q⟩
      exact ⟨_, by rw [e], q⟩
theorem p_aug {g : PD → PD → Option PD} : Ok (sAug g i a S) R ↔ Sh S[i]? fun x => O2 (a S) fun y s => Ok (g x y) fun d => R (.nx (s.set i (.sh d))) := by
  unfold sAug
  constructor
  · rintro ⟨o, e, q⟩
    split at e
    · rename_i d h2; exact ⟨d, h2, (Iff.trans b3 (O2_iff fun y s => Iff.trans bindO (Ok_iff fun z => Ok_some))).mp ⟨o, e, q⟩⟩
    · cases e
  · rintro ⟨d, h2, q⟩
    rw [h2]
    exact (Iff.trans b3 (O2_iff fun y s => Iff.trans bindO (Ok_iff fun z => Ok_some))).mpr q
theorem p_then : Ok (sThen i g S) R ↔ Ok (g S) fun o => match o with
    | .nx S1 => R (.nx (frz i S1))
    | o => R o := by
  unfold sThen
  constructor
  · rintro ⟨o, e, q⟩
    split at e
    · rename_i S1 h2; cases e; exact ⟨_, h2, q⟩
    · rename_i h2
      refine ⟨o, e, ?_⟩
      cases o with
      | nx S1 => exact (h2 S1 e).elim
      | rt d S1 => exact q
      | rtF d S1 => exact q
      | bk S1 => exact q
      | ct S1 => exact q
  · rintro ⟨o, e, q⟩
    rw [e]
    cases o with
    | nx S1 => exact ⟨_, rfl, q⟩
    | rt d S1 => exact ⟨_, rfl, q⟩
    | rtF d S1 => exact ⟨_, rfl, q⟩
    | bk S1 => exact ⟨_, rfl, q⟩
    | ct S1 => exact ⟨_, rfl, q⟩
theorem p_thenF : Ok (sThen i (sSetF i f) S) R ↔ O2 (f S) fun d s => Nd (i ≠ 0 ∧ i < s.length) (R (.nx (s.set i (.sh (.list d))))) := by
  rw [p_then, p_setF]
  refine O2_iff fun d s => and_congr_right fun hl => ?_
  have : frz i (s.set i (.ow d)) = s.set i (.sh (.list d)) := by
    unfold frz
    rw [List.getElem?_set_self (by omega)]
    dsimp only
    rw [List.set_set]
  rw [← this]
theorem p_for {items : EvL} {vs : List Nat} {tgt : PD → Stt → Option Stt} : Ok (sFor items vs tgt g S) R ↔ O2 (items S) fun ds s => Ok (forL vs tgt g ds s) R := b3
/-! targets -/
theorem t_nm {d : PD} {Q : Stt → Prop} : Ok (tNm i d S) Q ↔ Q (S.set i (.sh d)) := Ok_some
theorem t_nil {Q : Stt → Prop} : Ok (tsNil [] S) Q ↔ Q S := Ok_some
theorem t_cons {u : PD → Stt → Option Stt} {v : List PD → Stt → Option Stt} {d : PD} {r : List PD} {Q : Stt → Prop} : Ok (tsCons u v (d :: r) S) Q ↔ Ok (u d S) fun s => Ok (v r s) Q := bindO
theorem t_tup {n : Nat} {v : List PD → Stt → Option Stt} {ds : List PD} {Q : Stt → Prop} : Ok (tTp n v (.tuple ds) S) Q ↔ Nd (ds.length = n) (Ok (v ds S) Q) := Ok_if
end
end PL
namespace PL
open PySem PySem.Spec PyProof.Rows L2 DK
theorem Br_dec {p : Prop} [Decidable p] {a b : Prop} : Br (decide p) a b ↔ (p → a) ∧ (¬ p → b) := by
  unfold Br
  rw [decide_eq_true_eq, decide_eq_false_iff_not]
theorem Br_not {x : Bool} {a b : Prop} : Br (!x) a b ↔ Br x b a := by
  cases x
  · exact Iff.trans Br_true Br_false.symm
  · exact Iff.trans Br_false Br_true.symm
/-! ## operations -/
section
variable {i j : Int} {K : PD → Prop} {xs ys : List PD}
theorem o_add : Ok (gAdd (.int i) (.int j)) K ↔ K (.int (i + j)) := Ok_some
theorem o_cat : Ok (gAdd (.list xs) (.list ys)) K ↔ Nd (xs.length + ys.length ≤ 100000) (K (.list (xs ++ ys))) := Iff.trans Ok_if (and_congr Iff.rfl Ok_some)
theorem o_sub : Ok (gSub (.int i) (.int j)) K ↔ K (.int (i - j)) := Ok_some
theorem o_mul : Ok (gMul (.int i) (.int j)) K ↔ Nd (okMul i j = true) (K (.int (i * j))) := by
  unfold gMul orD gI
  dsimp only
  cases okMul i j
  · exact ⟨fun ⟨_, e, _⟩ => (by cases e), fun h => nomatch h.1⟩
  · exact Iff.trans Ok_some ⟨fun h => ⟨rfl, h⟩, fun h => h.2⟩
theorem o_rep : Ok (gRep (.list xs) (.int i)) K ↔ Nd (xs.length * i.toNat ≤ 100000 ∧ i < 100000 ∧ -100000 < i) (K (.list (List.replicate i.toNat xs).flatten)) := Iff.trans Ok_if (and_congr Iff.rfl Ok_some)
theorem o_div : Ok (gDiv (.int i) (.int j)) K ↔ Nd (0 < j ∧ (j.natAbs.log2 < 9000 ∨ i.natAbs.log2 < 13400)) (K (.int (i / j))) := by
  refine Iff.trans (show Ok (if okDiv i j = true then some (PyData.int (i / j)) else none) K ↔ _ from Ok_if) (and_congr ?_ Ok_some)
  unfold okDiv
  rw [decide_eq_true_eq]
theorem o_mod : Ok (gMod (.int i) (.int j)) K ↔ Nd (0 < j) (K (.int (i % j))) := by
  refine Iff.trans (show Ok (if decide (0 < j) = true then some (PyData.int (i % j)) else none) K ↔ _ from Ok_if) (and_congr ?_ Ok_some)
  rw [decide_eq_true_eq]
theorem o_pow : Ok (gPow (.int i) (.int j)) K ↔ Nd (0 ≤ j ∧ j ≤ 1000 ∧ i.natAbs < 2 ^ 64) (K (.int (i ^ j.toNat))) := by
  refine Iff.trans (show Ok (if decide (0 ≤ j ∧ j ≤ 1000 ∧ i.natAbs < 2 ^ 64) = true then some (PyData.int (i ^ j.toNat)) else none) K ↔ _ from Ok_if) (and_congr ?_ Ok_some)
  rw [decide_eq_true_eq]
theorem o_neg : Ok (gNeg (.int i)) K ↔ K (.int (-i)) := Ok_some
theorem o_lt : Ok (gCmp (fun i j => decide (i < j)) (.int i) (.int j)) K ↔ K (.bool (decide (i < j))) := Ok_some
theorem o_le : Ok (gCmp (fun i j => decide (i ≤ j)) (.int i) (.int j)) K ↔ K (.bool (decide (i ≤ j))) := Ok_some
theorem o_gt : Ok (gCmp (fun i j => decide (j < i)) (.int i) (.int j)) K ↔ K (.bool (decide (j < i))) := Ok_some
theorem o_ge : Ok (gCmp (fun i j => decide (j ≤ i)) (.int i) (.int j)) K ↔ K (.bool (decide (j ≤ i))) := Ok_some
theorem eqv_int : PyData.eqv (.int i) (.int j) = decide (i = j) := by
  unfold PyData.eqv
  rfl
theorem o_eqI {n : Bool} : Ok (gEqN n (.int i) (.int j)) K ↔ K (.bool (n != decide (i = j))) := by
  rw [← eqv_int]
  exact Ok_some
theorem o_eqB {n : Bool} {x y : Bool} : Ok (gEqN n (.bool x) (.bool y)) K ↔ K (.bool (n != (x == y))) := by
  have : PyData.eqv (.bool x) (.bool y) = (x == y) := by
    unfold PyData.eqv
    rfl
  rw [← this]
  exact Ok_some
theorem o_eqS {n : Bool} {x y : Str} : Ok (gEqN n (.str x) (.str y)) K ↔ K (.bool (n != decide (x = y))) := Ok_some
theorem o_eq {n : Bool} {a b : PD} (h : ∀ x y, a = .str x → b = .str y → False) : Ok (gEqN n a b) K ↔ Nd (shp a = true ∧ shp b = true) (K (.bool (n != PyData.eqv a b))) := by
  have : gEqN n a b = if shp a && shp b then some (.bool (n != PyData.eqv a b)) else none := by
    unfold gEqN
    split
    · exact (h _ _ rfl rfl).elim
    · rfl
  rw [this]
  refine Iff.trans Ok_if (and_congr ?_ Ok_some)
  rw [Bool.and_eq_true]
theorem o_inL {n : Bool} {a : PD} : Ok (gIn n a (.list xs)) K ↔ Nd (shp a = true ∧ shp (.list xs) = true) (K (.bool (n != xs.any fun z => PyData.eqv z a))) := by
  refine Iff.trans (show Ok (if (shp a && shp (.list xs)) = true then some (PyData.bool (n != xs.any fun z => PyData.eqv z a)) else none) K ↔ _ from Ok_if) (and_congr ?_ Ok_some)
  rw [Bool.and_eq_true]
theorem o_inT {n : Bool} {a : PD} : Ok (gIn n a (.tuple xs)) K ↔ Nd (flatD a = true ∧ xs.all flatD = true) (K (.bool (n != xs.any fun z => PyData.eqv z a))) := by
  refine Iff.trans (show Ok (if (flatD a && xs.all flatD) = true then some (PyData.bool (n != xs.any fun z => PyData.eqv z a)) else none) K ↔ _ from Ok_if) (and_congr ?_ Ok_some)
  rw [Bool.and_eq_true]
theorem o_ixL : Ok (gIx (.list xs) (.int i)) K ↔ Ok (atI xs i) K := Iff.rfl
theorem o_ixT : Ok (gIx (.tuple xs) (.int i)) K ↔ Ok (atI xs i) K := Iff.rfl
theorem atI_nat {α : Type} (xs : List α) (n : Nat) : atI xs (n : Int) = xs[n]? := by
  unfold atI ixN
  rw [if_pos (by omega)]
  by_cases h : n < xs.length
  · rw [if_pos (by omega)]; rfl
  · rw [if_neg (by omega), List.getElem?_eq_none (by omega)]; rfl
theorem atI_lit {α : Type} (xs : List α) (n : Nat) : atI xs (no_index (@OfNat.ofNat Int n _)) = xs[n]? := atI_nat xs n
theorem atI_last {α : Type} (xs : List α) : atI xs (-1) = xs.getLast? := by
  unfold atI ixN
  rw [if_neg (by omega)]
  cases xs with
  | nil => rfl
  | cons x r =>
    rw [if_pos (by simp only [List.length_cons]; omega), List.getLast?_eq_getElem?]
    show (x :: r)[((-1 : Int) + _).toNat]? = _
    congr 1
    simp only [List.length_cons]
    omega
theorem o_lenL : Ok (gLen [.list xs]) K ↔ K (.int xs.length) := Ok_some
theorem o_lenT : Ok (gLen [.tuple xs]) K ↔ K (.int xs.length) := Ok_some
theorem o_abs : Ok (gAbs [.int i]) K ↔ K (.int i.natAbs) := by
  refine Iff.trans Ok_some ?_
  have : (if i < 0 then -i else i) = (i.natAbs : Int) := by split <;> omega
  rw [this]
theorem o_int : Ok (gInt [.int i]) K ↔ K (.int i) := Ok_some
theorem o_intB {x : Bool} : Ok (gInt [.bool x]) K ↔ K (.int (if x then 1 else 0)) := Ok_some
theorem o_gcd : Ok (gII (fun i j => ((Nat.gcd i.natAbs j.natAbs : Nat) : Int)) [.int i, .int j]) K ↔ K (.int (Nat.gcd i.natAbs j.natAbs : Nat)) := Ok_some
theorem o_max : Ok (gII (fun i j => if j > i then j else i) [.int i, .int j]) K ↔ K (.int (max i j)) := by
  refine Iff.trans Ok_some ?_
  have : (if j > i then j else i) = max i j := by omega
  dsimp only
  rw [this]
theorem o_min : Ok (gII (fun i j => if j < i then j else i) [.int i, .int j]) K ↔ K (.int (min i j)) := by
  refine Iff.trans Ok_some ?_
  have : (if j < i then j else i) = min i j := by omega
  dsimp only
  rw [this]
theorem o_slL {lo hi : Option Int} : Ok (gSl (.list xs) lo hi) K ↔ K (.list (cutL xs lo hi)) := Ok_some
theorem o_slT {lo hi : Option Int} : Ok (gSl (.tuple xs) lo hi) K ↔ K (.tuple (cutL xs lo hi)) := Ok_some
theorem o_sum {ns : List Int} : Ok (gSum [.list (ns.map PyData.int)]) K ↔ K (.int ns.sum) := by
  show Ok ((intsOf (ns.map PyData.int)).map fun ns => PyData.int ns.sum) K ↔ _
  rw [intsOf_map]
  exact Ok_some
theorem boolsOf_map : ∀ ns : List Bool, boolsOf (ns.map PyData.bool) = some ns
  | [] => rfl
  | n :: r => by
    show (boolsOf (r.map PyData.bool)).map (n :: ·) = _
    rw [boolsOf_map r]
    rfl
theorem o_all {ns : List Bool} : Ok (gAll [.list (ns.map PyData.bool)]) K ↔ K (.bool (ns.all id)) := by
  show Ok ((boolsOf (ns.map PyData.bool)).map fun bs => PyData.bool (bs.all id)) K ↔ _
  rw [boolsOf_map]
  exact Ok_some
theorem o_any {ns : List Bool} : Ok (gAny [.list (ns.map PyData.bool)]) K ↔ K (.bool (ns.any id)) := by
  show Ok ((boolsOf (ns.map PyData.bool)).map fun bs => PyData.bool (bs.any id)) K ↔ _
  rw [boolsOf_map]
  exact Ok_some
theorem o_listL {K : List PD → Prop} : Ok (gList [.list xs]) K ↔ K xs := Ok_some
theorem o_listT {K : List PD → Prop} : Ok (gList [.tuple xs]) K ↔ K xs := Ok_some
theorem o_sorted {ns : List Int} {K : List PD → Prop} : Ok (gSorted [.list (ns.map PyData.int)]) K ↔ K ((srt ns).map PyData.int) := by
  show Ok ((intsOf (ns.map PyData.int)).map fun ns => (srt ns).map PyData.int) K ↔ _
  rw [intsOf_map]
  exact Ok_some
theorem o_rev {K : List PD → Prop} : Ok (gRev (.list xs)) K ↔ K xs.reverse := Ok_some
theorem o_isi {T : String} {d : PD} : Ok (gIsi T [d]) K ↔ Ok (kitB (tyD d) T) fun x => K (.bool x) := by
  show Ok ((kitB (tyD d) T).map _) K ↔ _
  cases kitB (tyD d) T with
  | none => exact ⟨fun ⟨_, e, _⟩ => (by cases e), fun ⟨_, e, _⟩ => (by cases e)⟩
  | some x => exact Iff.trans Ok_some (Ok_some (Q := fun x => K (.bool x))).symm
variable {B : Bool → Prop}
theorem r_b {x : Bool} : Ok (gTru (.bool x)) B ↔ B x := Ok_some
theorem r_i : Ok (gTru (.int i)) B ↔ B (i != 0) := Ok_some
theorem r_l : Ok (gTru (.list xs)) B ↔ B (!xs.isEmpty) := Ok_some
theorem r_t : Ok (gTru (.tuple xs)) B ↔ B (!xs.isEmpty) := Ok_some
end
/-! ## loops -/
section
variable {α : Type} {S : Stt} {vs : List Nat} {tgt : PD → Stt → Option Stt} {body : EvSt} {R : Out → Prop}
def lpK (J : Stt → Prop) (R : Out → Prop) : Out → Prop
  | .nx S => J S
  | .ct S => J S
  | .bk S => R (.nx S)
  | o => R o
theorem lpK_nx {J : Stt → Prop} : lpK J R (.nx S) ↔ J S := Iff.rfl
theorem lpK_ct {J : Stt → Prop} : lpK J R (.ct S) ↔ J S := Iff.rfl
theorem lpK_bk {J : Stt → Prop} : lpK J R (.bk S) ↔ R (.nx S) := Iff.rfl
theorem lpK_rt {J : Stt → Prop} {d : PD} : lpK J R (.rt d S) ↔ R (.rt d S) := Iff.rfl
theorem lpK_rtF {J : Stt → Prop} {d : List PD} : lpK J R (.rtF d S) ↔ R (.rtF d S) := Iff.rfl
theorem p_forNil : Ok (forL vs tgt body [] S) R ↔ R (.nx S) := Ok_some
theorem p_forCons {d : PD} {ds : List PD} : Ok (forL vs tgt body (d :: ds) S) R ↔ Ok (tgt d (letGo vs S)) fun S1 => Ok (body S1) (lpK (fun S2 => Ok (forL vs tgt body ds S2) R) R) := by
  constructor
  · rintro ⟨o, e, q⟩
    unfold forL at e
    split at e
    · cases e
    · rename_i S1 h1
      refine ⟨S1, h1, ?_⟩
      split at e
      · rename_i S2 h2; exact ⟨_, h2, o, e, q⟩
      · rename_i S2 h2; exact ⟨_, h2, o, e, q⟩
      · rename_i S2 h2; cases e; exact ⟨_, h2, q⟩
      · rename_i o' n1 n2 n3
        refine ⟨o, e, ?_⟩
        cases o with
        | nx S1 => exact (n1 _ e).elim
        | rt d S1 => exact q
        | rtF d S1 => exact q
        | bk S1 => exact (n3 _ e).elim
        | ct S1 => exact (n2 _ e).elim
  · rintro ⟨S1, h1, o, h2, q⟩
    cases o with
    | nx S2 =>
      obtain ⟨o, e, q⟩ := q
      exact ⟨o, by unfold forL; rw [h1]; dsimp only; rw [h2]; exact e, q⟩
    | ct S2 =>
      obtain ⟨o, e, q⟩ := q
      exact ⟨o, by unfold forL; rw [h1]; dsimp only; rw [h2]; exact e, q⟩
    | bk S2 => exact ⟨_, by unfold forL; rw [h1]; dsimp only; rw [h2], q⟩
    | rt d S2 => exact ⟨_, by unfold forL; rw [h1]; dsimp only; rw [h2], q⟩
    | rtF d S2 => exact ⟨_, by unfold forL; rw [h1]; dsimp only; rw [h2], q⟩
theorem ok_forD (I : List α → Stt → Prop) (enc : α → PD) (hs : ∀ (dn : List α) (x : α) (r : List α) (S : Stt), I dn S → Ok (tgt (enc x) (letGo vs S)) fun S1 => Ok (body S1) (lpK (I (dn ++ [x])) R)) :
    ∀ (l dn : List α) (S : Stt), I dn S → (∀ S, I (dn ++ l) S → R (.nx S)) → Ok (forL vs tgt body (l.map enc) S) R
  | [], dn, S, h, he => p_forNil.mpr (he S (by rw [List.append_nil]; exact h))
  | x :: r, dn, S, h, he => by
    refine p_forCons.mpr ((hs dn x r S h).mono fun S1 q => q.mono fun o q => ?_)
    cases o with
    | nx S2 => exact ok_forD I enc hs r _ S2 q fun S z => he S (by rw [List.append_assoc] at z; exact z)
    | ct S2 => exact ok_forD I enc hs r _ S2 q fun S z => he S (by rw [List.append_assoc] at z; exact z)
    | bk S2 => exact q
    | rt d S2 => exact q
    | rtF d S2 => exact q
/-- over encoded things, the invariant by the number taken -/
theorem ok_for {enc : α → PD} {l : List α} (I : Nat → Stt → Prop) (h0 : I 0 S) (hs : ∀ (i : Nat) (h : i < l.length) (S : Stt), I i S → Ok (tgt (enc l[i]) (letGo vs S)) fun S1 => Ok (body S1) (lpK (I (i + 1)) R))
    (he : ∀ S, I l.length S → R (.nx S)) : Ok (forL vs tgt body (l.map enc) S) R := by
  have go : ∀ (n i : Nat) (S : Stt), i + n = l.length → I i S → Ok (forL vs tgt body ((l.drop i).map enc) S) R := by
    intro n
    induction n with
    | zero =>
      intro i S hi h
      rw [List.drop_eq_nil_of_le (by omega)]
      exact p_forNil.mpr (he S (by rw [← hi]; exact h))
    | succ n ih =>
      intro i S hi h
      rw [List.drop_eq_getElem_cons (by omega), List.map_cons]
      refine p_forCons.mpr ((hs i (by omega) S h).mono fun S1 q => q.mono fun o q => ?_)
      cases o with
      | nx S2 => exact ih _ S2 (by omega) q
      | ct S2 => exact ih _ S2 (by omega) q
      | bk S2 => exact q
      | rt d S2 => exact q
      | rtF d S2 => exact q
  exact go l.length 0 S (by omega) h0
theorem rng_map (lo : Int) (n : Nat) : rng lo n = (List.range n).map fun (i : Nat) => PyData.int (lo + (i : Int)) := rfl
theorem rng0 (n : Nat) : rng 0 n = (List.range n).map fun (i : Nat) => PyData.int (i : Int) := by
  unfold rng
  congr 1
  funext i
  rw [Int.zero_add]
theorem ok_forR {n : Nat} (I : Nat → Stt → Prop) (h0 : I 0 S) (hs : ∀ (i : Nat) (h : i < n) (S : Stt), I i S → Ok (tgt (.int i) (letGo vs S)) fun S1 => Ok (body S1) (lpK (I (i + 1)) R))
    (he : ∀ S, I n S → R (.nx S)) : Ok (forL vs tgt body (rng 0 n) S) R := by
  rw [rng0]
  refine ok_for I h0 (fun i h S hi => ?_) (fun S z => he S (by rw [List.length_range] at z; exact z))
  rw [List.length_range] at h
  rw [List.getElem_range]
  exact hs i h S hi
theorem ok_forRL {lo : Int} {n : Nat} (I : Nat → Stt → Prop) (h0 : I 0 S) (hs : ∀ (i : Nat) (h : i < n) (S : Stt), I i S → Ok (tgt (.int (lo + i)) (letGo vs S)) fun S1 => Ok (body S1) (lpK (I (i + 1)) R))
    (he : ∀ S, I n S → R (.nx S)) : Ok (forL vs tgt body (rng lo n) S) R := by
  rw [rng_map]
  refine ok_for I h0 (fun i h S hi => ?_) (fun S z => he S (by rw [List.length_range] at z; exact z))
  rw [List.length_range] at h
  rw [List.getElem_range]
  exact hs i h S hi
/-- list comprehensions -/
theorem q_lc {items : EvL} {cond : EvB} {elt : Ev} {Q : List PD → Stt → Prop} : O2 (fLc items vs tgt cond elt S) Q ↔ O2 (items S) fun ds s => Nd (noOw s vs = true ∧ ds.length ≤ 100000) (O2 (compL vs tgt cond elt ds (wipeS s vs) []) fun ys s2 => Q ys (unw s s2 vs)) := by
  refine Iff.trans b2 (O2_iff fun ds s => ?_)
  refine Iff.trans O2_if (and_congr ?_ (Iff.trans b2 (O2_iff fun ys s2 => O2_some)))
  rw [Bool.and_eq_true, decide_eq_true_eq]
def cpK (ok : Bool) (elt : Ev) (vs : List Nat) (S S2 : Stt) (y : PD) : Prop := Br ok (O2 (elt S2) fun z S3 => z = y ∧ wipeS S3 vs = S) (wipeS S2 vs = S)
theorem ok_comp {cond : EvB} {elt : Ev} {Q : List PD → Stt → Prop} {enc : α → PD} {l : List α} (p : α → Bool) (h : α → PD)
    (hs : ∀ x ∈ l, Ok (tgt (enc x) S) fun S1 => O2 (cond S1) fun b S2 => b = p x ∧ (p x = true → O2 (elt S2) fun z S3 => z = h x ∧ wipeS S3 vs = S) ∧ (p x = false → wipeS S2 vs = S))
    (q : Q ((l.filter p).map h) S) : O2 (compL vs tgt cond elt (l.map enc) S []) Q := by
  have go : ∀ (l : List α) (acc : List PD), (∀ x ∈ l, Ok (tgt (enc x) S) fun S1 => O2 (cond S1) fun b S2 => b = p x ∧ (p x = true → O2 (elt S2) fun z S3 => z = h x ∧ wipeS S3 vs = S) ∧ (p x = false → wipeS S2 vs = S)) →
      compL vs tgt cond elt (l.map enc) S acc = some (acc ++ (l.filter p).map h, S) := by
    intro l
    induction l with
    | nil =>
      intro acc _
      show some (acc, S) = _
      rw [List.filter_nil, List.map_nil, List.append_nil]
    | cons x r ih =>
      intro acc hs
      obtain ⟨S1, e1, b, S2, e2, rfl, h3, h4⟩ := hs x List.mem_cons_self
      have ih := fun acc => ih acc fun y hy => hs y (List.mem_cons_of_mem _ hy)
      rw [List.map_cons]
      unfold compL
      rw [e1]
      dsimp only
      rw [e2]
      cases hp : p x with
      | false =>
        dsimp only
        rw [h4 hp, ih, List.filter_cons_of_neg (by rw [hp]; decide)]
      | true =>
        obtain ⟨z, S3, e3, rfl, h5⟩ := h3 hp
        dsimp only
        rw [e3]
        dsimp only
        rw [h5, ih, List.filter_cons_of_pos hp, List.map_cons, List.append_assoc]
        rfl
  exact ⟨_, _, go l [] hs, q⟩
theorem ok_comp1 {elt : Ev} {Q : List PD → Stt → Prop} {enc : α → PD} {l : List α} (h : α → PD)
    (hs : ∀ x ∈ l, Ok (tgt (enc x) S) fun S1 => O2 (elt S1) fun z S3 => z = h x ∧ wipeS S3 vs = S)
    (q : Q (l.map h) S) : O2 (compL vs tgt bTrue elt (l.map enc) S []) Q := by
  refine ok_comp (fun _ => true) h (fun x hx => (hs x hx).mono fun S1 z => ⟨true, S1, rfl, rfl, fun _ => z, nofun⟩) ?_
  rw [List.filter_eq_self.mpr (by intros; rfl)]
  exact q
end
/-! ## defs -/
section
variable {N n : Nat} {g : EvSt} {ds : List PD}
def kP (Q : PD → Prop) : Out → Prop
  | .rt d _ => Q d
  | .rtF xs _ => Q (.list xs)
  | .nx _ => Q .none
  | _ => False
def kF (Q : List PD → Prop) : Out → Prop
  | .rtF xs _ => Q xs
  | _ => False
theorem kP_rt {Q : PD → Prop} {d : PD} {S : Stt} : kP Q (.rt d S) ↔ Q d := Iff.rfl
theorem kP_rtF {Q : PD → Prop} {d : List PD} {S : Stt} : kP Q (.rtF d S) ↔ Q (.list d) := Iff.rfl
theorem kP_nx {Q : PD → Prop} {S : Stt} : kP Q (.nx S) ↔ Q .none := Iff.rfl
theorem kF_rtF {Q : List PD → Prop} {d : List PD} {S : Stt} : kF Q (.rtF d S) ↔ Q d := Iff.rfl
theorem w_P {Q : PD → Prop} : Ok (defP N n g ds) Q ↔ Nd (ds.length = n) (Ok (g (ini N (ds.map Sl.sh))) (kP Q)) := by
  unfold defP
  refine Iff.trans Ok_if (and_congr Iff.rfl ?_)
  cases g (ini N (ds.map Sl.sh)) with
  | none => exact ⟨fun ⟨_, e, _⟩ => (by cases e), fun ⟨_, e, _⟩ => (by cases e)⟩
  | some o => cases o with
    | nx S => exact ⟨fun h => Ok_some.mpr ((Ok_some (Q := Q)).mp h), fun h => (Ok_some (Q := Q)).mpr ((Ok_some (Q := kP Q)).mp h)⟩
    | rt d S => exact ⟨fun h => Ok_some.mpr ((Ok_some (Q := Q)).mp h), fun h => (Ok_some (Q := Q)).mpr ((Ok_some (Q := kP Q)).mp h)⟩
    | rtF d S => exact ⟨fun h => Ok_some.mpr ((Ok_some (Q := Q)).mp h), fun h => (Ok_some (Q := Q)).mpr ((Ok_some (Q := kP Q)).mp h)⟩
    | bk S => exact ⟨fun ⟨_, e, _⟩ => (by cases e), fun h => (Ok_some.mp h).elim⟩
    | ct S => exact ⟨fun ⟨_, e, _⟩ => (by cases e), fun h => (Ok_some.mp h).elim⟩
theorem w_F {Q : List PD → Prop} : Ok (defF N n g ds) Q ↔ Nd (ds.length = n) (Ok (g (ini N (ds.map Sl.sh))) (kF Q)) := by
  unfold defF
  refine Iff.trans Ok_if (and_congr Iff.rfl ?_)
  cases g (ini N (ds.map Sl.sh)) with
  | none => exact ⟨fun ⟨_, e, _⟩ => (by cases e), fun ⟨_, e, _⟩ => (by cases e)⟩
  | some o => cases o with
    | nx S => exact ⟨fun ⟨_, e, _⟩ => (by cases e), fun h => (Ok_some.mp h).elim⟩
    | rt d S => exact ⟨fun ⟨_, e, _⟩ => (by cases e), fun h => (Ok_some.mp h).elim⟩
    | rtF d S => exact ⟨fun h => Ok_some.mpr ((Ok_some (Q := Q)).mp h), fun h => (Ok_some (Q := Q)).mpr ((Ok_some (Q := kF Q)).mp h)⟩
    | bk S => exact ⟨fun ⟨_, e, _⟩ => (by cases e), fun h => (Ok_some.mp h).elim⟩
    | ct S => exact ⟨fun ⟨_, e, _⟩ => (by cases e), fun h => (Ok_some.mp h).elim⟩
theorem w_S {Q : PD → Prop} {ns : List Int} : Ok (defS N n g (.list (ns.map PyData.int) :: ds)) Q ↔ Nd (ds.length + 1 = n) (Ok (g (ini N (.scr ns :: ds.map Sl.sh))) (kP Q)) := by
  unfold defS
  refine Iff.trans Ok_if (and_congr Iff.rfl ?_)
  have : iniS (.list (ns.map PyData.int) :: ds) = .scr ns :: ds.map Sl.sh := by
    simp only [iniS, intsOf_map]
  rw [this]
  cases g (ini N (.scr ns :: ds.map Sl.sh)) with
  | none => exact ⟨fun ⟨_, e, _⟩ => (by cases e), fun ⟨_, e, _⟩ => (by cases e)⟩
  | some o => cases o with
    | nx S => exact ⟨fun h => Ok_some.mpr ((Ok_some (Q := Q)).mp h), fun h => (Ok_some (Q := Q)).mpr ((Ok_some (Q := kP Q)).mp h)⟩
    | rt d S => exact ⟨fun h => Ok_some.mpr ((Ok_some (Q := Q)).mp h), fun h => (Ok_some (Q := Q)).mpr ((Ok_some (Q := kP Q)).mp h)⟩
    | rtF d S => exact ⟨fun h => Ok_some.mpr ((Ok_some (Q := Q)).mp h), fun h => (Ok_some (Q := Q)).mpr ((Ok_some (Q := kP Q)).mp h)⟩
    | bk S => exact ⟨fun ⟨_, e, _⟩ => (by cases e), fun h => (Ok_some.mp h).elim⟩
    | ct S => exact ⟨fun ⟨_, e, _⟩ => (by cases e), fun h => (Ok_some.mp h).elim⟩
end
/-! ## names that are let go -/
def fv : Option PD → Sl
  | none => .no
  | some d => .sh d
def fr : Sl → Sl
  | .ow _ => .no
  | .nst _ => .no
  | x => x
def relS (v : Nat) (S : Stt) : Stt := match S[v]? with
  | some (.ow _) => S.set v .no
  | some (.nst _) => S.set v .no
  | _ => S
theorem lg_nil {S : Stt} : DK.letGo [] S = S := rfl
theorem lg_cons {v : Nat} {vs : List Nat} {S : Stt} : DK.letGo (v :: vs) S = DK.letGo vs (relS v S) := rfl
theorem rel_zero {x : Sl} {S : Stt} : relS 0 (x :: S) = fr x :: S := by cases x <;> rfl
theorem rel_succ {n : Nat} {x : Sl} {S : Stt} : relS (n + 1) (x :: S) = x :: relS n S := by
  unfold relS
  rw [List.getElem?_cons_succ]
  cases h : S[n]? with
  | none => rfl
  | some y => cases y <;> rfl
theorem fr_sh {d : PD} : fr (.sh d) = .sh d := rfl
theorem fr_no : fr .no = .no := rfl
theorem fr_ow {xs : List PD} : fr (.ow xs) = .no := rfl
theorem fr_scr {xs : List Int} : fr (.scr xs) = .scr xs := rfl
theorem fr_fv {o : Option PD} : fr (fv o) = fv o := by cases o <;> rfl
theorem isOw_fv {o : Option PD} : isOw (some (fv o)) = false := by cases o <;> rfl
theorem isOw_no : isOw (some .no) = false := rfl
theorem isOw_sh {d : PD} : isOw (some (.sh d)) = false := rfl
theorem isOw_ow {d : List PD} : isOw (some (.ow d)) = true := rfl
theorem isOw_scr {d : List Int} : isOw (some (.scr d)) = false := rfl
theorem isOw_raw {d : V} : isOw (some (.raw d)) = false := rfl
theorem isOw_nst {d : List (List PD)} : isOw (some (.nst d)) = false := rfl
theorem fr_raw {d : V} : fr (.raw d) = .raw d := rfl
theorem fr_nst {d : List (List PD)} : fr (.nst d) = .no := rfl
theorem isOn_fv {o : Option PD} : isOn (some (fv o)) = false := by cases o <;> rfl
theorem isOn_no : isOn (some .no) = false := rfl
theorem isOn_sh {d : PD} : isOn (some (.sh d)) = false := rfl
theorem isOn_ow {d : List PD} : isOn (some (.ow d)) = true := rfl
theorem isOn_scr {d : List Int} : isOn (some (.scr d)) = false := rfl
theorem isOn_raw {d : V} : isOn (some (.raw d)) = false := rfl
theorem isOn_nst {d : List (List PD)} : isOn (some (.nst d)) = true := rfl
/-- a slot for the invariant: free, or shared data -/
theorem fv_no : Sl.no = fv none := rfl
theorem fv_sh {d : PD} : Sl.sh d = fv (some d) := rfl
end PL
namespace PL
open PySem PySem.Spec PyProof.Rows L2 DK
/-! ## numbers (n, d) as Rat -/
def num (q : Rat) : PD := .tuple [.int q.num, .int (q.den : Int)]
def Sz (k : Nat) (q : Rat) : Prop := q.num.natAbs < 2 ^ k ∧ q.den < 2 ^ k
theorem Sz.mono {k m : Nat} {q : Rat} (h : Sz k q) (hm : k ≤ m) : Sz m q :=
  ⟨Nat.lt_of_lt_of_le h.1 (Nat.pow_le_pow_right (by decide) hm), Nat.lt_of_lt_of_le h.2 (Nat.pow_le_pow_right (by decide) hm)⟩
theorem log2_le {n k : Nat} (h : n < 2 ^ k) : n.log2 ≤ k := by
  by_cases h0 : n = 0
  · subst h0; simp
  · exact Nat.le_of_lt ((Nat.log2_lt h0).mpr h)
theorem okMul_of {i j : Int} {a b : Nat} (hi : i.natAbs < 2 ^ a) (hj : j.natAbs < 2 ^ b) (h : a + b < 1000000) : okMul i j = true := by
  have h1 := log2_le hi
  have h2 := log2_le hj
  unfold okMul
  rw [Bool.or_eq_true, decide_eq_true_eq]
  left
  omega
theorem natAbs_mul_lt {i j : Int} {a b : Nat} (hi : i.natAbs < 2 ^ a) (hj : j.natAbs < 2 ^ b) : (i * j).natAbs < 2 ^ (a + b) := by
  rw [Int.natAbs_mul, Nat.pow_add]
  exact Nat.mul_lt_mul'' hi hj
theorem natAbs_add_lt {i j : Int} {a : Nat} (hi : i.natAbs < 2 ^ a) (hj : j.natAbs < 2 ^ a) : (i + j).natAbs < 2 ^ (a + 1) := by
  have : 2 ^ (a + 1) = 2 ^ a + 2 ^ a := by rw [Nat.pow_succ]; omega
  omega
theorem natCast_lt {d a : Nat} (h : d < 2 ^ a) : ((d : Nat) : Int).natAbs < 2 ^ a := by
  rw [Int.natAbs_natCast]; exact h
theorem den_pos (q : Rat) : 0 < q.den := Nat.pos_of_ne_zero q.den_nz
theorem divInt_sz {n d : Int} {k : Nat} (hd : d ≠ 0) (hn : n.natAbs < 2 ^ k) (hd2 : d.natAbs < 2 ^ k) : Sz k (Rat.divInt n d) := by
  refine ⟨?_, ?_⟩
  · rw [Rat.num_divInt]
    refine Nat.lt_of_le_of_lt (Nat.le_trans (Int.natAbs_ediv_le_natAbs _ _) ?_) hn
    rw [Int.natAbs_mul]
    have : d.sign.natAbs = 1 := by
      rw [Int.natAbs_sign, if_neg hd]
    rw [this, Nat.one_mul]
    exact Nat.le_refl _
  · rw [Rat.den_divInt, if_neg hd]
    exact Nat.lt_of_le_of_lt (Nat.div_le_self _ _) hd2
theorem add_divInt (a b : Rat) : Rat.divInt (a.num * b.den + b.num * a.den) (a.den * b.den) = a + b := by
  rw [Rat.add_def']
  rfl
theorem mul_divInt (a b : Rat) : Rat.divInt (a.num * b.num) (a.den * b.den) = a * b := by
  rw [Rat.mul_def']
  rfl
theorem add_sz {a b : Rat} {j k : Nat} (ha : Sz j a) (hb : Sz k b) : Sz (j + k + 1) (a + b) := by
  rw [← add_divInt]
  refine divInt_sz ?_ (natAbs_add_lt (natAbs_mul_lt ha.1 (natCast_lt hb.2)) ?_) ?_
  · have := den_pos a
    have := den_pos b
    have : (a.den : Int) * b.den > 0 := Int.mul_pos (by omega) (by omega)
    omega
  · have := natAbs_mul_lt hb.1 (natCast_lt ha.2)
    rw [Nat.add_comm] at this
    exact this
  · exact Nat.lt_of_lt_of_le (natAbs_mul_lt (natCast_lt ha.2) (natCast_lt hb.2)) (Nat.pow_le_pow_right (by decide) (by omega))
theorem mul_sz {a b : Rat} {j k : Nat} (ha : Sz j a) (hb : Sz k b) : Sz (j + k) (a * b) := by
  rw [← mul_divInt]
  refine divInt_sz ?_ (natAbs_mul_lt ha.1 hb.1) (natAbs_mul_lt (natCast_lt ha.2) (natCast_lt hb.2))
  have := den_pos a
  have := den_pos b
  have : (a.den : Int) * b.den > 0 := Int.mul_pos (by omega) (by omega)
  omega
theorem sz_zero : Sz 1 0 := ⟨by decide, by decide⟩
theorem sz_one : Sz 1 1 := ⟨by decide, by decide⟩
/-- the lowest terms, as the program and the law find them -/
theorem lowest {n d : Int} (hd : 0 < d) : (Rat.divInt n d).num = n / ((Nat.gcd n.natAbs d.natAbs : Nat) : Int) ∧ ((Rat.divInt n d).den : Int) = d / ((Nat.gcd n.natAbs d.natAbs : Nat) : Int) := by
  refine ⟨?_, ?_⟩
  · rw [Rat.num_divInt, Int.sign_eq_one_of_pos hd, Int.one_mul, Nat.gcd_comm]
    rfl
  · rw [Rat.den_divInt, if_neg (by omega), Nat.gcd_comm]
    show ((d.natAbs / Nat.gcd d.natAbs n.natAbs : Nat) : Int) = _
    rw [Int.natCast_ediv]
    have : (d.natAbs : Int) = d := by omega
    rw [this]
theorem neg_divInt (n d : Int) : Rat.divInt (-n) (-d) = Rat.divInt n d := by
  apply Rat.ext
  · rw [Rat.num_divInt, Rat.num_divInt, Int.neg_gcd, Int.gcd_neg, Int.sign_neg, Int.neg_mul_neg]
  · rw [Rat.den_divInt, Rat.den_divInt, Int.neg_gcd, Int.gcd_neg, Int.natAbs_neg]
    by_cases h : d = 0
    · rw [if_pos h, if_pos (by omega)]
    · rw [if_neg h, if_neg (by omega)]
theorem gcd_log {n d : Int} {k : Nat} (hd : 0 < d) (h : d.natAbs < 2 ^ k) : 0 < ((Nat.gcd n.natAbs d.natAbs : Nat) : Int) ∧ ((Nat.gcd n.natAbs d.natAbs : Nat) : Int).natAbs.log2 ≤ k := by
  have h1 : 0 < Nat.gcd n.natAbs d.natAbs := Nat.gcd_pos_of_pos_right _ (by omega)
  have h2 : Nat.gcd n.natAbs d.natAbs ≤ d.natAbs := Nat.gcd_le_right _ (by omega)
  refine ⟨by omega, ?_⟩
  rw [Int.natAbs_natCast]
  exact log2_le (Nat.lt_of_le_of_lt h2 h)
/-! ## sums -/
def sumQ (l : List Rat) : Rat := l.foldl (· + ·) 0
theorem take_succ_foldl {l : List Rat} {i : Nat} (h : i < l.length) : sumQ (l.take (i + 1)) = sumQ (l.take i) + l[i] := by
  unfold sumQ
  rw [List.take_succ_eq_append_getElem h, List.foldl_append]
  rfl
theorem sum_sz {l : List Rat} {k : Nat} (h : ∀ q ∈ l, Sz k q) : Sz (l.length * (k + 1) + 1) (sumQ l) := by
  have go : ∀ (l : List Rat) (a : Rat) (m : Nat), (∀ q ∈ l, Sz k q) → Sz m a → Sz (m + l.length * (k + 1)) (l.foldl (· + ·) a) := by
    intro l
    induction l with
    | nil => intro a m _ ha; exact ha.mono (by omega)
    | cons x r ih =>
      intro a m hl ha
      have := ih (a + x) (m + k + 1) (fun q hq => hl q (List.mem_cons_of_mem _ hq)) (add_sz ha (hl x List.mem_cons_self))
      refine this.mono ?_
      simp only [List.length_cons, Nat.add_mul]
      omega
  have := go l 0 1 h sz_zero
  exact this.mono (by omega)
/-! ## Euclid's turns -/
theorem euclid_half {a b : Nat} (hb : 0 < b) (h : b ≤ a) : 2 * (b * (a % b)) ≤ a * b := by
  have h1 : a % b < b := Nat.mod_lt _ hb
  have h2 : a % b + b ≤ a := by
    have := Nat.mod_add_div a b
    have : 1 ≤ a / b := Nat.div_pos h hb
    have : b * 1 ≤ b * (a / b) := Nat.mul_le_mul_left _ this
    omega
  have h3 : 2 * (a % b) ≤ a := by omega
  calc 2 * (b * (a % b)) = b * (2 * (a % b)) := by rw [Nat.mul_left_comm]
    _ ≤ b * a := Nat.mul_le_mul_left _ h3
    _ = a * b := Nat.mul_comm _ _
/-- what stands after i turns -/
structure Eu (x y i a b : Nat) : Prop where
  g : Nat.gcd a b = Nat.gcd x y
  p : a * b * 2 ^ (i - 1) ≤ x * y
  lt : i = 0 ∨ b < a
theorem Eu.zero (x y : Nat) : Eu x y 0 x y := ⟨rfl, by simp, .inl rfl⟩
theorem Eu.step {x y i a b : Nat} (h : Eu x y i a b) (hb : 0 < b) : Eu x y (i + 1) b (a % b) := by
  refine ⟨?_, ?_, .inr (Nat.mod_lt _ hb)⟩
  · rw [← h.g, Nat.gcd_comm a b]
    rw [Nat.gcd_comm b (a % b), ← Nat.gcd_rec]
  · rw [Nat.add_sub_cancel]
    rcases h.lt with e | e
    · subst e
      have := h.p
      simp only [Nat.zero_sub, Nat.pow_zero, Nat.mul_one] at this ⊢
      refine Nat.le_trans ?_ this
      rw [Nat.mul_comm a b]
      exact Nat.mul_le_mul_left _ (Nat.mod_le _ _)
    · have h1 := euclid_half hb (Nat.le_of_lt e)
      by_cases h0 : i = 0
      · subst h0
        have := h.p
        simp only [Nat.zero_sub, Nat.pow_zero, Nat.mul_one] at this ⊢
        omega
      · have e2 : 2 ^ i = 2 * 2 ^ (i - 1) := by
          rw [← Nat.pow_succ']
          congr 1
          omega
        have : b * (a % b) * 2 ^ i = (2 * (b * (a % b))) * 2 ^ (i - 1) := by
          rw [e2, ← Nat.mul_assoc, Nat.mul_comm _ 2]
        rw [this]
        exact Nat.le_trans (Nat.mul_le_mul_right _ h1) h.p
theorem Eu.last {x y i a b k : Nat} (h : Eu x y i a b) (hx : x * y < 2 ^ k) (hk : k + 1 ≤ i) : b = 0 := by
  rcases h.lt with e | e
  · omega
  · by_cases h0 : b = 0
    · exact h0
    · exfalso
      have h1 : 1 ≤ a * b := Nat.mul_pos (by omega) (by omega)
      have h2 := h.p
      have h3 : 2 ^ k ≤ 2 ^ (i - 1) := Nat.pow_le_pow_right (by decide) (by omega)
      have h4 : 1 * 2 ^ (i - 1) ≤ a * b * 2 ^ (i - 1) := Nat.mul_le_mul_right _ h1
      omega
end PL
namespace PL
open PySem PySem.Spec PyProof.Rows L2 DK
theorem str_inj {a b : String} : Str.ofString a = Str.ofString b ↔ a = b := by
  constructor
  · intro h
    rw [Str.ofString_eq_toList, Str.ofString_eq_toList] at h
    have h1 : a.toList.map Char.toNat = b.toList.map Char.toNat := by
      have := Str.mk.inj h
      exact congrArg Array.toList this |> fun z => by simpa using z
    have inj : ∀ l m : List Char, l.map Char.toNat = m.map Char.toNat → l = m := by
      intro l
      induction l with
      | nil => intro m h; cases m with
        | nil => rfl
        | cons _ _ => cases h
      | cons x r ih => intro m h; cases m with
        | nil => cases h
        | cons y s =>
          rw [List.map_cons, List.map_cons] at h
          have h2 := List.cons.inj h
          rw [ih s h2.2, Char.ext (UInt32.toNat_inj.mp h2.1)]
    exact String.toList_inj.mp (inj _ _ h1)
  · rintro rfl; rfl
/-! ## data that can be shown -/
structure Shw (n k : Nat) (d : PD) : Prop where
  p : shpN n d = true
  s : d.showable = true
  l : d.shown.length ≤ k
theorem Shw.mono {n k k' : Nat} {d : PD} (h : Shw n k d) (hk : k ≤ k') : Shw n k' d := ⟨h.p, h.s, Nat.le_trans h.l hk⟩
theorem shpN_mono : ∀ (n m : Nat) (d : PD), n ≤ m → shpN n d = true → shpN m d = true := by
  intro n
  induction n with
  | zero =>
    intro m d _ h
    cases d <;> first | (cases h; done) | (cases m <;> exact h)
  | succ n ih =>
    intro m d hm h
    cases m with
    | zero => omega
    | succ m =>
      cases d with
      | list xs =>
        have h : (xs.all fun d => shpN n d) = true := h
        show (xs.all fun d => shpN m d) = true
        rw [List.all_eq_true] at h ⊢
        exact fun x hx => ih m x (by omega) (h x hx)
      | tuple xs =>
        have h : (xs.all fun d => shpN n d) = true := h
        show (xs.all fun d => shpN m d) = true
        rw [List.all_eq_true] at h ⊢
        exact fun x hx => ih m x (by omega) (h x hx)
      | _ => exact h
theorem Shw.up {n m k : Nat} {d : PD} (h : Shw n k d) (hm : n ≤ m) : Shw m k d := ⟨shpN_mono n m d hm h.p, h.s, h.l⟩
theorem Shw.shp {n k : Nat} {d : PD} (h : Shw n k d) (hn : n ≤ 20) : shp d = true := shpN_mono n 20 d hn h.p
theorem showAll_iff : ∀ xs : List PD, PyData.showableAll xs = true ↔ ∀ x ∈ xs, x.showable = true
  | [] => by simp [PyData.showableAll]
  | x :: r => by simp [PyData.showableAll, showAll_iff r]
theorem shownAll_map : ∀ xs : List PD, PyData.shownAll xs = xs.map PyData.shown
  | [] => by simp [PyData.shownAll]
  | x :: r => by simp [PyData.shownAll, shownAll_map r]
theorem int_len (i : Int) : (Str.ofString (toString i)).length ≤ (Nat.toDigits 10 i.natAbs).length + 1 := by
  rw [Str.ofString_eq_toList]
  show ((toString i).toList.map Char.toNat).toArray.size ≤ _
  rw [List.size_toArray, List.length_map]
  cases i with
  | ofNat n =>
    show (Nat.repr n).toList.length ≤ _
    rw [Nat.repr, String.toList_ofList]
    exact Nat.le_succ _
  | negSucc n =>
    show ("-" ++ Nat.repr (n + 1)).toList.length ≤ _
    rw [String.toList_append, Nat.repr, String.toList_ofList, List.length_append]
    show 1 + _ ≤ _
    have : (Int.negSucc n).natAbs = n + 1 := rfl
    rw [this, String.toList_ofList]
    omega
theorem shw_int {n k : Nat} {i : Int} (h : i.natAbs < 2 ^ k) (hk : 1 ≤ k) (hk2 : k < 1920) : Shw n (k + 1) (.int i) := by
  refine ⟨by cases n <;> rfl, ?_, ?_⟩
  · show PyData.showable (.int i) = true
    unfold PyData.showable
    rw [decide_eq_true_eq]
    exact Nat.lt_of_le_of_lt (log2_le h) hk2
  · have e : (PyData.int i).shown = Str.ofString (toString i) := by
      unfold PyData.shown
      rfl
    rw [e]
    refine Nat.le_trans (int_len i) (Nat.succ_le_succ (digits10_le hk (Nat.lt_of_lt_of_le h (Nat.pow_le_pow_left (by decide) k))))
theorem shw_seq {n k m : Nat} {xs : List PD} (h : ∀ x ∈ xs, Shw n k x) (hm : xs.length ≤ m) : Shw (n + 1) (m * (k + 2) + 3) (.list xs) ∧ Shw (n + 1) (m * (k + 2) + 3) (.tuple xs) := by
  have h1 : (xs.all fun d => shpN n d) = true := List.all_eq_true.mpr fun x hx => (h x hx).p
  have h2 : PyData.showableAll xs = true := (showAll_iff xs).mpr fun x hx => (h x hx).s
  have h3 : ((xs.map PyData.shown).map (·.length)).sum + 2 * (xs.map PyData.shown).length + 3 ≤ m * (k + 2) + 3 := by
    have go : ∀ ys : List PD, (∀ x ∈ ys, Shw n k x) → ((ys.map PyData.shown).map (·.length)).sum ≤ ys.length * k := by
      intro ys
      induction ys with
      | nil => intro _; exact Nat.zero_le _
      | cons y r ih =>
        intro hy
        have h1 := ih fun x hx => hy x (List.mem_cons_of_mem _ hx)
        have h2 := (hy y List.mem_cons_self).l
        simp only [List.map_cons, List.sum_cons, List.length_cons, Nat.add_mul]
        omega
    have h4 := go xs h
    have h5 : xs.length * k ≤ m * k := Nat.mul_le_mul_right _ hm
    rw [List.length_map, Nat.mul_add]
    omega
  refine ⟨⟨h1, ?_, ?_⟩, ⟨h1, ?_, ?_⟩⟩
  · unfold PyData.showable; exact h2
  · unfold PyData.shown; rw [shownAll_map]; exact Nat.le_trans (PySem.listText_len_le _) h3
  · unfold PyData.showable; exact h2
  · unfold PyData.shown; rw [shownAll_map]; exact Nat.le_trans (PySem.tupleText_len_le _) h3
theorem shw_list {n k m : Nat} {xs : List PD} (h : ∀ x ∈ xs, Shw n k x) (hm : xs.length ≤ m) : Shw (n + 1) (m * (k + 2) + 3) (.list xs) := (shw_seq h hm).1
theorem shw_tup {n k m : Nat} {xs : List PD} (h : ∀ x ∈ xs, Shw n k x) (hm : xs.length ≤ m) : Shw (n + 1) (m * (k + 2) + 3) (.tuple xs) := (shw_seq h hm).2
theorem shw_str {n k : Nat} {x : Str} (h1 : PyData.strOk x = true) (h2 : (reprText x).length ≤ k) : Shw n k (.str x) := by
  refine ⟨by cases n <;> exact h1, by unfold PyData.showable; rfl, ?_⟩
  unfold PyData.shown
  exact h2
theorem shw_num {q : Rat} {k : Nat} (h : Sz k q) (hk : 1 ≤ k) (hk2 : k < 1920) : Shw 1 (2 * (k + 3) + 3) (num q) := by
  refine shw_tup (n := 0) (k := k + 1) (m := 2) (fun x hx => ?_) (Nat.le_refl 2)
  simp only [List.mem_cons, List.not_mem_nil, or_false] at hx
  rcases hx with rfl | rfl
  · exact shw_int h.1 hk hk2
  · exact shw_int (natCast_lt h.2) hk hk2
theorem o_repr {d : PD} {n k : Nat} {Q : PD → Prop} (h : Shw n k d) (hn : n ≤ 20) (hk : k ≤ 1000000) (hs : (∃ xs, d = .list xs) ∨ ∃ xs, d = .tuple xs) (q : Q (.str d.shown)) : Ok (gRepr [d]) Q := by
  refine ⟨_, ?_, q⟩
  show (if shp d && d.showable && decide (d.shown.length ≤ 1000000) then (match d with
    | .list _ => some (PyData.str d.shown)
    | .tuple _ => some (PyData.str d.shown)
    | _ => none) else none) = _
  rw [if_pos (by rw [h.shp hn, h.s, Bool.true_and, Bool.true_and, decide_eq_true_eq]; exact Nat.le_trans h.l hk)]
  rcases hs with ⟨xs, rfl⟩ | ⟨xs, rfl⟩ <;> rfl
/-! ## lists of ints -/
theorem eqv_int' {i j : Int} : PyData.eqv (.int i) (.int j) = decide (i = j) := eqv_int
theorem any_eqv {l : List Nat} {p : Nat} : ((l.map fun (i : Nat) => PyData.int (i : Int)).any fun z => PyData.eqv z (.int p)) = decide (p ∈ l) := by
  rw [List.any_map]
  induction l with
  | nil => simp
  | cons x r ih =>
    rw [List.any_cons, ih]
    show (PyData.eqv (.int (x : Int)) (.int p) || _) = _
    rw [eqv_int]
    by_cases h : p = x
    · subst h; simp
    · have : ¬ (x : Int) = p := by omega
      simp [h, this]
theorem shp_nats {n : Nat} {l : List Nat} : shpN (n + 1) (.list (l.map fun (i : Nat) => PyData.int (i : Int))) = true := by
  show (List.all _ _) = true
  rw [List.all_eq_true]
  intro x hx
  obtain ⟨i, _, rfl⟩ := List.mem_map.mp hx
  cases n <;> rfl
/-! ## slices -/
theorem cut_hi {α : Type} (xs : List α) (b : Nat) : cutL xs none (some (b : Int)) = xs.take b := by
  unfold cutL
  rw [HT.sIx_none, HT.sIx_nat, List.drop_zero, Nat.sub_zero]
  by_cases h : b ≤ xs.length
  · rw [Nat.min_eq_left h]
  · rw [Nat.min_eq_right (by omega), List.take_length, List.take_of_length_le (by omega)]
theorem cut_lo {α : Type} (xs : List α) (a : Nat) : cutL xs (some (a : Int)) none = xs.drop a := by
  unfold cutL
  rw [HT.sIx_none, HT.sIx_nat]
  by_cases h : a ≤ xs.length
  · rw [Nat.min_eq_left h, List.take_of_length_le (by rw [List.length_drop]; omega)]
  · rw [Nat.min_eq_right (by omega), Nat.sub_self, List.take_zero, List.drop_eq_nil_of_le (by omega)]
theorem cut_lohi {α : Type} (xs : List α) (a b : Nat) : cutL xs (some (a : Int)) (some (b : Int)) = (xs.drop a).take (b - a) := by
  unfold cutL
  rw [HT.sIx_nat, HT.sIx_nat]
  by_cases h : a ≤ xs.length
  · rw [Nat.min_eq_left h]
    by_cases h2 : b ≤ xs.length
    · rw [Nat.min_eq_left h2]
    · rw [Nat.min_eq_right (by omega), List.take_of_length_le (by rw [List.length_drop]; omega), List.take_of_length_le (by rw [List.length_drop]; omega)]
  · rw [Nat.min_eq_right (show xs.length ≤ a by omega), List.drop_eq_nil_of_le (Nat.le_refl _), List.drop_eq_nil_of_le (show xs.length ≤ a by omega), List.take_nil, List.take_nil]
theorem cut_hiL {α : Type} (xs : List α) (b : Nat) : cutL xs none (some (no_index (@OfNat.ofNat Int b _))) = xs.take b := cut_hi xs b
theorem cut_loL {α : Type} (xs : List α) (a : Nat) : cutL xs (some (no_index (@OfNat.ofNat Int a _))) none = xs.drop a := cut_lo xs a
theorem cut_lohiL {α : Type} (xs : List α) (a b : Nat) : cutL xs (some (no_index (@OfNat.ofNat Int a _))) (some (no_index (@OfNat.ofNat Int b _))) = (xs.drop a).take (b - a) := cut_lohi xs a b
end PL
namespace PL
open PySem PySem.Spec PyProof.Rows L2 DK
/-! ## chains -/
inductive Plc where
  | fin
  | lose
  | rew (r : Rat) (t : Nat)
  | draw (bs : List (Rat × Nat))
def encB (b : Rat × Nat) : PD := .tuple [num b.1, .int (b.2 : Int)]
def Plc.enc : Plc → PD
  | .fin => .tuple [.str "finish"]
  | .lose => .tuple [.str "lose"]
  | .rew r t => .tuple [.str "reward", num r, .int (t : Int)]
  | .draw bs => .tuple [.str "draw", .list (bs.map encB)]
theorem enc_fin : Plc.enc .fin = .tuple [.str "finish"] := rfl
theorem enc_lose : Plc.enc .lose = .tuple [.str "lose"] := rfl
theorem enc_rew {r : Rat} {t : Nat} : Plc.enc (.rew r t) = .tuple [.str "reward", num r, .int (t : Int)] := rfl
theorem enc_draw {bs : List (Rat × Nat)} : Plc.enc (.draw bs) = .tuple [.str "draw", .list (bs.map encB)] := rfl
theorem encB_at {bs : List (Rat × Nat)} {j : Nat} (h : j < bs.length) : (bs.map encB)[j]? = some (.tuple [num bs[j].1, .int (bs[j].2 : Int)]) := by
  rw [List.getElem?_map, List.getElem?_eq_getElem h]
  rfl
def Plc.kind : Plc → PD
  | .fin => .tuple [.str "finish"]
  | .lose => .tuple [.str "lose"]
  | .rew r _ => .tuple [.str "reward", num r]
  | .draw _ => .tuple [.str "draw"]
def Plc.br : Plc → List (Rat × Nat)
  | .rew _ t => [(1, t)]
  | .draw bs => bs
  | _ => []
abbrev encC (c : List Plc) : PD := .list (c.map Plc.enc)
abbrev nats (l : List Nat) : PD := .list (l.map fun (i : Nat) => PyData.int (i : Int))
/-- what the drawn places keep to -/
def Plc.ok (k m : Nat) : Plc → Prop
  | .fin => True
  | .lose => True
  | .rew r t => Sz k r ∧ t < m
  | .draw bs => bs.length ≤ 6 ∧ ∀ b ∈ bs, Sz k b.1 ∧ b.2 < m
theorem Plc.br_ok {k m : Nat} {x : Plc} (h : x.ok k m) (hk : 1 ≤ k) : x.br.length ≤ 6 ∧ ∀ b ∈ x.br, Sz k b.1 ∧ b.2 < m := by
  cases x with
  | fin => exact ⟨by decide, fun b hb => nomatch hb⟩
  | lose => exact ⟨by decide, fun b hb => nomatch hb⟩
  | rew r t => exact ⟨by show 1 ≤ 6; decide, fun b hb => by
      have e : b = (1, t) := List.mem_singleton.mp hb
      rw [e]
      exact ⟨sz_one.mono hk, h.2⟩⟩
  | draw bs => exact h
theorem shw_place {k m : Nat} {x : Plc} (h : x.ok k m) (hk : 1 ≤ k) (hk2 : k < 1900) (hm : m < 2 ^ k) : Shw 5 (60 * (k + 10) + 300) x.enc := by
  have hn : ∀ {r : Rat}, Sz k r → Shw 1 (2 * (k + 3) + 3) (num r) := fun z => shw_num z hk (by omega)
  have hi : ∀ {t n : Nat}, t < m → Shw n (k + 1) (.int (t : Int)) := fun z => shw_int (natCast_lt (by omega)) hk (by omega)
  have hs : ∀ {n : Nat} {x : Str}, PyData.strOk x = true → (reprText x).length ≤ 10 → Shw n 10 (.str x) := fun a b => shw_str a b
  cases x with
  | fin =>
    refine ((shw_tup (n := 0) (k := 10) (m := 1) (xs := [.str "finish"]) (fun x hx => ?_) (Nat.le_refl 1)).up (by decide)).mono (by omega)
    cases List.mem_singleton.mp hx
    exact hs (by decide +kernel) (by decide +kernel)
  | lose =>
    refine ((shw_tup (n := 0) (k := 10) (m := 1) (xs := [.str "lose"]) (fun x hx => ?_) (Nat.le_refl 1)).up (by decide)).mono (by omega)
    cases List.mem_singleton.mp hx
    exact hs (by decide +kernel) (by decide +kernel)
  | rew r t =>
    refine ((shw_tup (n := 1) (k := 2 * (k + 3) + 3) (m := 3) (xs := [.str "reward", num r, .int (t : Int)]) (fun x hx => ?_) (Nat.le_refl 3)).up (by decide)).mono (by omega)
    simp only [List.mem_cons, List.not_mem_nil, or_false] at hx
    rcases hx with rfl | rfl | rfl
    · exact (hs (by decide +kernel) (by decide +kernel)).mono (by omega)
    · exact hn h.1
    · exact (hi h.2).mono (by omega)
  | draw bs =>
    have hb : ∀ x ∈ bs.map encB, Shw 2 (2 * (2 * (k + 3) + 3 + 2) + 3) x := by
      intro x hx
      obtain ⟨b, hb, rfl⟩ := List.mem_map.mp hx
      refine shw_tup (n := 1) (k := 2 * (k + 3) + 3) (m := 2) (xs := [num b.1, .int (b.2 : Int)]) (fun x hx => ?_) (Nat.le_refl 2)
      simp only [List.mem_cons, List.not_mem_nil, or_false] at hx
      rcases hx with rfl | rfl
      · exact hn (h.2 b hb).1
      · exact (hi (h.2 b hb).2).mono (by omega)
    have hl : Shw 3 (6 * (2 * (2 * (k + 3) + 3 + 2) + 3 + 2) + 3) (.list (bs.map encB)) := shw_list hb (by rw [List.length_map]; exact h.1)
    refine ((shw_tup (n := 3) (k := 6 * (2 * (2 * (k + 3) + 3 + 2) + 3 + 2) + 3) (m := 2) (xs := [.str "draw", .list (bs.map encB)]) (fun x hx => ?_) (Nat.le_refl 2)).up (by decide)).mono (by omega)
    simp only [List.mem_cons, List.not_mem_nil, or_false] at hx
    rcases hx with rfl | rfl
    · exact (hs (by decide +kernel) (by decide +kernel)).mono (by omega)
    · exact hl
theorem shw_kind {k m : Nat} {x : Plc} (h : x.ok k m) (hk : 1 ≤ k) (hk2 : k < 1900) : Shw 2 (4 * k + 60) x.kind := by
  have hn : ∀ {r : Rat}, Sz k r → Shw 1 (2 * (k + 3) + 3) (num r) := fun z => shw_num z hk (by omega)
  have hs : ∀ {n : Nat} {x : Str}, PyData.strOk x = true → (reprText x).length ≤ 10 → Shw n 10 (.str x) := fun a b => shw_str a b
  cases x with
  | fin =>
    refine ((shw_tup (n := 0) (k := 10) (m := 1) (xs := [.str "finish"]) (fun x hx => ?_) (Nat.le_refl 1)).up (by decide)).mono (by omega)
    cases List.mem_singleton.mp hx
    exact hs (by decide +kernel) (by decide +kernel)
  | lose =>
    refine ((shw_tup (n := 0) (k := 10) (m := 1) (xs := [.str "lose"]) (fun x hx => ?_) (Nat.le_refl 1)).up (by decide)).mono (by omega)
    cases List.mem_singleton.mp hx
    exact hs (by decide +kernel) (by decide +kernel)
  | rew r t =>
    refine ((shw_tup (n := 1) (k := 2 * (k + 3) + 3) (m := 2) (xs := [.str "reward", num r]) (fun x hx => ?_) (Nat.le_refl 2)).up (by decide)).mono (by omega)
    simp only [List.mem_cons, List.not_mem_nil, or_false] at hx
    rcases hx with rfl | rfl
    · exact (hs (by decide +kernel) (by decide +kernel)).mono (by omega)
    · exact hn h.1
  | draw bs =>
    refine ((shw_tup (n := 0) (k := 10) (m := 1) (xs := [.str "draw"]) (fun x hx => ?_) (Nat.le_refl 1)).up (by decide)).mono (by omega)
    cases List.mem_singleton.mp hx
    exact hs (by decide +kernel) (by decide +kernel)
/-- the chance that one step from x falls among the places -/
def into (x : Plc) (G : List Nat) : Rat := sumQ ((x.br.filter fun b => decide (b.2 ∈ G)).map (·.1))
theorem into_sz {k m : Nat} {x : Plc} {G : List Nat} (h : x.ok k m) (hk : 1 ≤ k) : Sz (6 * (k + 1) + 1) (into x G) := by
  obtain ⟨h1, h2⟩ := Plc.br_ok h hk
  refine (sum_sz (k := k) fun q hq => ?_).mono ?_
  · obtain ⟨b, hb, rfl⟩ := List.mem_map.mp hq
    exact (h2 b (List.mem_filter.mp hb).1).1
  · have : ((x.br.filter fun b => decide (b.2 ∈ G)).map (·.1)).length ≤ 6 := by
      rw [List.length_map]
      exact Nat.le_trans (List.length_filter_le _ _) h1
    have := Nat.mul_le_mul_right (k + 1) this
    omega
/-! ## tests -/
inductive Tst where
  | knd (d : PD)
  | not (t : Tst)
  | both (t u : Tst)
  | next (r : Rat) (t : Tst)
def Tst.enc : Tst → PD
  | .knd d => .tuple [.str "kind", d]
  | .not t => .tuple [.str "not", t.enc]
  | .both t u => .tuple [.str "both", t.enc, u.enc]
  | .next r t => .tuple [.str "next", num r, t.enc]
def Tst.hgt : Tst → Nat
  | .knd _ => 0
  | .not t => t.hgt + 1
  | .both t u => max t.hgt u.hgt + 1
  | .next _ t => t.hgt + 1
def Tst.ok : Tst → Prop
  | .knd d => shp d = true
  | .not t => t.ok
  | .both t u => t.ok ∧ u.ok
  | .next r t => Sz 300 r ∧ t.ok
def Tst.deep : Tst → Int
  | .knd _ => 0
  | .not t => t.deep
  | .both t u => max t.deep u.deep
  | .next _ t => 1 + t.deep
def pass (c : List Plc) : Tst → List Nat
  | .knd d => (List.range c.length).filter fun p => match c[p]? with
    | some x => PyData.eqv x.kind d
    | none => false
  | .not t => (List.range c.length).filter fun p => !decide (p ∈ pass c t)
  | .both t u => (pass c t).filter fun p => decide (p ∈ pass c u)
  | .next r t => (List.range c.length).filter fun p => match c[p]? with
    | some x => !decide (into x (pass c t) < r)
    | none => false
theorem pass_lt {c : List Plc} : ∀ {t : Tst} {p : Nat}, p ∈ pass c t → p < c.length
  | .knd d, p, h => List.mem_range.mp (List.mem_filter.mp h).1
  | .not t, p, h => List.mem_range.mp (List.mem_filter.mp h).1
  | .both t u, p, h => pass_lt (List.mem_filter.mp h).1
  | .next r t, p, h => List.mem_range.mp (List.mem_filter.mp h).1
theorem pass_len {c : List Plc} : ∀ {t : Tst}, (pass c t).length ≤ c.length
  | .knd d => Nat.le_trans (List.length_filter_le _ _) (by rw [List.length_range]; exact Nat.le_refl _)
  | .not t => Nat.le_trans (List.length_filter_le _ _) (by rw [List.length_range]; exact Nat.le_refl _)
  | .both t u => Nat.le_trans (List.length_filter_le _ _) pass_len
  | .next r t => Nat.le_trans (List.length_filter_le _ _) (by rw [List.length_range]; exact Nat.le_refl _)
end PL
namespace PL
open PySem PySem.Spec PyProof.Rows L2 DK
/-! ## counts are kept as Nat -/
section
variable (a b : Nat)
theorem n_add : (a : Int) + (b : Int) = ((a + b : Nat) : Int) := (Int.natCast_add a b).symm
theorem n_addL : (no_index (@OfNat.ofNat Int a _)) + (b : Int) = ((a + b : Nat) : Int) := (Int.natCast_add a b).symm
theorem n_addR : (a : Int) + (no_index (@OfNat.ofNat Int b _)) = ((a + b : Nat) : Int) := (Int.natCast_add a b).symm
theorem n_mul : (a : Int) * (b : Int) = ((a * b : Nat) : Int) := (Int.natCast_mul a b).symm
theorem n_mulL : (no_index (@OfNat.ofNat Int a _)) * (b : Int) = ((a * b : Nat) : Int) := (Int.natCast_mul a b).symm
theorem n_mulR : (a : Int) * (no_index (@OfNat.ofNat Int b _)) = ((a * b : Nat) : Int) := (Int.natCast_mul a b).symm
theorem n_mod : (a : Int) % (b : Int) = ((a % b : Nat) : Int) := (Int.natCast_emod a b).symm
theorem n_modR : (a : Int) % (no_index (@OfNat.ofNat Int b _)) = ((a % b : Nat) : Int) := (Int.natCast_emod a b).symm
theorem n_div : (a : Int) / (b : Int) = ((a / b : Nat) : Int) := (Int.natCast_ediv a b).symm
theorem n_divR : (a : Int) / (no_index (@OfNat.ofNat Int b _)) = ((a / b : Nat) : Int) := (Int.natCast_ediv a b).symm
end
theorem n_eq {a b : Nat} : ((a : Int) = (b : Int)) = (a = b) := propext ⟨fun h => by omega, fun h => by omega⟩
theorem n_eqR {a b : Nat} : ((a : Int) = (no_index (@OfNat.ofNat Int b _))) = (a = b) := n_eq
theorem n_lt {a b : Nat} : ((a : Int) < (b : Int)) = (a < b) := propext ⟨fun h => by omega, fun h => by omega⟩
theorem n_ltR {a b : Nat} : ((a : Int) < (no_index (@OfNat.ofNat Int b _))) = (a < b) := n_lt
theorem n_ltL {a b : Nat} : ((no_index (@OfNat.ofNat Int a _)) < (b : Int)) = (a < b) := n_lt
theorem n_le {a b : Nat} : ((a : Int) ≤ (b : Int)) = (a ≤ b) := propext ⟨fun h => by omega, fun h => by omega⟩
theorem n_leR {a b : Nat} : ((a : Int) ≤ (no_index (@OfNat.ofNat Int b _))) = (a ≤ b) := n_le
theorem n_leL {a b : Nat} : ((no_index (@OfNat.ofNat Int a _)) ≤ (b : Int)) = (a ≤ b) := n_le
theorem toNat_lit {a : Nat} : (no_index (@OfNat.ofNat Int a _)).toNat = a := Int.toNat_natCast a
theorem rng_len {lo : Int} {n : Nat} : (rng lo n).length = n := by
  unfold rng
  rw [List.length_map, List.length_range]
theorem okR_nat {n : Nat} : (okR (n : Int) = true) ↔ n ≤ 100000 := by
  unfold okR
  rw [decide_eq_true_eq]
  omega
theorem okR_lit {n : Nat} : (okR (no_index (@OfNat.ofNat Int n _)) = true) ↔ n ≤ 100000 := okR_nat
theorem okMul_r {i j : Int} (h : j.natAbs < 2 ^ 64) : okMul i j = true := by
  unfold okMul
  rw [Bool.or_eq_true, Bool.or_eq_true, decide_eq_true_eq, decide_eq_true_eq, decide_eq_true_eq]
  exact .inr (.inr h)
theorem okMul_l {i j : Int} (h : i.natAbs < 2 ^ 64) : okMul i j = true := by
  unfold okMul
  rw [Bool.or_eq_true, Bool.or_eq_true, decide_eq_true_eq, decide_eq_true_eq, decide_eq_true_eq]
  exact .inr (.inl h)
theorem ixN_nat {n i : Nat} (h : i < n) : ixN n (i : Int) = some i := by
  unfold ixN
  rw [if_pos (by omega), if_pos (by omega), Int.toNat_natCast]
section
variable {S : Stt} {vs : List Nat} {tgt : PD → Stt → Option Stt}
theorem ok_compR {cond : EvB} {elt : Ev} {Q : List PD → Stt → Prop} {n : Nat} (p : Nat → Bool) (h : Nat → PD)
    (hs : ∀ i, i < n → Ok (tgt (.int (i : Int)) S) fun S1 => O2 (cond S1) fun b S2 => b = p i ∧ (p i = true → O2 (elt S2) fun z S3 => z = h i ∧ wipeS S3 vs = S) ∧ (p i = false → wipeS S2 vs = S))
    (q : Q (((List.range n).filter p).map h) S) : O2 (compL vs tgt cond elt (rng 0 n) S []) Q := by
  rw [rng0]
  exact ok_comp p h (fun x hx => hs x (List.mem_range.mp hx)) q
theorem ok_comp1R {elt : Ev} {Q : List PD → Stt → Prop} {n : Nat} (h : Nat → PD)
    (hs : ∀ i, i < n → Ok (tgt (.int (i : Int)) S) fun S1 => O2 (elt S1) fun z S3 => z = h i ∧ wipeS S3 vs = S)
    (q : Q ((List.range n).map h) S) : O2 (compL vs tgt bTrue elt (rng 0 n) S []) Q := by
  rw [rng0]
  exact ok_comp1 h (fun x hx => hs x (List.mem_range.mp hx)) q
/-- each element told by what holds of it, not by a function -/
theorem ok_compX {α : Type} [Inhabited α] {elt : Ev} {Q : List PD → Stt → Prop} {n : Nat} {enc : α → PD} (P : Nat → α → Prop)
    (hs : ∀ i, i < n → Ok (tgt (.int (i : Int)) S) fun S1 => O2 (elt S1) fun z S3 => (∃ x, z = enc x ∧ P i x) ∧ wipeS S3 vs = S)
    (q : ∀ l : List α, l.length = n → (∀ i x, l[i]? = some x → P i x) → Q (l.map enc) S) : O2 (compL vs tgt bTrue elt (rng 0 n) S []) Q := by
  have ex : ∀ i, ∃ x, i < n → (Ok (tgt (.int (i : Int)) S) fun S1 => O2 (elt S1) fun z S3 => z = enc x ∧ wipeS S3 vs = S) ∧ P i x := by
    intro i
    by_cases hi : i < n
    · obtain ⟨S1, e1, z, S3, e2, ⟨x, e3, e4⟩, e5⟩ := hs i hi
      exact ⟨x, fun _ => ⟨⟨S1, e1, z, S3, e2, e3, e5⟩, e4⟩⟩
    · exact ⟨default, fun h => (hi h).elim⟩
  obtain ⟨f, hf⟩ := Classical.axiomOfChoice ex
  refine ok_comp1R (fun i => enc (f i)) (fun i hi => (hf i hi).1) ?_
  have := q ((List.range n).map f) (by rw [List.length_map, List.length_range]) fun i x hx => by
    rw [List.getElem?_map] at hx
    by_cases hi : i < n
    · rw [List.getElem?_range hi] at hx
      cases hx
      exact (hf i hi).2
    · rw [List.getElem?_eq_none (by rw [List.length_range]; omega)] at hx
      cases hx
  rw [List.map_map] at this
  exact this
/-- the same over a list of things -/
theorem ok_compL {α β : Type} [Inhabited α] {elt : Ev} {Q : List PD → Stt → Prop} {enc : α → PD} {en : β → PD} {l : List β} (P : β → α → Prop)
    (hs : ∀ b ∈ l, Ok (tgt (en b) S) fun S1 => O2 (elt S1) fun z S3 => (∃ x, z = enc x ∧ P b x) ∧ wipeS S3 vs = S)
    (q : ∀ m : List α, m.length = l.length → (∀ x ∈ m, ∃ b ∈ l, P b x) → Q (m.map enc) S) : O2 (compL vs tgt bTrue elt (l.map en) S []) Q := by
  have ex : ∀ b, ∃ x, b ∈ l → (Ok (tgt (en b) S) fun S1 => O2 (elt S1) fun z S3 => z = enc x ∧ wipeS S3 vs = S) ∧ P b x := by
    intro b
    by_cases hi : b ∈ l
    · obtain ⟨S1, e1, z, S3, e2, ⟨x, e3, e4⟩, e5⟩ := hs b hi
      exact ⟨x, fun _ => ⟨⟨S1, e1, z, S3, e2, e3, e5⟩, e4⟩⟩
    · exact ⟨default, fun h => (hi h).elim⟩
  obtain ⟨f, hf⟩ := Classical.axiomOfChoice ex
  refine ok_comp1 (fun b => enc (f b)) (fun b hb => (hf b hb).1) ?_
  have := q (l.map f) (by rw [List.length_map]) fun x hx => by
    obtain ⟨b, hb, rfl⟩ := List.mem_map.mp hx
    exact ⟨b, hb, (hf b hb).2⟩
  rw [List.map_map] at this
  exact this
end
instance : Inhabited Plc := ⟨.fin⟩
instance : Inhabited Tst := ⟨.knd .none⟩
theorem nat_at {ds : List Nat} (i : Nat) (h : i < ds.length) : (ds.map fun (i : Nat) => PyData.int (i : Int))[i]? = some (.int (ds.getD i 0 : Nat)) := by
  rw [List.getElem?_map, List.getElem?_eq_getElem h, List.getD_eq_getElem?_getD, List.getElem?_eq_getElem h]
  rfl
theorem o_sumN {l : List Nat} {K : PD → Prop} : Ok (gSum [.list (l.map fun (i : Nat) => PyData.int (i : Int))]) K ↔ K (.int (l.sum : Nat)) := by
  have e : (l.map fun (i : Nat) => PyData.int (i : Int)) = (l.map fun (i : Nat) => (i : Int)).map PyData.int := by
    rw [List.map_map]
    rfl
  rw [e, o_sum]
  have : (l.map fun (i : Nat) => (i : Int)).sum = (l.sum : Nat) := by
    induction l with
    | nil => rfl
    | cons x r ih => rw [List.map_cons, List.sum_cons, List.sum_cons, ih (by rw [List.map_map]; rfl), Int.natCast_add]
  rw [this]
theorem sum_le {l : List Nat} {k : Nat} (h : ∀ x ∈ l, x ≤ k) : l.sum ≤ l.length * k := by
  induction l with
  | nil => exact Nat.zero_le _
  | cons x r ih =>
    have := ih fun y hy => h y (List.mem_cons_of_mem _ hy)
    have := h x List.mem_cons_self
    rw [List.sum_cons, List.length_cons, Nat.add_mul]
    omega
theorem le_sum {l : List Nat} {x : Nat} (h : x ∈ l) : x ≤ l.sum := by
  induction l with
  | nil => cases h
  | cons y r ih =>
    rw [List.sum_cons]
    rcases List.mem_cons.mp h with e | e
    · omega
    · have := ih e; omega
theorem flat_int {i : Int} : flat (.int i) = true := rfl
theorem flat_bool {i : Bool} : flat (.bool i) = true := rfl
theorem drop_map {α β : Type} {f : α → β} {l : List α} {n : Nat} : (l.map f).drop n = (l.drop n).map f := List.map_drop.symm
theorem take_map {α β : Type} {f : α → β} {l : List α} {n : Nat} : (l.map f).take n = (l.take n).map f := List.map_take.symm
theorem app_map {α β : Type} {f : α → β} {l m : List α} : l.map f ++ m.map f = (l ++ m).map f := List.map_append.symm
theorem pick {xs : List PD} {v : Nat} (h : v < xs.length) {K : PD → Prop} (k : ∀ x ∈ xs, K x) : Ok xs[v]? K :=
  ⟨xs[v], List.getElem?_eq_getElem h, k _ (List.getElem_mem h)⟩
section
variable {S : Stt} {a : EvL} {i : Nat}
theorem q_callS {g : List PD → Option PD} {Q : PD → Stt → Prop} : O2 (eCallS g i a S) Q ↔ Sc S[i]? fun ns => O2 (a S) fun ds s => Ok (g (.list (ns.map PyData.int) :: ds)) fun d => Q d s := by
  unfold eCallS
  constructor
  · rintro ⟨d, s, e, q⟩
    split at e
    · rename_i ns h; exact ⟨ns, h, (Iff.trans b2 (O2_iff fun y s' => Iff.trans b1 (Ok_iff fun d => O2_some))).mp ⟨d, s, e, q⟩⟩
    · cases e
  · rintro ⟨ns, h, q⟩
    rw [h]
    exact (Iff.trans b2 (O2_iff fun y s' => Iff.trans b1 (Ok_iff fun d => O2_some))).mpr q
theorem q_callI {g : List PD → Option (PD × List PD)} {Q : PD → Stt → Prop} : O2 (eCallI g i a S) Q ↔ Nd (isOw S[i]? = true) (O2 (a S) fun ds s => Ow s[i]? fun xs => Ok (g (.list xs :: ds)) fun r => Q r.1 (s.set i (.ow r.2))) := by
  refine Iff.trans O2_if (and_congr Iff.rfl (Iff.trans b2 (O2_iff fun k s => ?_)))
  dsimp only
  constructor
  · rintro ⟨d, s', e, q⟩
    split at e
    · rename_i xs h; exact ⟨xs, h, (Iff.trans b1 (Ok_iff fun d => O2_some)).mp ⟨d, s', e, q⟩⟩
    · cases e
  · rintro ⟨xs, h, q⟩
    rw [h]
    exact (Iff.trans b1 (Ok_iff fun d => O2_some)).mpr q
theorem q_fcallI {g : List PD → Option (List PD × List PD)} {Q : List PD → Stt → Prop} : O2 (fCallI g i a S) Q ↔ Nd (isOw S[i]? = true) (O2 (a S) fun ds s => Ow s[i]? fun xs => Ok (g (.list xs :: ds)) fun r => Q r.1 (s.set i (.ow r.2))) := by
  refine Iff.trans O2_if (and_congr Iff.rfl (Iff.trans b2 (O2_iff fun k s => ?_)))
  dsimp only
  constructor
  · rintro ⟨d, s', e, q⟩
    split at e
    · rename_i xs h; exact ⟨xs, h, (Iff.trans b1 (Ok_iff fun d => O2_some)).mp ⟨d, s', e, q⟩⟩
    · cases e
  · rintro ⟨xs, h, q⟩
    rw [h]
    exact (Iff.trans b1 (Ok_iff fun d => O2_some)).mpr q
theorem q_scr {Q : List PD → Stt → Prop} : O2 (fScr i S) Q ↔ Sc S[i]? fun ns => Q (ns.map PyData.int) S := by
  unfold fScr
  constructor
  · rintro ⟨d, s, e, q⟩
    split at e
    · rename_i z h; cases e; exact ⟨_, h, q⟩
    · cases e
  · rintro ⟨d, h, q⟩
    exact ⟨_, S, by rw [h], q⟩
end
end PL
namespace PL
open PySem PySem.Spec PyProof.Rows L2 DK
def Ns (o : Option Sl) (Q : List (List PD) → Prop) (_ : Tq Q := Unit.unit) : Prop := ∃ d, o = some (.nst d) ∧ Q d
theorem Ns_nst {d : List (List PD)} {Q : List (List PD) → Prop} : Ns (some (.nst d)) Q ↔ Q d := ⟨fun ⟨_, e, q⟩ => by cases e; exact q, fun q => ⟨d, rfl, q⟩⟩
section
variable {S : Stt} {a b : Ev} {f : EvL} {g : EvSt} {i j : Nat} {R : Out → Prop}
theorem p_nstF : Ok (sNst (i + 1) (sSetF (i + 1) f) S) R ↔ O2 (f S) fun d s => Nd (i + 1 < s.length ∧ d = []) (R (.nx (s.set (i + 1) (.nst [])))) := by
  constructor
  · rintro ⟨o, e, q⟩
    unfold sNst at e
    rw [if_neg (by omega)] at e
    unfold sSetF at e
    cases h : f S with
    | none => rw [h] at e; cases e
    | some p =>
      obtain ⟨d, s⟩ := p
      rw [h] at e
      by_cases hl : i + 1 ≠ 0 ∧ i + 1 < s.length
      · dsimp only [bind, Option.bind] at e
        rw [if_pos hl] at e
        dsimp only at e
        rw [List.getElem?_set_self hl.2] at e
        cases d with
        | nil =>
          cases e
          refine ⟨[], s, rfl, ⟨hl.2, rfl⟩, ?_⟩
          rw [List.set_set] at q
          exact q
        | cons x r => cases e
      · dsimp only [bind, Option.bind] at e
        rw [if_neg hl] at e
        cases e
  · rintro ⟨d, s, e, ⟨hl, rfl⟩, q⟩
    refine ⟨_, ?_, q⟩
    unfold sNst sSetF
    rw [if_neg (by omega), e]
    dsimp only [bind, Option.bind]
    rw [if_pos ⟨by omega, hl⟩]
    dsimp only
    rw [List.getElem?_set_self hl]
    dsimp only
    rw [List.set_set]
theorem p_push : Ok (sPush (i + 1) f S) R ↔ Ns S[i + 1]? fun yss => O2 (f (S.set (i + 1) .no)) fun zs s => Nd (yss.length < 100000) (R (.nx (s.set (i + 1) (.nst (yss ++ [zs]))))) := by
  unfold sPush
  rw [if_neg (by omega)]
  constructor
  · rintro ⟨o, e, q⟩
    split at e
    · rename_i yss h
      exact ⟨yss, h, (Iff.trans b3 (O2_iff fun x s => Iff.trans Ok_if (and_congr Iff.rfl Ok_some))).mp ⟨o, e, q⟩⟩
    · cases e
  · rintro ⟨yss, h, q⟩
    rw [h]
    exact (Iff.trans b3 (O2_iff fun x s => Iff.trans Ok_if (and_congr Iff.rfl Ok_some))).mpr q
theorem p_cel : Ok (sCel (i + 1) a b S) R ↔ Ns S[i + 1]? fun yss => O2 (a (S.set (i + 1) .no)) fun k s => O2 (b s) fun d s2 => asI k fun jj => Ok (ixN yss.length jj) fun n => Ok yss[n]? fun ys => Nd (ys.length < 100000) (R (.nx (s2.set (i + 1) (.nst (yss.set n (ys ++ [d])))))) := by
  unfold sCel
  rw [if_neg (by omega)]
  constructor
  · rintro ⟨o, e, q⟩
    split at e
    · rename_i yss h
      refine ⟨yss, h, ?_⟩
      obtain ⟨k, s, h1, h2⟩ := b3.mp (⟨o, e, q⟩ : Ok _ R)
      obtain ⟨d, s2, h3, h4⟩ := b3.mp h2
      refine ⟨k, s, h1, d, s2, h3, ?_⟩
      cases k with
      | int jj => exact ⟨jj, rfl, (Iff.trans bindO (Ok_iff fun n => Iff.trans bindO (Ok_iff fun ys => Iff.trans Ok_if (and_congr Iff.rfl Ok_some)))).mp h4⟩
      | _ => obtain ⟨_, w, _⟩ := h4; cases w
    · cases e
  · rintro ⟨yss, h, k, s, h1, d, s2, h3, jj, rfl, q⟩
    rw [h]
    exact b3.mpr ⟨_, s, h1, b3.mpr ⟨d, s2, h3, (Iff.trans bindO (Ok_iff fun n => Iff.trans bindO (Ok_iff fun ys => Iff.trans Ok_if (and_congr Iff.rfl Ok_some)))).mpr q⟩⟩
theorem p_retN : Ok (sRetN (i + 1) S) R ↔ Ns S[i + 1]? fun yss => R (.rtF (yss.map PyData.list) (S.set (i + 1) .no)) := by
  unfold sRetN
  rw [if_neg (by omega)]
  constructor
  · rintro ⟨o, e, q⟩
    split at e
    · rename_i xs hh; cases e; exact ⟨_, hh, q⟩
    · cases e
  · rintro ⟨xs, e, q⟩
    exact ⟨_, by rw [e], q⟩
theorem q_indexO {Q : PD → Stt → Prop} : O2 (eIndexO i a S) Q ↔ Nd (isOw S[i]? = true) (O2 (a S) fun y s => Ow s[i]? fun zs => Ok (gIndex (.list zs) y) fun d => Q d s) := by
  refine Iff.trans O2_if (and_congr Iff.rfl (Iff.trans b2 (O2_iff fun k s => ?_)))
  dsimp only
  constructor
  · rintro ⟨d, s', e, q⟩
    split at e
    · rename_i xs h; exact ⟨xs, h, (Iff.trans b1 (Ok_iff fun d => O2_some)).mp ⟨d, s', e, q⟩⟩
    · cases e
  · rintro ⟨xs, h, q⟩
    rw [h]
    exact (Iff.trans b1 (Ok_iff fun d => O2_some)).mpr q
theorem q_enumD {Q : List PD → Stt → Prop} : O2 (iEnumD (aCons a aNil) S) Q ↔ O2 (a S) fun d s => asL d fun xs => Q (enumD 0 xs) s := by
  unfold iEnumD
  constructor
  · rintro ⟨ds, s, e, q⟩
    split at e
    · rename_i es s1 h
      cases e
      obtain ⟨d1, s1, e1, d2, s2, e2, h3, h4⟩ := q_cons.mp (⟨_, _, h, rfl, rfl⟩ : O2 _ fun ds' s2 => ds' = [PyData.list es] ∧ s2 = s)
      cases e2
      cases h3
      subst h4
      exact ⟨_, _, e1, _, rfl, q⟩
    · cases e
  · rintro ⟨d, s, h, xs, rfl, q⟩
    refine ⟨_, s, ?_, q⟩
    have : aCons a aNil S = some ([.list xs], s) := by
      unfold aCons
      rw [h]
      rfl
    rw [this]
end
end PL
namespace PL
open PySem PySem.Spec PyProof.Rows L2 DK
/-! ## divisions -/
abbrev encK (c : List Nat) : List PD := c.map fun (i : Nat) => PyData.int (i : Int)
theorem enumD_map (xs : List PD) : enumD 0 xs = (List.range xs.length).map fun (i : Nat) => PyData.tuple [.int (i : Int), xs.getD i .none] := by
  refine List.ext_getElem? fun i => ?_
  rw [List.getElem?_map]
  by_cases h : i < xs.length
  · rw [List.getElem?_range h]
    cases e : (enumD 0 xs)[i]? with
    | none =>
      rw [List.getElem?_eq_none_iff, enumD_len] at e
      omega
    | some d =>
      obtain ⟨x, h1, rfl⟩ := enumD_get e
      show _ = some (PyData.tuple [PyData.int (i : Int), xs.getD i PyData.none])
      rw [List.getD_eq_getElem?_getD, h1, Nat.zero_add]
      rfl
  · rw [List.getElem?_eq_none (by rw [enumD_len]; omega), List.getElem?_eq_none (by simpa using h)]
    rfl
theorem ok_forE {vs : List Nat} {tgt : PD → Stt → Option Stt} {body : EvSt} {S : Stt} {R : Out → Prop} {xs : List PD} (I : Nat → Stt → Prop) (h0 : I 0 S)
    (hs : ∀ (i : Nat) (h : i < xs.length) (S : Stt), I i S → Ok (tgt (.tuple [.int (i : Int), xs[i]]) (letGo vs S)) fun S1 => Ok (body S1) (lpK (I (i + 1)) R)) (hd : ∀ S, I xs.length S → R (.nx S)) : Ok (forL vs tgt body (enumD 0 xs) S) R := by
  rw [enumD_map]
  refine ok_for (enc := fun (i : Nat) => PyData.tuple [.int (i : Int), xs.getD i .none]) (l := List.range xs.length) I h0 (fun i h S hI => ?_) (by rw [List.length_range]; exact hd)
  rw [List.getElem_range]
  rw [List.length_range] at h
  have e : xs.getD i .none = xs[i] := by rw [List.getD_eq_getElem?_getD, List.getElem?_eq_getElem h]; rfl
  rw [e]
  exact hs i h S hI
theorem findD_eq (y : PD) : ∀ zs : List PD, findD y zs = zs.findIdx? fun z => PyData.eqv z y
  | [] => rfl
  | z :: zs => by
    unfold findD
    rw [List.findIdx?_cons, findD_eq y zs]
theorem o_index {zs : List PD} {y : PD} {Q : PD → Prop} : Ok (gIndex (.list zs) y) Q ↔ Nd (shp (.list zs) = true ∧ shp y = true) (Ok (zs.findIdx? fun z => PyData.eqv z y) fun j => Q (.int (j : Int))) := by
  unfold gIndex
  dsimp only
  rw [findD_eq]
  by_cases h : (shp (.list zs) && shp y) = true
  · rw [if_pos h]
    rw [Bool.and_eq_true] at h
    cases e : zs.findIdx? fun z => PyData.eqv z y with
    | none => exact ⟨fun ⟨_, e, _⟩ => (by cases e), fun ⟨_, _, e, _⟩ => by cases e⟩
    | some j => exact ⟨fun z => ⟨h, Ok_some.mpr (Ok_some.mp z)⟩, fun z => Ok_some.mpr ((Ok_some (Q := fun j : Nat => Q (.int (j : Int)))).mp z.2)⟩
  · rw [if_neg h]
    rw [Bool.and_eq_true] at h
    exact ⟨fun ⟨_, e, _⟩ => (by cases e), fun z => (h z.1).elim⟩
/-- the first class whose first place has the mark of p -/
def gfind (ms : List PD) (p : Nat) (cls : List (List Nat)) : Option Nat := cls.findIdx? fun c => PyData.eqv (ms.getD (c.headD 0) .none) (ms.getD p .none)
def gstep (ms : List PD) (cls : List (List Nat)) (p : Nat) : List (List Nat) := match gfind ms p cls with
  | some k => cls.set k (cls.getD k [] ++ [p])
  | none => cls ++ [[p]]
def grp (ms : List PD) : Nat → List (List Nat)
  | 0 => []
  | i + 1 => gstep ms (grp ms i) i
/-- a division of the first n places -/
structure Dvn (n : Nat) (cls : List (List Nat)) : Prop where
  ne : ∀ c ∈ cls, c ≠ []
  mem : ∀ p, (∃ c ∈ cls, p ∈ c) ↔ p < n
  one : ∀ (j k : Nat) (c d : List Nat) (p : Nat), cls[j]? = some c → cls[k]? = some d → p ∈ c → p ∈ d → j = k
  up : ∀ c ∈ cls, c.Pairwise (· < ·)
  fst : (cls.map fun c => c.headD 0).Pairwise (· < ·)
theorem Dvn.lt {n : Nat} {cls : List (List Nat)} (h : Dvn n cls) {c : List Nat} (hc : c ∈ cls) {p : Nat} (hp : p ∈ c) : p < n := (h.mem p).mp ⟨c, hc, hp⟩
theorem Dvn.hd {n : Nat} {cls : List (List Nat)} (h : Dvn n cls) {c : List Nat} (hc : c ∈ cls) : c.headD 0 ∈ c ∧ c.headD 0 < n := by
  cases c with
  | nil => exact absurd rfl (h.ne _ hc)
  | cons x r => exact ⟨List.mem_cons_self, h.lt hc List.mem_cons_self⟩
theorem dvn_nil : Dvn 0 [] := ⟨fun c h => (by cases h), fun p => ⟨fun ⟨c, h, _⟩ => (by cases h), fun h => by omega⟩, fun j k c d p h => by simp at h, fun c h => (by cases h), List.Pairwise.nil⟩
theorem headD_append {c : List Nat} (h : c ≠ []) (p : Nat) : (c ++ [p]).headD 0 = c.headD 0 := by
  cases c with
  | nil => exact absurd rfl h
  | cons x r => rfl
theorem heads_set {cls : List (List Nat)} {k : Nat} {c : List Nat} {p : Nat} (e : cls[k]? = some c) (hc : c ≠ []) : (cls.set k (c ++ [p])).map (fun c => c.headD 0) = cls.map fun c => c.headD 0 := by
  rw [List.map_set, headD_append hc]
  refine List.ext_getElem? fun j => ?_
  by_cases hj : k = j
  · subst hj
    have hk := (List.getElem?_eq_some_iff.mp e).1
    rw [List.getElem?_set_self (by simpa using hk), List.getElem?_map, e]
    rfl
  · rw [List.getElem?_set_ne hj]
theorem Dvn.step {n : Nat} {cls : List (List Nat)} (h : Dvn n cls) (ms : List PD) : Dvn (n + 1) (gstep ms cls n) := by
  unfold gstep
  cases e : gfind ms n cls with
  | none =>
    dsimp only
    refine ⟨fun c hc => ?_, fun p => ⟨?_, fun hp => ?_⟩, fun j k c d p h1 h2 hp hq => ?_, fun c hc => ?_, ?_⟩
    · rcases List.mem_append.mp hc with z | z
      · exact h.ne c z
      · simp at z; rw [z]; simp
    · rintro ⟨c, hc, hp⟩
      rcases List.mem_append.mp hc with z | z
      · have := h.lt z hp; omega
      · simp at z; rw [z] at hp; simp at hp; omega
    · by_cases hn : p = n
      · exact ⟨[n], by simp, by simp [hn]⟩
      · obtain ⟨c, hc, hp⟩ := (h.mem p).mpr (by omega)
        exact ⟨c, List.mem_append_left _ hc, hp⟩
    · have key : ∀ (j : Nat) (c : List Nat), (cls ++ [[n]])[j]? = some c → (cls[j]? = some c) ∨ (j = cls.length ∧ c = [n]) := fun j c hj => by
        by_cases hl : j < cls.length
        · rw [List.getElem?_append_left hl] at hj; exact .inl hj
        · rw [List.getElem?_append_right (by omega)] at hj
          cases hm : j - cls.length with
          | zero => rw [hm] at hj; simp at hj; exact .inr ⟨by omega, hj.symm⟩
          | succ m => rw [hm] at hj; simp at hj
      rcases key j c h1 with z1 | ⟨z1, rfl⟩
      · rcases key k d h2 with z2 | ⟨z2, rfl⟩
        · exact h.one j k c d p z1 z2 hp hq
        · simp at hq
          have := h.lt (List.mem_of_getElem? z1) hp
          omega
      · rcases key k d h2 with z2 | ⟨z2, rfl⟩
        · simp at hp
          have := h.lt (List.mem_of_getElem? z2) hq
          omega
        · omega
    · rcases List.mem_append.mp hc with z | z
      · exact h.up c z
      · simp at z; rw [z]; exact List.pairwise_singleton _ _
    · rw [List.map_append, List.pairwise_append]
      refine ⟨h.fst, List.pairwise_singleton _ _, fun x hx y hy => ?_⟩
      obtain ⟨c, hc, rfl⟩ := List.mem_map.mp hx
      simp at hy
      have := (h.hd hc).2
      omega
  | some k =>
    dsimp only
    have hk : k < cls.length := (List.findIdx?_eq_some_iff_getElem.mp e).1
    have ek : cls[k]? = some cls[k] := List.getElem?_eq_getElem hk
    have eg : cls.getD k [] = cls[k] := by rw [List.getD_eq_getElem?_getD, ek]; rfl
    rw [eg]
    have hm : cls[k] ∈ cls := List.getElem_mem hk
    have nin : n ∉ cls[k] := fun z => by have := h.lt hm z; omega
    have key : ∀ (j : Nat) (c : List Nat), (cls.set k (cls[k] ++ [n]))[j]? = some c → (j ≠ k ∧ cls[j]? = some c) ∨ (j = k ∧ c = cls[k] ++ [n]) := fun j c hj => by
      by_cases hl : k = j
      · subst hl
        rw [List.getElem?_set_self hk] at hj
        cases hj
        exact .inr ⟨rfl, rfl⟩
      · rw [List.getElem?_set_ne hl] at hj
        exact .inl ⟨fun z => hl z.symm, hj⟩
    have mk : ∀ c ∈ cls.set k (cls[k] ++ [n]), c ∈ cls ∨ c = cls[k] ++ [n] := fun c hc => by
      obtain ⟨j, hj⟩ := List.mem_iff_getElem?.mp hc
      rcases key j c hj with ⟨_, z⟩ | ⟨_, z⟩
      · exact .inl (List.mem_of_getElem? z)
      · exact .inr z
    refine ⟨fun c hc => ?_, fun p => ⟨?_, fun hp => ?_⟩, fun j l c d p h1 h2 hp hq => ?_, fun c hc => ?_, ?_⟩
    · rcases mk c hc with z | z
      · exact h.ne c z
      · rw [z]; simp
    · rintro ⟨c, hc, hp⟩
      rcases mk c hc with z | z
      · have := h.lt z hp; omega
      · rw [z] at hp
        rcases List.mem_append.mp hp with w | w
        · have := h.lt hm w; omega
        · simp at w; omega
    · have hself : cls[k] ++ [n] ∈ cls.set k (cls[k] ++ [n]) := List.mem_iff_getElem?.mpr ⟨k, List.getElem?_set_self hk⟩
      by_cases hn : p = n
      · exact ⟨_, hself, by simp [hn]⟩
      · obtain ⟨c, hc, hp⟩ := (h.mem p).mpr (by omega)
        obtain ⟨j, hj⟩ := List.mem_iff_getElem?.mp hc
        by_cases hjk : k = j
        · subst hjk
          rw [ek] at hj
          cases hj
          exact ⟨_, hself, List.mem_append_left _ hp⟩
        · exact ⟨c, List.mem_iff_getElem?.mpr ⟨j, by rw [List.getElem?_set_ne hjk]; exact hj⟩, hp⟩
    · rcases key j c h1 with ⟨n1, z1⟩ | ⟨rfl, rfl⟩
      · rcases key l d h2 with ⟨n2, z2⟩ | ⟨rfl, rfl⟩
        · exact h.one j l c d p z1 z2 hp hq
        · rcases List.mem_append.mp hq with w | w
          · exact h.one j l c _ p z1 ek hp w
          · simp at w
            have := h.lt (List.mem_of_getElem? z1) hp
            omega
      · rcases key l d h2 with ⟨n2, z2⟩ | ⟨rfl, rfl⟩
        · rcases List.mem_append.mp hp with w | w
          · exact h.one j l _ d p ek z2 w hq
          · simp at w
            have := h.lt (List.mem_of_getElem? z2) hq
            omega
        · rfl
    · rcases mk c hc with z | z
      · exact h.up c z
      · rw [z, List.pairwise_append]
        refine ⟨h.up _ hm, List.pairwise_singleton _ _, fun x hx y hy => ?_⟩
        simp at hy
        have := h.lt hm hx
        omega
    · rw [heads_set ek (h.ne _ hm)]
      exact h.fst
theorem grp_dvn (ms : List PD) : ∀ n, Dvn n (grp ms n)
  | 0 => dvn_nil
  | n + 1 => (grp_dvn ms n).step ms
theorem gfind_lt {ms : List PD} {p k : Nat} {cls : List (List Nat)} (h : gfind ms p cls = some k) : k < cls.length := (List.findIdx?_eq_some_iff_getElem.mp h).1
theorem gstep_len {ms : List PD} {cls : List (List Nat)} {p : Nat} : (gstep ms cls p).length ≤ cls.length + 1 := by
  unfold gstep
  cases gfind ms p cls with
  | none => simp
  | some k => simp
theorem grp_len (ms : List PD) : ∀ n, (grp ms n).length ≤ n
  | 0 => Nat.le_refl _
  | n + 1 => Nat.le_trans gstep_len (by have := grp_len ms n; omega)
theorem Dvn.clen {n : Nat} {cls : List (List Nat)} (h : Dvn n cls) {c : List Nat} (hc : c ∈ cls) : c.length ≤ n := by
  have hu := h.up c hc
  have hl : ∀ x ∈ c, x < n := fun x hx => h.lt hc hx
  have key : ∀ (l : List Nat) (m : Nat), l.Pairwise (· < ·) → (∀ x ∈ l, m ≤ x ∧ x < n) → l.length ≤ n - m := by
    intro l
    induction l with
    | nil => intro m _ _; simp
    | cons x r ih =>
      intro m h1 h2
      rw [List.pairwise_cons] at h1
      have := ih (x + 1) h1.2 fun y hy => ⟨h1.1 y hy, (h2 y (List.mem_cons_of_mem _ hy)).2⟩
      have := h2 x List.mem_cons_self
      simp; omega
  exact key c 0 hu fun x hx => ⟨Nat.zero_le _, hl x hx⟩
/-- the place of the class -/
def cix (cls : List (List Nat)) (p : Nat) : Option Nat := cls.findIdx? fun c => decide (p ∈ c)
theorem Dvn.cix_some {n : Nat} {cls : List (List Nat)} (h : Dvn n cls) {p : Nat} (hp : p < n) : ∃ k c, cix cls p = some k ∧ cls[k]? = some c ∧ p ∈ c := by
  obtain ⟨c, hc, hpc⟩ := (h.mem p).mpr hp
  cases e : cix cls p with
  | none =>
    unfold cix at e
    rw [List.findIdx?_eq_none_iff] at e
    have := e c hc
    simp [hpc] at this
  | some k =>
    obtain ⟨hk, h1, _⟩ := List.findIdx?_eq_some_iff_getElem.mp e
    exact ⟨k, cls[k], rfl, List.getElem?_eq_getElem hk, by simpa using h1⟩
theorem Dvn.cix_eq {n : Nat} {cls : List (List Nat)} (h : Dvn n cls) {p q : Nat} (hp : p < n) (hq : q < n) : cix cls p = cix cls q ↔ ∃ c ∈ cls, p ∈ c ∧ q ∈ c := by
  obtain ⟨j, c, e1, e2, e3⟩ := h.cix_some hp
  obtain ⟨k, d, f1, f2, f3⟩ := h.cix_some hq
  rw [e1, f1]
  constructor
  · intro z
    cases z
    rw [e2] at f2
    cases f2
    exact ⟨c, List.mem_of_getElem? e2, e3, f3⟩
  · rintro ⟨b, hb, z1, z2⟩
    obtain ⟨l, hl⟩ := List.mem_iff_getElem?.mp hb
    rw [h.one j l c b p e2 hl e3 z1, h.one k l d b q f2 hl f3 z2]
end PL
namespace PL
open PySem PySem.Spec PyProof.Rows L2 DK
mutual
/-- data in which no truth value and no dict stands: equal data are the same -/
def nb : PD → Bool
  | .bool _ => false
  | .dict _ => false
  | .list xs => nbL xs
  | .tuple xs => nbL xs
  | _ => true
def nbL : List PD → Bool
  | [] => true
  | x :: r => nb x && nbL r
end
theorem nbL_iff : ∀ xs : List PD, nbL xs = true ↔ ∀ x ∈ xs, nb x = true
  | [] => by simp [nbL]
  | x :: r => by simp [nbL, nbL_iff r]
mutual
theorem eqv_iff : ∀ d e : PD, nb d = true → nb e = true → (PyData.eqv d e = true ↔ d = e)
  | .none, e, _, h => by cases e <;> simp_all [PyData.eqv, nb]
  | .bool b, e, h, _ => by simp [nb] at h
  | .int i, e, _, h => by cases e <;> simp_all [PyData.eqv, nb]
  | .str x, e, _, h => by cases e <;> simp_all [PyData.eqv, nb]
  | .list xs, e, h, h' => by
    cases e with
    | list ys =>
      simp only [nb] at h h'
      simp only [PyData.eqv, PyData.list.injEq]
      exact eqvAll_iff xs ys h h'
    | bool b => simp [nb] at h'
    | dict b => simp [nb] at h'
    | _ => simp [PyData.eqv]
  | .tuple xs, e, h, h' => by
    cases e with
    | tuple ys =>
      simp only [nb] at h h'
      simp only [PyData.eqv, PyData.tuple.injEq]
      exact eqvAll_iff xs ys h h'
    | bool b => simp [nb] at h'
    | dict b => simp [nb] at h'
    | _ => simp [PyData.eqv]
  | .dict b, e, h, _ => by simp [nb] at h
theorem eqvAll_iff : ∀ ds es : List PD, nbL ds = true → nbL es = true → (PyData.eqvAll ds es = true ↔ ds = es)
  | [], [], _, _ => by simp [PyData.eqvAll]
  | [], e :: es, _, _ => by simp [PyData.eqvAll]
  | d :: ds, [], _, _ => by simp [PyData.eqvAll]
  | d :: ds, e :: es, h, h' => by
    simp only [nbL, Bool.and_eq_true] at h h'
    simp only [PyData.eqvAll, Bool.and_eq_true, List.cons.injEq]
    rw [eqv_iff d e h.1 h'.1, eqvAll_iff ds es h.2 h'.2]
end
theorem eqv_dec {d e : PD} {p : Prop} [Decidable p] (h : nb d = true) (h' : nb e = true) (hp : d = e ↔ p) : PyData.eqv d e = decide p := by
  rw [Bool.eq_iff_iff, eqv_iff d e h h', decide_eq_true_iff]
  exact hp
end PL
namespace PL
open PySem PySem.Spec PyProof.Rows L2 DK
abbrev encDiv (cls : List (List Nat)) : PD := .list (cls.map nats)
theorem encK_list {cls : List (List Nat)} : (cls.map encK).map PyData.list = cls.map nats := by rw [List.map_map]; rfl
theorem nb_nats (l : List Nat) : nb (nats l) = true := by
  show nbL _ = true
  rw [nbL_iff]
  intro x hx
  obtain ⟨i, _, rfl⟩ := List.mem_map.mp hx
  rfl
theorem nb_div (cls : List (List Nat)) : nb (encDiv cls) = true := by
  show nbL _ = true
  rw [nbL_iff]
  intro x hx
  obtain ⟨c, _, rfl⟩ := List.mem_map.mp hx
  exact nb_nats c
theorem nats_inj {a b : List Nat} : nats a = nats b ↔ a = b := by
  constructor
  · intro h
    have h1 : (a.map fun (i : Nat) => PyData.int (i : Int)) = b.map fun (i : Nat) => PyData.int (i : Int) := by injection h
    exact (List.map_inj_right fun x y e => by injection e with e; omega).mp h1
  · rintro rfl; rfl
theorem div_inj {a b : List (List Nat)} : encDiv a = encDiv b ↔ a = b := by
  constructor
  · intro h
    have h1 : a.map nats = b.map nats := by injection h
    exact (List.map_inj_right fun x y e => nats_inj.mp e).mp h1
  · rintro rfl; rfl
theorem eqv_div {a b : List (List Nat)} : PyData.eqv (encDiv a) (encDiv b) = decide (a = b) := eqv_dec (nb_div a) (nb_div b) div_inj
theorem shp_div {n : Nat} {cls : List (List Nat)} : shpN (n + 2) (encDiv cls) = true := by
  show (List.all _ _) = true
  rw [List.all_eq_true]
  intro x hx
  obtain ⟨c, _, rfl⟩ := List.mem_map.mp hx
  exact shp_nats
theorem shp_num {n : Nat} {q : Rat} : shpN (n + 1) (num q) = true := by
  show (List.all _ _) = true
  cases n <;> rfl
theorem num_inj {p q : Rat} : num p = num q ↔ p = q := by
  constructor
  · intro h
    unfold num at h
    injection h with h
    injection h with h1 h
    injection h with h2 _
    injection h1 with h1
    injection h2 with h2
    exact Rat.ext h1 (by omega)
  · rintro rfl; rfl
theorem nb_num (q : Rat) : nb (num q) = true := rfl
theorem eqv_num {p q : Rat} : PyData.eqv (num p) (num q) = decide (p = q) := eqv_dec (nb_num p) (nb_num q) num_inj
/-! ## rounds -/
abbrev Div := List (List Nat)
def cAt (c : List Plc) (p : Nat) : Plc := c.getD p .fin
theorem cAt_of {c : List Plc} {p : Nat} (h : p < c.length) : c[p]? = some (cAt c p) := by
  unfold cAt
  rw [List.getD_eq_getElem?_getD, List.getElem?_eq_getElem h]
  rfl
def kinds (c : List Plc) : List PD := c.map Plc.kind
def mark (c : List Plc) (D : Div) (p : Nat) : PD := .tuple [.int (((cix D p).getD 0 : Nat) : Int), .list (D.map fun G => num (into (cAt c p) G))]
def marks (c : List Plc) (D : Div) : List PD := (List.range c.length).map (mark c D)
def div0 (c : List Plc) : Div := grp (kinds c) c.length
def nxt (c : List Plc) (D : Div) : Div := grp (marks c D) c.length
def rds (c : List Plc) : Nat → List Div → List Div
  | 0, f => f
  | m + 1, f => if nxt c (f.getLastD []) = f.getLastD [] then f else rds c m (f ++ [nxt c (f.getLastD [])])
def roundsOf (c : List Plc) : List Div := rds c c.length [div0 c]
theorem rds_stay {c : List Plc} {f : List Div} (h : nxt c (f.getLastD []) = f.getLastD []) : ∀ m, rds c m f = f
  | 0 => rfl
  | m + 1 => if_pos h
/-- what the lists of rounds keep to -/
structure Rnd (c : List Plc) (f : List Div) : Prop where
  ne : f ≠ []
  dv : ∀ D ∈ f, Dvn c.length D ∧ D.length ≤ c.length
theorem Rnd.last {c : List Plc} {f : List Div} (h : Rnd c f) : Dvn c.length (f.getLastD []) ∧ (f.getLastD []).length ≤ c.length := by
  refine h.dv _ ?_
  cases f with
  | nil => exact absurd rfl h.ne
  | cons x r => rw [List.getLastD_cons]; exact List.getLastD_mem_cons
theorem rnd0 (c : List Plc) : Rnd c [div0 c] := ⟨by simp, fun D hD => by
  simp at hD
  rw [hD]
  exact ⟨grp_dvn _ _, grp_len _ _⟩⟩
theorem Rnd.more {c : List Plc} {f : List Div} (h : Rnd c f) : Rnd c (f ++ [nxt c (f.getLastD [])]) := ⟨by simp, fun D hD => by
  rcases List.mem_append.mp hD with z | z
  · exact h.dv D z
  · simp at z
    rw [z]
    exact ⟨grp_dvn _ _, grp_len _ _⟩⟩
theorem rds_rnd {c : List Plc} : ∀ {m : Nat} {f : List Div}, Rnd c f → Rnd c (rds c m f)
  | 0, _, h => h
  | m + 1, f, h => by
    unfold rds
    split
    · exact h
    · exact rds_rnd h.more
theorem rds_len {c : List Plc} : ∀ {m : Nat} {f : List Div}, (rds c m f).length ≤ f.length + m
  | 0, _ => Nat.le_refl _
  | m + 1, f => by
    unfold rds
    split
    · omega
    · refine Nat.le_trans rds_len ?_
      simp; omega
theorem getLast?_map_div {f : List Div} (h : f ≠ []) : (f.map encDiv).getLast? = some (encDiv (f.getLastD [])) := by
  rw [List.getLast?_map]
  cases f with
  | nil => exact absurd rfl h
  | cons x r =>
    rw [List.getLastD_cons, List.getLast?_cons, List.getLastD_eq_getLast?]
    rfl
theorem marks_len {c : List Plc} {D : Div} : (marks c D).length = c.length := by simp [marks]
theorem kinds_len {c : List Plc} : (kinds c).length = c.length := by simp [kinds]
theorem shp_mark {c : List Plc} {D : Div} {p : Nat} : shpN 4 (mark c D p) = true := by
  show (List.all _ _) = true
  rw [List.all_eq_true]
  intro x hx
  simp only [List.mem_cons, List.not_mem_nil, or_false] at hx
  rcases hx with rfl | rfl
  · rfl
  · show (List.all _ _) = true
    rw [List.all_eq_true]
    intro x hx
    obtain ⟨G, _, rfl⟩ := List.mem_map.mp hx
    exact shp_num
theorem shp_marks {c : List Plc} {D : Div} : ∀ d ∈ marks c D, shpN 4 d = true := fun d hd => by
  obtain ⟨p, _, rfl⟩ := List.mem_map.mp hd
  exact shp_mark
theorem shp_kinds {c : List Plc} : ∀ d ∈ kinds c, shpN 4 d = true := fun d hd => by
  obtain ⟨x, _, rfl⟩ := List.mem_map.mp hd
  cases x with
  | fin => decide +kernel
  | lose => decide +kernel
  | rew r t =>
    show (List.all _ _) = true
    rw [List.all_eq_true]
    intro y hy
    simp only [List.mem_cons, List.not_mem_nil, or_false] at hy
    rcases hy with rfl | rfl
    · decide +kernel
    · exact shp_num
  | draw b => show (List.all [PyData.str "draw"] _) = true; decide +kernel
/-- the first division in which two places are apart -/
def partOf (ds : List Div) (p q : Nat) : Option Nat := ds.findIdx? fun D => decide (cix D p ≠ cix D q)
def encO : Option Nat → PD
  | some k => .int (k : Int)
  | none => .none
theorem nb_encO (o : Option Nat) : nb (encO o) = true := by cases o <;> rfl
theorem encO_inj {a b : Option Nat} : encO a = encO b ↔ a = b := by
  cases a <;> cases b <;> simp [encO]
  omega
theorem eqv_encO {a b : Option Nat} : PyData.eqv (encO a) (encO b) = decide (a = b) := eqv_dec (nb_encO a) (nb_encO b) encO_inj
theorem shp_encO {n : Nat} (o : Option Nat) : shpN n (encO o) = true := by cases o <;> cases n <;> rfl
end PL
namespace PL
open PySem PySem.Spec PyProof.Rows L2 DK
/-! ## sorted -/
theorem o_sortedI {ns : List Int} {K : List PD → Prop} : Ok (gSortedA [.list (ns.map PyData.int)]) K ↔ K ((srt ns).map PyData.int) := by
  show Ok (match intsOf (ns.map PyData.int) with
    | some ns => some ((srt ns).map PyData.int)
    | none => _) K ↔ _
  rw [intsOf_map]
  exact Ok_some
theorem rowsOf_map : ∀ rs : List (List Int), rowsOf (rs.map encRow) = some rs
  | [] => rfl
  | r :: rs => by
    show (match intsOf (r.map PyData.int) with
      | some ns => (rowsOf (rs.map encRow)).map (ns :: ·)
      | none => none) = _
    rw [intsOf_map, rowsOf_map rs]
    rfl
theorem o_sortedR {rs : List (List Int)} {K : List PD → Prop} : Ok (gSortedA [.list (rs.map encRow)]) K ↔ K ((srtR rs).map encRow) := by
  cases rs with
  | nil =>
    have e : (srtR []).map encRow = (srt []).map PyData.int := by simp [srtR, srt]
    rw [e]
    exact Ok_some
  | cons r rs =>
    show Ok (match intsOf (encRow r :: rs.map encRow) with
      | some ns => some ((srt ns).map PyData.int)
      | none => (rowsOf ((r :: rs).map encRow)).map fun rs => (srtR rs).map encRow) K ↔ _
    have e : intsOf (encRow r :: rs.map encRow) = none := rfl
    rw [e, rowsOf_map]
    exact Ok_some
def ci (l : List Nat) : List Int := l.map fun (i : Nat) => (i : Int)
def srtN (l : List Nat) : List Nat := l.mergeSort fun a b => decide (a ≤ b)
def leN (a b : List Nat) : Bool := leI (ci a) (ci b)
def srtC (cls : List (List Nat)) : List (List Nat) := cls.mergeSort leN
theorem encK_ci (l : List Nat) : encK l = (ci l).map PyData.int := by unfold encK ci; rw [List.map_map]; rfl
theorem o_sortedN {l : List Nat} {K : List PD → Prop} : Ok (gSortedA [nats l]) K ↔ K (encK (srtN l)) := by
  show Ok (gSortedA [.list (encK l)]) K ↔ _
  rw [encK_ci, o_sortedI, encK_ci]
  have : srt (ci l) = ci (srtN l) := by
    unfold srt ci srtN
    rw [← List.map_mergeSort (r := fun (a b : Nat) => decide (a ≤ b)) (s := fun (a b : Int) => decide (a ≤ b))]
    intro a _ b _
    by_cases h : a ≤ b
    · simp [h]
    · simp [h]
  rw [this]
theorem nats_row : (nats : List Nat → PD) = encRow ∘ ci := by
  funext l
  show PyData.list (encK l) = PyData.list _
  rw [encK_ci]
theorem o_sortedC {cls : List (List Nat)} {K : List PD → Prop} : Ok (gSortedA [encDiv cls]) K ↔ K ((srtC cls).map nats) := by
  unfold encDiv
  rw [nats_row, ← List.map_map, o_sortedR, ← List.map_map]
  have : srtR (cls.map ci) = (srtC cls).map ci := by
    unfold srtR srtC
    rw [List.map_mergeSort (r := leN) (s := leI)]
    intro a _ b _
    rfl
  rw [this]
theorem srtN_eq {l : List Nat} : l = srtN l ↔ l.Pairwise (· ≤ ·) := by
  constructor
  · intro h
    have p := List.pairwise_mergeSort (le := fun (a b : Nat) => decide (a ≤ b)) (by intro a b c; simp; omega) (by intro a b; simp; omega) l
    rw [show l.mergeSort (fun a b => decide (a ≤ b)) = l from h.symm] at p
    exact p.imp fun {a b} q => by simpa using q
  · intro h
    exact (List.mergeSort_of_pairwise (le := fun (a b : Nat) => decide (a ≤ b)) (h.imp fun {a b} q => by simpa using q)).symm
theorem leI_tr (a b c : List Int) : leI a b = true → leI b c = true → leI a c = true := by
  unfold leI
  simp only [decide_eq_true_eq]
  exact fun h1 h2 => List.le_trans h1 h2
theorem leI_to (a b : List Int) : (leI a b || leI b a) = true := by
  unfold leI
  simp only [Bool.or_eq_true, decide_eq_true_eq]
  exact List.le_total a b
theorem srtC_eq {cls : List (List Nat)} : cls = srtC cls ↔ cls.Pairwise (fun a b => leN a b = true) := by
  constructor
  · intro h
    have p := List.pairwise_mergeSort (le := leN) (fun a b c => leI_tr _ _ _) (fun a b => leI_to _ _) cls
    rw [show cls.mergeSort leN = cls from h.symm] at p
    exact p
  · intro h
    exact (List.mergeSort_of_pairwise h).symm
theorem srtN_mem {l : List Nat} {p : Nat} : p ∈ srtN l ↔ p ∈ l := (List.mergeSort_perm _ _).mem_iff
theorem srtN_len {l : List Nat} : (srtN l).length = l.length := List.length_mergeSort _
theorem srtC_mem {l : List (List Nat)} {p : List Nat} : p ∈ srtC l ↔ p ∈ l := (List.mergeSort_perm _ _).mem_iff
theorem srtC_len {l : List (List Nat)} : (srtC l).length = l.length := List.length_mergeSort _
theorem leN_head {x y : Nat} {r s : List Nat} (h : x ≠ y) : leN (x :: r) (y :: s) = decide (x ≤ y) := by
  unfold leN leI ci
  rw [List.map_cons, List.map_cons]
  by_cases hl : x < y
  · have : ((x : Int) :: r.map fun (i : Nat) => (i : Int)) < ((y : Int) :: s.map fun (i : Nat) => (i : Int)) := List.cons_lt_cons_iff.mpr (.inl (by omega))
    have h1 := List.le_of_lt this
    simp [h1]; omega
  · have : ((y : Int) :: s.map fun (i : Nat) => (i : Int)) < ((x : Int) :: r.map fun (i : Nat) => (i : Int)) := List.cons_lt_cons_iff.mpr (.inl (by omega))
    have h1 : ¬ ((x : Int) :: r.map fun (i : Nat) => (i : Int)) ≤ ((y : Int) :: s.map fun (i : Nat) => (i : Int)) := fun z => List.not_lt.mpr z this
    simp only [h1, decide_false]
    have : ¬ x ≤ y := by omega
    simp [this]
/-! ## is it a division -/
def divA (n : Nat) (cls : List (List Nat)) : Bool := decide (srtN cls.flatten = List.range n) && !(cls.any fun c => decide (c = [])) && (cls.all fun c => decide (c = srtN c)) && decide (cls.map (fun c => c.headD 0) = srtN (cls.map fun c => c.headD 0))
def divB (n : Nat) (cls : List (List Nat)) : Bool := (cls.all fun c => !decide (c = []) && decide (c = srtN c)) && decide (srtN cls.flatten = List.range n) && decide (cls = srtC cls)
theorem div_ab (n : Nat) (cls : List (List Nat)) : divA n cls = divB n cls := by
  rw [Bool.eq_iff_iff]
  unfold divA divB
  simp only [Bool.and_eq_true, decide_eq_true_eq, Bool.not_eq_true', List.all_eq_true, List.any_eq_false]
  constructor
  · rintro ⟨⟨⟨h1, h2⟩, h3⟩, h4⟩
    refine ⟨⟨fun c hc => ⟨by simpa using h2 c hc, h3 c hc⟩, h1⟩, ?_⟩
    have hd : cls.flatten.Nodup := by
      have : (srtN cls.flatten).Nodup := by rw [h1]; exact List.nodup_range
      exact (List.mergeSort_perm _ _).nodup_iff.mp this
    rw [srtC_eq]
    rw [srtN_eq, List.pairwise_map] at h4
    have hp := (List.pairwise_flatten.mp hd).2
    have := h4.and hp
    refine (List.Pairwise.and_mem.mp this).imp ?_
    rintro c d ⟨hc, hd', hcd, hdis⟩
    have nc : c ≠ [] := by simpa using h2 c hc
    have nd : d ≠ [] := by simpa using h2 d hd'
    cases c with
    | nil => exact absurd rfl nc
    | cons x r =>
      cases d with
      | nil => exact absurd rfl nd
      | cons y s =>
        rw [leN_head (hdis x List.mem_cons_self y List.mem_cons_self)]
        simpa using hcd
  · rintro ⟨⟨h1, h2⟩, h3⟩
    refine ⟨⟨⟨h2, fun c hc => by simpa using (h1 c hc).1⟩, fun c hc => (h1 c hc).2⟩, ?_⟩
    have hd : cls.flatten.Nodup := by
      have : (srtN cls.flatten).Nodup := by rw [h2]; exact List.nodup_range
      exact (List.mergeSort_perm _ _).nodup_iff.mp this
    rw [srtN_eq, List.pairwise_map]
    rw [srtC_eq] at h3
    have hp := (List.pairwise_flatten.mp hd).2
    have := h3.and hp
    refine (List.Pairwise.and_mem.mp this).imp ?_
    rintro c d ⟨hc, hd', hcd, hdis⟩
    have nc : c ≠ [] := by simpa using (h1 c hc).1
    have nd : d ≠ [] := by simpa using (h1 d hd').1
    cases c with
    | nil => exact absurd rfl nc
    | cons x r =>
      cases d with
      | nil => exact absurd rfl nd
      | cons y s =>
        rw [leN_head (hdis x List.mem_cons_self y List.mem_cons_self)] at hcd
        simpa using hcd
def restOk (c : List Plc) (cls : List (List Nat)) : Bool := cls.all fun one => one.all fun p => PyData.eqv (cAt c p).kind (cAt c (one.headD 0)).kind && cls.all fun G => decide (into (cAt c p) G = into (cAt c (one.headD 0)) G)
end PL
namespace PL
open PySem PySem.Spec PyProof.Rows L2 DK
section
variable {S : Stt} {vs vs1 : List Nat} {tgt tgt1 : PD → Stt → Option Stt} {α β : Type}
theorem q_lc2 {items items1 : EvL} {cond cond1 : EvB} {elt : Ev} {Q : List PD → Stt → Prop} : O2 (fLc2 items vs tgt cond items1 vs1 tgt1 cond1 elt S) Q ↔ O2 (items S) fun ds s => Nd (noOw s vs = true) (O2 (compL2 vs tgt cond items1 vs1 tgt1 cond1 elt ds (wipeS s vs) []) fun ys s2 => Q ys (unw s s2 vs)) := by
  refine Iff.trans b2 (O2_iff fun ds s => ?_)
  exact Iff.trans O2_if (and_congr Iff.rfl (Iff.trans b2 (O2_iff fun ys s2 => O2_some)))
theorem comp_go {cond : EvB} {elt : Ev} {enc : α → PD} (p : α → Bool) (h : α → PD) : ∀ (l : List α) (acc : List PD), (∀ x ∈ l, Ok (tgt (enc x) S) fun S1 => O2 (cond S1) fun b S2 => b = p x ∧ (p x = true → O2 (elt S2) fun z S3 => z = h x ∧ wipeS S3 vs = S) ∧ (p x = false → wipeS S2 vs = S)) →
      compL vs tgt cond elt (l.map enc) S acc = some (acc ++ (l.filter p).map h, S)
  | [], acc, _ => by
    show some (acc, S) = _
    rw [List.filter_nil, List.map_nil, List.append_nil]
  | x :: r, acc, hs => by
    obtain ⟨S1, e1, b, S2, e2, rfl, h3, h4⟩ := hs x List.mem_cons_self
    have ih := fun acc => comp_go p h r acc fun y hy => hs y (List.mem_cons_of_mem _ hy)
    rw [List.map_cons]
    unfold compL
    rw [e1]
    dsimp only
    rw [e2]
    cases hp : p x with
    | false =>
      dsimp only
      rw [h4 hp, ih, List.filter_cons_of_neg (by rw [hp]; decide)]
    | true =>
      obtain ⟨z, S3, e3, rfl, h5⟩ := h3 hp
      dsimp only
      rw [e3]
      dsimp only
      rw [h5, ih, List.filter_cons_of_pos hp, List.map_cons, List.append_assoc]
      rfl
theorem ok_comp2 {items1 : EvL} {cond1 : EvB} {elt : Ev} {Q : List PD → Stt → Prop} {enc : α → PD} {enc1 : β → PD} {l : List α} (f : α → List β) (p : α → β → Bool) (h : α → β → PD)
    (hs : ∀ x ∈ l, Ok (tgt (enc x) S) fun S1 => O2 (items1 S1) fun es S2 => es = (f x).map enc1 ∧ (∀ y ∈ f x, Ok (tgt1 (enc1 y) (wipeS S2 vs1)) fun S3 => O2 (cond1 S3) fun b S4 => b = p x y ∧ (p x y = true → O2 (elt S4) fun z S5 => z = h x y ∧ wipeS S5 vs1 = wipeS S2 vs1) ∧ (p x y = false → wipeS S4 vs1 = wipeS S2 vs1)) ∧ wipeS (wipeS S2 vs1) vs = S)
    (hb : (l.flatMap fun x => ((f x).filter (p x)).map (h x)).length ≤ 100000) (q : Q (l.flatMap fun x => ((f x).filter (p x)).map (h x)) S) : O2 (compL2 vs tgt bTrue items1 vs1 tgt1 cond1 elt (l.map enc) S []) Q := by
  have go : ∀ (l : List α) (acc : List PD), (∀ x ∈ l, Ok (tgt (enc x) S) fun S1 => O2 (items1 S1) fun es S2 => es = (f x).map enc1 ∧ (∀ y ∈ f x, Ok (tgt1 (enc1 y) (wipeS S2 vs1)) fun S3 => O2 (cond1 S3) fun b S4 => b = p x y ∧ (p x y = true → O2 (elt S4) fun z S5 => z = h x y ∧ wipeS S5 vs1 = wipeS S2 vs1) ∧ (p x y = false → wipeS S4 vs1 = wipeS S2 vs1)) ∧ wipeS (wipeS S2 vs1) vs = S) →
      (acc ++ l.flatMap fun x => ((f x).filter (p x)).map (h x)).length ≤ 100000 → compL2 vs tgt bTrue items1 vs1 tgt1 cond1 elt (l.map enc) S acc = some (acc ++ l.flatMap fun x => ((f x).filter (p x)).map (h x), S) := by
    intro l
    induction l with
    | nil =>
      intro acc _ _
      show some (acc, S) = _
      rw [List.flatMap_nil, List.append_nil]
    | cons x r ih =>
      intro acc hs hb
      obtain ⟨S1, e1, es, S2, e2, rfl, h3, h4⟩ := hs x List.mem_cons_self
      rw [List.map_cons]
      unfold compL2
      rw [e1]
      dsimp only [bTrue]
      rw [e2]
      dsimp only
      rw [comp_go (p x) (h x) (f x) acc h3]
      dsimp only
      rw [List.flatMap_cons, ← List.append_assoc] at hb
      rw [if_pos (by rw [List.length_append] at hb; omega), h4, ih _ (fun y hy => hs y (List.mem_cons_of_mem _ hy)) hb, List.flatMap_cons, List.append_assoc]
  exact ⟨_, _, go l [] hs (by simpa using hb), q⟩
theorem q_slK {a : Ev} {g h : EvO} {k : Int} {Q : List PD → Stt → Prop} : O2 (fSlK a g h k S) Q ↔ O2 (a S) fun d s => O2 (g s) fun lo s1 => O2 (h s1) fun hi s2 => asL d fun xs => Nd (xs.length ≤ 100000 ∧ (pickL xs lo hi (some k)).length ≤ 100000) (Q (pickL xs lo hi (some k)) s2) := by
  refine Iff.trans b2 (O2_iff fun d s => Iff.trans b2 (O2_iff fun lo s1 => Iff.trans b2 (O2_iff fun hi s2 => ?_)))
  dsimp only
  constructor
  · rintro ⟨r, s3, e, q⟩
    split at e
    · rename_i xs
      exact ⟨xs, rfl, (Iff.trans O2_if (and_congr Iff.rfl O2_some)).mp ⟨r, s3, e, q⟩⟩
    · cases e
  · rintro ⟨xs, rfl, q⟩
    exact (Iff.trans O2_if (and_congr Iff.rfl O2_some)).mpr q
theorem pickL_map {α β : Type} (f : α → β) (xs : List α) (lo hi st : Option Int) : pickL (xs.map f) lo hi st = (pickL xs lo hi st).map f := by
  unfold pickL
  rw [List.length_map]
  generalize sliceRange _ _ _ = l
  induction l with
  | nil => rfl
  | cons i l ih =>
    cases h : xs[i]? with
    | none =>
      rw [List.filterMap_cons_none h, List.filterMap_cons_none (by rw [List.getElem?_map, h]; rfl), ih]
    | some x =>
      rw [List.filterMap_cons_some h, List.filterMap_cons_some (b := f x) (by rw [List.getElem?_map, h]; rfl), ih]
      rfl
theorem pickL_mem {α : Type} {xs : List α} {lo hi st : Option Int} {x : α} (h : x ∈ pickL xs lo hi st) : x ∈ xs := by
  unfold pickL at h
  obtain ⟨i, _, e⟩ := List.mem_filterMap.mp h
  exact List.mem_of_getElem? e
theorem pick2_len {α : Type} {xs : List α} (lo : Option Int) (hl : lo = none ∨ lo = some 1) : (pickL xs lo none (some 2)).length ≤ xs.length := by
  unfold pickL
  refine Nat.le_trans (List.length_filterMap_le _ _) ?_
  unfold sliceRange sliceBounds
  rw [List.length_map, List.length_range]
  rcases hl with rfl | rfl
  · simp only [Option.getD]
    split
    · split <;> omega
    · omega
  · simp only [Option.getD]
    split
    · split <;> omega
    · omega
end
end PL
namespace PL
open PySem PySem.Spec PyProof.Rows L2 DK
theorem eqv_nats {a b : List Nat} : PyData.eqv (nats a) (nats b) = decide (a = b) := eqv_dec (nb_nats a) (nb_nats b) nats_inj
theorem o_eqN {n : Bool} {a b : List Nat} {K : PD → Prop} : Ok (gEqN n (nats a) (nats b)) K ↔ K (.bool (n != decide (a = b))) := by
  rw [PL.o_eq (by intro x y e; cases e), eqv_nats]
  exact ⟨fun h => h.2, fun h => ⟨⟨shp_nats, shp_nats⟩, h⟩⟩
theorem o_eqDiv {n : Bool} {a b : List (List Nat)} {K : PD → Prop} : Ok (gEqN n (encDiv a) (encDiv b)) K ↔ K (.bool (n != decide (a = b))) := by
  rw [PL.o_eq (by intro x y e; cases e), eqv_div]
  exact ⟨fun h => h.2, fun h => ⟨⟨shp_div, shp_div⟩, h⟩⟩
theorem o_eqNum {n : Bool} {a b : Rat} {K : PD → Prop} : Ok (gEqN n (num a) (num b)) K ↔ K (.bool (n != decide (a = b))) := by
  rw [PL.o_eq (by intro x y e; cases e), eqv_num]
  exact ⟨fun h => h.2, fun h => ⟨⟨shp_num, shp_num⟩, h⟩⟩
theorem any_div {a : List Nat} {cls : List (List Nat)} : ((cls.map nats).any fun z => PyData.eqv z (nats a)) = decide (a ∈ cls) := by
  rw [List.any_map]
  have : ((fun z => PyData.eqv z (nats a)) ∘ nats) = fun c => decide (c = a) := by
    funext c
    exact eqv_nats
  rw [this]
  rw [Bool.eq_iff_iff]
  simp
end PL
namespace PL
open PySem PySem.Spec PyProof.Rows L2 DK
def isNone : PD → Bool
  | .none => true
  | _ => false
theorem o_isN {n : Bool} {a : PD} {K : PD → Prop} : Ok (gIs n a .none) K ↔ K (.bool (n != isNone a)) := by
  cases a <;> exact Ok_some
end PL
namespace PL
open PySem PySem.Spec PyProof.Rows L2 DK
theorem gfind_any {ms : List PD} {i : Nat} (hi : i < ms.length) (cls : List (List Nat)) : ((cls.map fun c => ms.getD (c.headD 0) .none).any fun z => PyData.eqv z ms[i]) = (gfind ms i cls).isSome ∧ ((cls.map fun c => ms.getD (c.headD 0) .none).findIdx? fun z => PyData.eqv z ms[i]) = gfind ms i cls := by
  have e : ms.getD i .none = ms[i] := by rw [List.getD_eq_getElem?_getD, List.getElem?_eq_getElem hi]; rfl
  constructor
  · unfold gfind
    rw [List.any_map, List.findIdx?_isSome, e]
    rfl
  · unfold gfind
    rw [List.findIdx?_map, e]
    rfl
theorem gseen {ms : List PD} {i : Nat} (hi : i < ms.length) (hm : ∀ d ∈ ms, shpN 4 d = true) : shp (.list ((grp ms i).map fun c => ms.getD (c.headD 0) .none)) = true := by
  refine shpN_mono 5 20 _ (by decide) ?_
  show (List.all _ _) = true
  rw [List.all_eq_true]
  intro x hx
  obtain ⟨c, hc, rfl⟩ := List.mem_map.mp hx
  have := ((grp_dvn ms i).hd hc).2
  rw [List.getD_eq_getElem?_getD, List.getElem?_eq_getElem (by omega)]
  exact hm _ (List.getElem_mem _)
theorem take_marks {c : List Plc} {D : Div} {i : Nat} (hi : i < c.length) : (marks c D).take (i + 1) = (marks c D).take i ++ [mark c D i] := by
  rw [List.take_succ, List.getElem?_eq_getElem (by rw [marks_len]; exact hi)]
  congr 2
  simp [marks]
theorem kinds_eq {c : List Plc} : (List.range c.length).map (fun p => (cAt c p).kind) = kinds c := by
  refine List.ext_getElem (by simp [kinds]) fun i h1 h2 => ?_
  have hi : i < c.length := by simpa using h1
  simp only [List.getElem_map, List.getElem_range, kinds]
  have := cAt_of hi
  rw [List.getElem?_eq_getElem hi] at this
  rw [Option.some.inj this]
theorem eqk {c : List Plc} {k m : Nat} {x y : Plc} (hx : x.ok k m) (hy : y.ok k m) (hk : 1 ≤ k) (hk2 : k ≤ 1000) {n : Bool} {K : PD → Prop} : Ok (gEqN n x.kind y.kind) K ↔ K (.bool (n != PyData.eqv x.kind y.kind)) := by
  rw [PL.o_eq (by intro a b e; cases x <;> cases e)]
  exact ⟨fun h => h.2, fun h => ⟨⟨(shw_kind hx hk (by omega)).shp (by decide), (shw_kind hy hk (by omega)).shp (by decide)⟩, h⟩⟩
theorem all_take {α : Type} {l : List α} {i : Nat} (hi : i < l.length) (p : α → Bool) : (l.take (i + 1)).all p = ((l.take i).all p && p l[i]) := by
  rw [List.take_succ, List.getElem?_eq_getElem hi, List.all_append]
  simp
theorem all_false {α : Type} {l : List α} {i : Nat} (hi : i < l.length) {p : α → Bool} (h : p l[i] = false) : l.all p = false := by
  rw [List.all_eq_false]
  exact ⟨l[i], List.getElem_mem hi, by simp [h]⟩
theorem o_isB {n x y : Bool} {K : PD → Prop} : Ok (gIsB n (.bool x) (.bool y)) K ↔ K (.bool (n != decide (x = y))) := Ok_some
end PL
namespace PL
open PySem PySem.Spec PyProof.Rows L2 DK
/-! ## sums -/
theorem sumQ_foldl (l : List Rat) (a : Rat) : l.foldl (· + ·) a = a + sumQ l := by
  unfold sumQ
  induction l generalizing a with
  | nil => simp [Rat.add_zero]
  | cons x r ih =>
    rw [List.foldl_cons, ih, List.foldl_cons, ih (0 + x)]
    grind
theorem sumQ_nil : sumQ [] = 0 := rfl
theorem sumQ_cons (x : Rat) (l : List Rat) : sumQ (x :: l) = x + sumQ l := by
  show l.foldl (· + ·) (0 + x) = _
  rw [sumQ_foldl]
  grind
theorem sumQ_append (a b : List Rat) : sumQ (a ++ b) = sumQ a + sumQ b := by
  induction a with
  | nil => rw [List.nil_append, sumQ_nil]; grind
  | cons x r ih => rw [List.cons_append, sumQ_cons, sumQ_cons, ih]; grind
theorem sum_div (s : Nat) (hs : 0 < s) : ∀ ps : List Nat, sumQ (ps.map fun (x : Nat) => Rat.divInt (x : Int) (s : Nat)) = Rat.divInt ((ps.sum : Nat) : Int) (s : Nat)
  | [] => by
    rw [List.map_nil, sumQ_nil, List.sum_nil, Rat.divInt_eq_div]
    simp
    grind
  | x :: r => by
    rw [List.map_cons, sumQ_cons, sum_div s hs r, List.sum_cons]
    simp only [Rat.divInt_eq_div]
    have e : (((x + r.sum : Nat) : Int) : Rat) = ((x : Int) : Rat) + (((r.sum : Nat) : Int) : Rat) := by push_cast; rfl
    rw [e]
    grind
theorem div_self_nat (s : Nat) (hs : 0 < s) : Rat.divInt ((s : Nat) : Int) (s : Nat) = 1 := by
  rw [Rat.divInt_eq_div]
  have h : (((s : Nat) : Int) : Rat) ≠ 0 := by
    intro z
    have : ((s : Nat) : Int) = 0 := by exact_mod_cast z
    omega
  grind
theorem div_pos_nat {x s : Nat} (hx : 0 < x) (hs : 0 < s) : 0 < Rat.divInt ((x : Nat) : Int) (s : Nat) := by
  rw [Rat.divInt_eq_div]
  have h1 : (0 : Rat) < (((x : Nat) : Int) : Rat) := by exact_mod_cast hx
  have h2 : (0 : Rat) < (((s : Nat) : Int) : Rat) := by exact_mod_cast hs
  rw [Rat.div_def]
  exact Rat.mul_pos h1 (Rat.inv_pos.mpr h2)
theorem div_nonneg_nat (x : Nat) {s : Nat} (hs : 0 < s) : 0 ≤ Rat.divInt ((x : Nat) : Int) (s : Nat) := by
  by_cases hx : 0 < x
  · have := div_pos_nat hx hs
    grind
  · have : x = 0 := by omega
    subst this
    rw [Rat.divInt_eq_div]
    simp
    grind
/-- the places' chances: above 0, together 1 -/
def Plc.fit : Plc → Prop
  | .rew r _ => 0 ≤ r
  | .draw bs => (∀ b ∈ bs, 0 < b.1) ∧ sumQ (bs.map (·.1)) = 1
  | _ => True
def intoB (bs : List (Rat × Nat)) (G : List Nat) : Rat := sumQ ((bs.filter fun b => decide (b.2 ∈ G)).map (·.1))
theorem into_eq (x : Plc) (G : List Nat) : into x G = intoB x.br G := rfl
theorem intoB_nil (G : List Nat) : intoB [] G = 0 := rfl
theorem intoB_cons (b : Rat × Nat) (bs : List (Rat × Nat)) (G : List Nat) : intoB (b :: bs) G = (if b.2 ∈ G then b.1 else 0) + intoB bs G := by
  unfold intoB
  by_cases h : b.2 ∈ G
  · rw [List.filter_cons_of_pos (by simpa using h), List.map_cons, sumQ_cons, if_pos h]
  · rw [List.filter_cons_of_neg (by simpa using h), if_neg h]
    grind
theorem intoB_congr {bs : List (Rat × Nat)} {A B : List Nat} (h : ∀ b ∈ bs, (b.2 ∈ A ↔ b.2 ∈ B)) : intoB bs A = intoB bs B := by
  unfold intoB
  congr 2
  exact List.filter_congr fun b hb => by simp [h b hb]
theorem intoB_mono {bs : List (Rat × Nat)} {A B : List Nat} (p : ∀ b ∈ bs, 0 ≤ b.1) (h : ∀ b ∈ bs, b.2 ∈ A → b.2 ∈ B) : intoB bs A ≤ intoB bs B := by
  induction bs with
  | nil => rw [intoB_nil, intoB_nil]; grind
  | cons b bs ih =>
    have i := ih (fun b hb => p b (List.mem_cons_of_mem _ hb)) (fun b hb => h b (List.mem_cons_of_mem _ hb))
    have hb := h b List.mem_cons_self
    have pb := p b List.mem_cons_self
    rw [intoB_cons, intoB_cons]
    by_cases h1 : b.2 ∈ A
    · rw [if_pos h1, if_pos (hb h1)]; grind
    · rw [if_neg h1]
      split <;> grind
theorem intoB_append {bs : List (Rat × Nat)} {A B : List Nat} (h : ∀ p ∈ A, p ∉ B) : intoB bs (A ++ B) = intoB bs A + intoB bs B := by
  induction bs with
  | nil => rw [intoB_nil, intoB_nil, intoB_nil]; grind
  | cons b bs ih =>
    rw [intoB_cons, intoB_cons, intoB_cons, ih]
    by_cases h1 : b.2 ∈ A
    · rw [if_pos h1, if_neg (h _ h1), if_pos (List.mem_append_left _ h1)]; grind
    · rw [if_neg h1]
      by_cases h2 : b.2 ∈ B
      · rw [if_pos h2, if_pos (List.mem_append_right _ h2)]; grind
      · rw [if_neg h2, if_neg (by simp [h1, h2])]; grind
theorem intoB_none {bs : List (Rat × Nat)} : intoB bs [] = 0 := by
  unfold intoB
  rw [List.filter_eq_nil_iff.mpr (by simp)]
  rfl
theorem intoB_all {bs : List (Rat × Nat)} {A : List Nat} (h : ∀ b ∈ bs, b.2 ∈ A) : intoB bs A = sumQ (bs.map (·.1)) := by
  unfold intoB
  rw [List.filter_eq_self.mpr fun b hb => by simpa using h b hb]
abbrev Dsj (D : Div) : Prop := D.Pairwise fun a b => ∀ p ∈ a, p ∉ b
theorem Dvn.dsj {n : Nat} {D : Div} (h : Dvn n D) : Dsj D := by
  refine List.pairwise_iff_getElem.mpr ?_
  intro i j hi hj hij p hp hq
  have := h.one i j D[i] D[j] p (List.getElem?_eq_getElem hi) (List.getElem?_eq_getElem hj) hp hq
  omega
theorem dsj_head {G : List Nat} {D : Div} (h : Dsj (G :: D)) : ∀ p ∈ G, p ∉ D.flatten := fun p hp hq => by
  obtain ⟨A, hA, hpA⟩ := List.mem_flatten.mp hq
  exact (List.pairwise_cons.mp h).1 A hA p hp hpA
theorem flat_le {bs es : List (Rat × Nat)} : ∀ {D : Div}, Dsj D → (∀ G ∈ D, intoB bs G ≤ intoB es G) → intoB bs D.flatten ≤ intoB es D.flatten
  | [], _, _ => by rw [List.flatten_nil, intoB_none, intoB_none]; grind
  | G :: D, h, k => by
    rw [List.flatten_cons, intoB_append (dsj_head h), intoB_append (dsj_head h)]
    have := flat_le (bs := bs) (es := es) (List.pairwise_cons.mp h).2 fun G hG => k G (List.mem_cons_of_mem _ hG)
    have := k G List.mem_cons_self
    grind
theorem flat_lt {bs es : List (Rat × Nat)} : ∀ {D : Div}, Dsj D → (∀ G ∈ D, intoB bs G ≤ intoB es G) → (∃ G ∈ D, intoB bs G < intoB es G) → intoB bs D.flatten < intoB es D.flatten
  | [], _, _, ⟨G, hG, _⟩ => by cases hG
  | G :: D, h, k, ⟨A, hA, hlt⟩ => by
    rw [List.flatten_cons, intoB_append (dsj_head h), intoB_append (dsj_head h)]
    have k1 := k G List.mem_cons_self
    have k2 : ∀ G ∈ D, intoB bs G ≤ intoB es G := fun G hG => k G (List.mem_cons_of_mem _ hG)
    have h2 := (List.pairwise_cons.mp h).2
    rcases List.mem_cons.mp hA with z | z
    · subst z
      have := flat_le h2 k2
      grind
    · have := flat_lt h2 k2 ⟨A, z, hlt⟩
      grind
theorem flat_eq {bs es : List (Rat × Nat)} {D : Div} (h : Dsj D) (k : ∀ G ∈ D, intoB bs G = intoB es G) : intoB bs D.flatten = intoB es D.flatten := by
  have a := flat_le (bs := bs) (es := es) h fun G hG => by rw [k G hG]; grind
  have b := flat_le (bs := es) (es := bs) h fun G hG => by rw [k G hG]; grind
  grind
/-- a chain as the laws draw it -/
structure Chn (c : List Plc) : Prop where
  ok : ∀ x ∈ c, x.ok 6 c.length
  fit : ∀ x ∈ c, x.fit
theorem cAt_mem {c : List Plc} {p : Nat} (h : p < c.length) : cAt c p ∈ c := List.mem_of_getElem? (cAt_of h)
theorem Chn.tgt {c : List Plc} (h : Chn c) {p : Nat} (hp : p < c.length) : ∀ b ∈ (cAt c p).br, b.2 < c.length ∧ 0 ≤ b.1 := fun b hb => by
  have o := (Plc.br_ok (h.ok _ (cAt_mem hp)) (by decide)).2 b hb
  refine ⟨o.2, ?_⟩
  have f := h.fit _ (cAt_mem hp)
  generalize cAt c p = x at hb f
  cases x with
  | fin => cases hb
  | lose => cases hb
  | rew r t =>
    have e : b = (1, t) := List.mem_singleton.mp hb
    rw [e]
    show (0 : Rat) ≤ 1
    decide
  | draw bs =>
    have := f.1 b hb
    grind
def total (x : Plc) : Rat := sumQ (x.br.map (·.1))
theorem total_kind {x y : Plc} (fx : x.fit) (fy : y.fit) (h : x.kind = y.kind) : total x = total y := by
  have sx : ∀ {a b : String}, PyData.tuple [.str a] = .tuple [.str b] → Str.ofString a = Str.ofString b := fun e => by
    injection e with e; injection e with e; injection e
  cases x <;> cases y <;> first
    | rfl
    | (exfalso; unfold Plc.kind at h; injection h with h; injection h with h h2; first | (cases h2; done) | skip; injection h with h; exact absurd (PL.str_inj.mp h) (by decide))
    | skip
  rename_i bs es
  exact fx.2.trans fy.2.symm
end PL
namespace PL
open PySem PySem.Spec PyProof.Rows L2 DK
/-! ## who shares a class -/
def Tog (D : Div) (p q : Nat) : Prop := ∃ G ∈ D, p ∈ G ∧ q ∈ G
theorem getD_of {α : Type} {l : List α} {i : Nat} {d : α} (h : i < l.length) : l.getD i d = l[i] := by
  rw [List.getD_eq_getElem?_getD, List.getElem?_eq_getElem h]; rfl
/-- members of a class have the mark of its first, firsts of different classes have different ones -/
structure Grp (ms : List PD) (cls : Div) : Prop where
  same : ∀ c ∈ cls, ∀ p ∈ c, ms.getD p .none = ms.getD (c.headD 0) .none
  diff : ∀ (j k : Nat) (c d : List Nat), cls[j]? = some c → cls[k]? = some d → ms.getD (c.headD 0) .none = ms.getD (d.headD 0) .none → j = k
theorem grp_grp {ms : List PD} (nbm : ∀ d ∈ ms, nb d = true) : ∀ n, n ≤ ms.length → Grp ms (grp ms n)
  | 0, _ => (show Grp ms [] from ⟨fun c h => (by cases h), fun j k c d h => by simp at h⟩)
  | n + 1, hn => by
    have ih := grp_grp nbm n (by omega)
    have dv := grp_dvn ms n
    have nbg : ∀ i, i < ms.length → nb (ms.getD i .none) = true := fun i hi => by rw [getD_of hi]; exact nbm _ (List.getElem_mem _)
    show Grp ms (gstep ms (grp ms n) n)
    unfold gstep
    cases e : gfind ms n (grp ms n) with
    | none =>
      dsimp only
      have no : ∀ c ∈ grp ms n, ms.getD (c.headD 0) .none ≠ ms.getD n .none := fun c hc z => by
        unfold gfind at e
        rw [List.findIdx?_eq_none_iff] at e
        have h1 := e c hc
        have h2 := (eqv_iff _ _ (nbg (c.headD 0) (by have := (dv.hd hc).2; omega)) (nbg n (by omega))).mpr z
        rw [h2] at h1
        cases h1
      have key : ∀ (j : Nat) (c : List Nat), (grp ms n ++ [[n]])[j]? = some c → ((grp ms n)[j]? = some c) ∨ (j = (grp ms n).length ∧ c = [n]) := fun j c hj => by
        by_cases hl : j < (grp ms n).length
        · rw [List.getElem?_append_left hl] at hj; exact .inl hj
        · rw [List.getElem?_append_right (by omega)] at hj
          cases hm : j - (grp ms n).length with
          | zero => rw [hm] at hj; simp at hj; exact .inr ⟨by omega, hj.symm⟩
          | succ m => rw [hm] at hj; simp at hj
      refine ⟨fun c hc p hp => ?_, fun j k c d h1 h2 h3 => ?_⟩
      · rcases List.mem_append.mp hc with z | z
        · exact ih.same c z p hp
        · simp at z; rw [z] at hp ⊢; simp at hp; rw [hp]; rfl
      · rcases key j c h1 with z1 | ⟨z1, rfl⟩
        · rcases key k d h2 with z2 | ⟨z2, rfl⟩
          · exact ih.diff j k c d z1 z2 h3
          · exact absurd h3 (no c (List.mem_of_getElem? z1))
        · rcases key k d h2 with z2 | ⟨z2, rfl⟩
          · exact absurd h3.symm (no d (List.mem_of_getElem? z2))
          · omega
    | some k =>
      dsimp only
      obtain ⟨hk, hp1, _⟩ := List.findIdx?_eq_some_iff_getElem.mp e
      have ek : (grp ms n)[k]? = some (grp ms n)[k] := List.getElem?_eq_getElem hk
      rw [getD_of hk]
      have hm : (grp ms n)[k] ∈ grp ms n := List.getElem_mem hk
      have hd := dv.hd hm
      have heq : ms.getD ((grp ms n)[k].headD 0) .none = ms.getD n .none := (eqv_iff _ _ (nbg _ (by omega)) (nbg n (by omega))).mp hp1
      have hh : ((grp ms n)[k] ++ [n]).headD 0 = (grp ms n)[k].headD 0 := headD_append (dv.ne _ hm) n
      have key : ∀ (j : Nat) (c : List Nat), ((grp ms n).set k ((grp ms n)[k] ++ [n]))[j]? = some c → (j ≠ k ∧ (grp ms n)[j]? = some c) ∨ (j = k ∧ c = (grp ms n)[k] ++ [n]) := fun j c hj => by
        by_cases hl : k = j
        · subst hl
          rw [List.getElem?_set_self hk] at hj
          cases hj
          exact .inr ⟨rfl, rfl⟩
        · rw [List.getElem?_set_ne hl] at hj
          exact .inl ⟨fun z => hl z.symm, hj⟩
      refine ⟨fun c hc p hp => ?_, fun j l c d h1 h2 h3 => ?_⟩
      · obtain ⟨j, hj⟩ := List.mem_iff_getElem?.mp hc
        rcases key j c hj with ⟨_, z⟩ | ⟨_, z⟩
        · exact ih.same c (List.mem_of_getElem? z) p hp
        · rw [z, hh]
          rw [z] at hp
          rcases List.mem_append.mp hp with w | w
          · exact ih.same _ hm p w
          · simp at w; rw [w]; exact heq.symm
      · rcases key j c h1 with ⟨n1, z1⟩ | ⟨rfl, rfl⟩
        · rcases key l d h2 with ⟨n2, z2⟩ | ⟨rfl, rfl⟩
          · exact ih.diff j l c d z1 z2 h3
          · rw [hh] at h3
            exact absurd (ih.diff j l c _ z1 ek h3) n1
        · rcases key l d h2 with ⟨n2, z2⟩ | ⟨rfl, rfl⟩
          · rw [hh] at h3
            exact absurd (ih.diff j l _ d ek z2 h3).symm n2
          · rfl
theorem tog_grp {ms : List PD} {n p q : Nat} (nbm : ∀ d ∈ ms, nb d = true) (hn : n ≤ ms.length) (hp : p < n) (hq : q < n) : Tog (grp ms n) p q ↔ ms.getD p .none = ms.getD q .none := by
  have g := grp_grp nbm n hn
  have dv := grp_dvn ms n
  constructor
  · rintro ⟨G, hG, h1, h2⟩
    rw [g.same G hG p h1, g.same G hG q h2]
  · intro h
    obtain ⟨c, hc, h1⟩ := (dv.mem p).mpr hp
    obtain ⟨d, hd, h2⟩ := (dv.mem q).mpr hq
    obtain ⟨j, hj⟩ := List.mem_iff_getElem?.mp hc
    obtain ⟨k, hk⟩ := List.mem_iff_getElem?.mp hd
    have := g.diff j k c d hj hk (by rw [← g.same c hc p h1, ← g.same d hd q h2, h])
    subst this
    rw [hj] at hk
    cases hk
    exact ⟨c, hc, h1, h2⟩
theorem nb_kind (x : Plc) : nb x.kind = true := by cases x <;> rfl
theorem nb_kinds (c : List Plc) : ∀ d ∈ kinds c, nb d = true := fun d hd => by
  obtain ⟨x, _, rfl⟩ := List.mem_map.mp hd
  exact nb_kind x
theorem nb_marks (c : List Plc) (D : Div) : ∀ d ∈ marks c D, nb d = true := fun d hd => by
  obtain ⟨p, _, rfl⟩ := List.mem_map.mp hd
  show (true && (nbL _ && true)) = true
  rw [Bool.true_and, Bool.and_true, nbL_iff]
  intro x hx
  obtain ⟨G, _, rfl⟩ := List.mem_map.mp hx
  rfl
theorem kinds_at {c : List Plc} {p : Nat} (h : p < c.length) : (kinds c).getD p .none = (cAt c p).kind := by
  unfold kinds
  rw [List.getD_eq_getElem?_getD, List.getElem?_map, cAt_of h]
  rfl
theorem marks_at {c : List Plc} {D : Div} {p : Nat} (h : p < c.length) : (marks c D).getD p .none = mark c D p := by
  unfold marks
  rw [List.getD_eq_getElem?_getD, List.getElem?_map, List.getElem?_range h]
  rfl
theorem tog0 {c : List Plc} {p q : Nat} (hp : p < c.length) (hq : q < c.length) : Tog (div0 c) p q ↔ (cAt c p).kind = (cAt c q).kind := by
  unfold div0
  rw [tog_grp (nb_kinds c) (by rw [kinds_len]; exact Nat.le_refl _) hp hq, kinds_at hp, kinds_at hq]
/-- together in the next round: together before, with the same chance into each class -/
theorem tog_nxt {c : List Plc} {D : Div} {p q : Nat} (dv : Dvn c.length D) (hp : p < c.length) (hq : q < c.length) : Tog (nxt c D) p q ↔ Tog D p q ∧ ∀ G ∈ D, into (cAt c p) G = into (cAt c q) G := by
  unfold nxt
  rw [tog_grp (nb_marks c D) (by rw [marks_len]; exact Nat.le_refl _) hp hq, marks_at hp, marks_at hq]
  obtain ⟨j, a, j1, j2, j3⟩ := dv.cix_some hp
  obtain ⟨k, b, k1, k2, k3⟩ := dv.cix_some hq
  have hc : Tog D p q ↔ j = k := by
    have := dv.cix_eq hp hq
    rw [j1, k1] at this
    exact this.symm.trans (by simp)
  rw [hc]
  unfold mark
  rw [j1, k1]
  constructor
  · intro h
    injection h with h
    injection h with h1 h
    injection h with h2 _
    injection h1 with h1
    injection h2 with h2
    refine ⟨by simp at h1; omega, fun G hG => ?_⟩
    have := (List.map_inj_left.mp h2) G hG
    exact num_inj.mp this
  · rintro ⟨rfl, h⟩
    have : (D.map fun G => num (into (cAt c p) G)) = D.map fun G => num (into (cAt c q) G) := List.map_congr_left fun G hG => by rw [h G hG]
    rw [this]
/-! ## the rounds, one after another -/
structure Seqd (c : List Plc) (f : List Div) : Prop where
  z : f[0]? = some (div0 c)
  s : ∀ (i : Nat) (D E : Div), f[i]? = some D → f[i + 1]? = some E → E = nxt c D
theorem seqd0 (c : List Plc) : Seqd c [div0 c] := ⟨rfl, fun i D E h1 h2 => by simp at h2⟩
theorem Seqd.more {c : List Plc} {f : List Div} (h : Seqd c f) (R : Rnd c f) : Seqd c (f ++ [nxt c (f.getLastD [])]) := by
  have hl : 0 < f.length := List.length_pos_iff.mpr R.ne
  refine ⟨by rw [List.getElem?_append_left hl]; exact h.z, fun i D E h1 h2 => ?_⟩
  by_cases hi : i + 1 < f.length
  · rw [List.getElem?_append_left hi] at h2
    rw [List.getElem?_append_left (by omega)] at h1
    exact h.s i D E h1 h2
  · rw [List.getElem?_append_right (by omega)] at h2
    cases hm : i + 1 - f.length with
    | zero =>
      rw [hm] at h2
      simp at h2
      rw [← h2]
      rw [List.getElem?_append_left (by omega)] at h1
      congr 1
      rw [List.getLast?_eq_getElem?, show f.length - 1 = i by omega, h1]
      rfl
    | succ m => rw [hm] at h2; simp at h2
theorem rds_seqd {c : List Plc} : ∀ {m : Nat} {f : List Div}, Rnd c f → Seqd c f → Seqd c (rds c m f)
  | 0, _, _, h => h
  | m + 1, f, R, h => by
    unfold rds
    split
    · exact h
    · exact rds_seqd R.more (h.more R)
/-- the kinds asked for are tuples -/
def Tst.kt : Tst → Prop
  | .knd d => ∃ xs, d = .tuple xs
  | .not t => t.kt
  | .both t u => t.kt ∧ u.kt
  | .next _ t => t.kt
theorem kind_tup (x : Plc) : ∃ xs, x.kind = .tuple xs := by cases x <;> exact ⟨_, rfl⟩
/-! ## tests do not tell alike ones apart -/
theorem mem_pass_next {c : List Plc} {w : Rat} {t : Tst} {p : Nat} (hp : p < c.length) : p ∈ pass c (.next w t) ↔ ¬ into (cAt c p) (pass c t) < w := by
  show p ∈ (List.range c.length).filter _ ↔ _
  rw [List.mem_filter, cAt_of hp]
  simp [hp]
theorem mem_pass_knd {c : List Plc} {d : PD} {p : Nat} (hp : p < c.length) : p ∈ pass c (.knd d) ↔ PyData.eqv (cAt c p).kind d = true := by
  show p ∈ (List.range c.length).filter _ ↔ _
  rw [List.mem_filter, cAt_of hp]
  simp [hp]
theorem mem_pass_not {c : List Plc} {t : Tst} {p : Nat} (hp : p < c.length) : p ∈ pass c (.not t) ↔ p ∉ pass c t := by
  show p ∈ (List.range c.length).filter _ ↔ _
  rw [List.mem_filter]
  simp [hp]
theorem mem_pass_both {c : List Plc} {t u : Tst} {p : Nat} : p ∈ pass c (.both t u) ↔ p ∈ pass c t ∧ p ∈ pass c u := by
  show p ∈ (pass c t).filter _ ↔ _
  rw [List.mem_filter]
  simp
theorem deep_nn : ∀ t : Tst, 0 ≤ t.deep
  | .knd _ => Int.le_refl _
  | .not t => deep_nn t
  | .both t u => by have := deep_nn t; show 0 ≤ max t.deep u.deep; omega
  | .next _ t => by have := deep_nn t; show 0 ≤ 1 + t.deep; omega
theorem blind {c : List Plc} (C : Chn c) {f : List Div} (R : Rnd c f) (Sq : Seqd c f) : ∀ (t : Tst) (i : Nat) (D : Div), f[i]? = some D → t.deep ≤ i → ∀ p q, Tog D p q → p < c.length → q < c.length → p ∈ pass c t → q ∈ pass c t := by
  have low : ∀ (i : Nat) (D : Div), f[i]? = some D → ∀ p q, p < c.length → q < c.length → Tog D p q → (cAt c p).kind = (cAt c q).kind := by
    intro i
    induction i with
    | zero =>
      intro D h p q hp hq ht
      rw [Sq.z] at h
      cases h
      exact (tog0 hp hq).mp ht
    | succ i ih =>
      intro D h p q hp hq ht
      have hi := (List.getElem?_eq_some_iff.mp h).1
      have e := List.getElem?_eq_getElem (l := f) (i := i) (by omega)
      have := Sq.s i _ D e h
      rw [this] at ht
      exact ih _ e p q hp hq ((tog_nxt (R.dv _ (List.getElem_mem _)).1 hp hq).mp ht).1
  intro t
  induction t with
  | knd d =>
    intro i D h _ p q ht hp hq hpp
    rw [mem_pass_knd hp] at hpp
    rw [mem_pass_knd hq, ← low i D h p q hp hq ht]
    exact hpp
  | not t ih =>
    intro i D h hd p q ht hp hq hpp
    rw [mem_pass_not hp] at hpp
    rw [mem_pass_not hq]
    obtain ⟨G, hG, g1, g2⟩ := ht
    exact fun z => hpp (ih i D h hd q p ⟨G, hG, g2, g1⟩ hq hp z)
  | both t u ih1 ih2 =>
    intro i D h hd p q ht hp hq hpp
    have hd' : max t.deep u.deep ≤ i := hd
    rw [mem_pass_both] at hpp ⊢
    exact ⟨ih1 i D h (by omega) p q ht hp hq hpp.1, ih2 i D h (by omega) p q ht hp hq hpp.2⟩
  | next w t ih =>
    intro i D h hd p q ht hp hq hpp
    have hd' : 1 + t.deep ≤ i := hd
    have dn := deep_nn t
    cases i with
    | zero => omega
    | succ i =>
      have hi := (List.getElem?_eq_some_iff.mp h).1
      have e := List.getElem?_eq_getElem (l := f) (i := i) (by omega)
      have dv := (R.dv _ (List.getElem_mem (by omega : i < f.length))).1
      have en := Sq.s i _ D e h
      rw [en] at ht
      obtain ⟨_, hG⟩ := (tog_nxt dv hp hq).mp ht
      rw [mem_pass_next hp] at hpp
      rw [mem_pass_next hq]
      have key : into (cAt c p) (pass c t) = into (cAt c q) (pass c t) := by
        rw [into_eq, into_eq]
        -- the classes whose first passes
        have un : ∀ x, x < c.length → (x ∈ pass c t ↔ x ∈ (f[i].filter fun G => decide (G.headD 0 ∈ pass c t)).flatten) := fun x hx => by
          constructor
          · intro hx2
            obtain ⟨G, g1, g2⟩ := (dv.mem x).mpr hx
            refine List.mem_flatten.mpr ⟨G, List.mem_filter.mpr ⟨g1, ?_⟩, g2⟩
            have hh := dv.hd g1
            simpa using ih i _ e (by omega) x (G.headD 0) ⟨G, g1, g2, hh.1⟩ hx hh.2 hx2
          · intro hx2
            obtain ⟨G, g1, g2⟩ := List.mem_flatten.mp hx2
            obtain ⟨g3, g4⟩ := List.mem_filter.mp g1
            have hh := dv.hd g3
            exact ih i _ e (by omega) (G.headD 0) x ⟨G, g3, hh.1, g2⟩ hh.2 hx (by simpa using g4)
        rw [intoB_congr fun b hb => un b.2 (C.tgt hp b hb).1, intoB_congr (bs := (cAt c q).br) fun b hb => un b.2 (C.tgt hq b hb).1]
        exact flat_eq (dv.dsj.filter _) fun G g1 => by
          have := hG G (List.mem_filter.mp g1).1
          rw [into_eq, into_eq] at this
          exact this
      rw [← key]
      exact hpp
/-- where a place goes more than another one of its class, unless they stay together -/
theorem wider {c : List Plc} (C : Chn c) {D : Div} (dv : Dvn c.length D) {p q : Nat} (hp : p < c.length) (hq : q < c.length) (ht : Tog D p q) (hk : (cAt c p).kind = (cAt c q).kind) (hn : ¬ Tog (nxt c D) p q) : ∃ G ∈ D, into (cAt c q) G < into (cAt c p) G := by
  by_cases h : ∃ G ∈ D, into (cAt c q) G < into (cAt c p) G
  · exact h
  · have le : ∀ G ∈ D, intoB (cAt c p).br G ≤ intoB (cAt c q).br G := fun G hG => by
      have : ¬ into (cAt c q) G < into (cAt c p) G := fun z => h ⟨G, hG, z⟩
      rw [into_eq, into_eq] at this
      grind
    have all : ∀ {x}, x < c.length → intoB (cAt c x).br D.flatten = total (cAt c x) := fun {x} hx => intoB_all fun b hb => by
      obtain ⟨G, g1, g2⟩ := (dv.mem b.2).mpr (C.tgt hx b hb).1
      exact List.mem_flatten.mpr ⟨G, g1, g2⟩
    have tot := total_kind (C.fit _ (cAt_mem hp)) (C.fit _ (cAt_mem hq)) hk
    have ne : ∃ G ∈ D, into (cAt c p) G ≠ into (cAt c q) G := by
      by_cases h2 : ∃ G ∈ D, into (cAt c p) G ≠ into (cAt c q) G
      · exact h2
      · exact absurd ((tog_nxt dv hp hq).mpr ⟨ht, fun G hG => Classical.not_not.mp fun z => h2 ⟨G, hG, z⟩⟩) hn
    obtain ⟨G, hG, hne⟩ := ne
    have := flat_lt (bs := (cAt c p).br) (es := (cAt c q).br) dv.dsj le ⟨G, hG, by
      have := le G hG
      rw [into_eq, into_eq] at hne
      grind⟩
    rw [all hp, all hq, tot] at this
    grind
theorem none_both {n : Nat} {D : Div} (h : Dvn n D) {p q : Nat} (hp : p < n) (hq : q < n) : ((D.filter fun G => decide (p ∈ G) && decide (q ∈ G)).length = 0) ↔ cix D p ≠ cix D q := by
  rw [List.length_eq_zero_iff, List.filter_eq_nil_iff, Ne, h.cix_eq hp hq]
  simp only [Bool.and_eq_true, decide_eq_true_eq, not_exists, not_and]
end PL
namespace PL
open PySem PySem.Spec PyProof.Rows L2 DK
section
variable {S : Stt} {a b : Ev} {f : EvL} {c : EvB} {g : EvSt} {i j n N : Nat} {R : Out → Prop}
def fz : Sl → Sl
  | .ow xs => .sh (.list xs)
  | .nst yss => .sh (.list (yss.map PyData.list))
  | x => x
theorem frz_zero {x : Sl} : frz 0 (x :: S) = fz x :: S := by cases x <;> rfl
theorem frz_succ {x : Sl} : frz (n + 1) (x :: S) = x :: frz n S := by
  unfold frz
  rw [List.getElem?_cons_succ]
  cases h : S[n]? with
  | none => rfl
  | some y => cases y <;> rfl
theorem fz_fv {o : Option PD} : fz (fv o) = fv o := by cases o <;> rfl
theorem fz_ow {xs : List PD} : fz (.ow xs) = .sh (.list xs) := rfl
theorem fz_nst {xs : List (List PD)} : fz (.nst xs) = .sh (.list (xs.map PyData.list)) := rfl
theorem fz_sh {x : PD} : fz (.sh x) = .sh x := rfl
theorem fz_no : fz .no = .no := rfl
theorem frzL_nil : frzL [] S = S := rfl
theorem frzL_cons {is : List Nat} : frzL (i :: is) S = frzL is (frz i S) := rfl
theorem free_nil : freeS [] = true := rfl
theorem free_cons {x : Sl} : freeS (x :: S) = (!isOn (some x) && freeS S) := rfl
theorem p_nst1 : Ok (sNst1 (i + 1) f S) R ↔ Nd (i + 1 < S.length) (O2 (f S) fun zs s => R (.nx (s.set (i + 1) (.nst [zs])))) := by
  unfold sNst1
  constructor
  · rintro ⟨o, e, q⟩
    split at e
    · cases e
    · rename_i h
      simp only [not_or, Classical.not_not] at h
      split at e
      · rename_i zs S1 h1; cases e; exact ⟨h.2, zs, S1, h1, q⟩
      · cases e
  · rintro ⟨h, zs, s, e, q⟩
    rw [if_neg (by omega), e]
    exact ⟨_, rfl, q⟩
theorem p_pushM : Ok (sPushM (i + 1) (j + 1) S) R ↔ Nd (i ≠ j) (Ns S[i + 1]? fun yss => Ow S[j + 1]? fun zs => Nd (yss.length < 100000) (R (.nx ((S.set (j + 1) .no).set (i + 1) (.nst (yss ++ [zs])))))) := by
  unfold sPushM
  constructor
  · rintro ⟨o, e, q⟩
    split at e
    · cases e
    · rename_i h
      split at e
      · rename_i yss zs e1 e2
        split at e
        · rename_i hl; cases e; exact ⟨by omega, yss, e1, zs, e2, hl, q⟩
        · cases e
      · cases e
  · rintro ⟨h, yss, e1, zs, e2, hl, q⟩
    rw [if_neg (by omega), e1, e2]
    dsimp only
    rw [if_pos hl]
    exact ⟨_, rfl, q⟩
theorem p_setN {gg : List PD → Option (List (List PD))} : Ok (sSetN (i + 1) gg f S) R ↔ Nd (i + 1 < S.length) (O2 (f S) fun ds s => Ok (gg ds) fun yss => R (.nx (s.set (i + 1) (.nst yss)))) := by
  unfold sSetN
  constructor
  · rintro ⟨o, e, q⟩
    split at e
    · cases e
    · rename_i h
      simp only [not_or, Classical.not_not] at h
      split at e
      · rename_i ds S1 e1
        split at e
        · rename_i yss e2; cases e; exact ⟨h.2, ds, S1, e1, yss, e2, q⟩
        · cases e
      · cases e
  · rintro ⟨h, ds, s, e1, yss, e2, q⟩
    rw [if_neg (by omega), e1]
    dsimp only
    rw [e2]
    exact ⟨_, rfl, q⟩
theorem q_fshow {Q : List PD → Stt → Prop} : O2 (fShow i f S) Q ↔ Ns S[i]? fun yss => Nd (freeS (S.set i .no) = true ∧ yss.all isDiv = true ∧ yss ≠ []) (O2 (f (frz i S)) fun zs _ => Nd (zs.all isCls = true) (Q zs S)) := by
  unfold fShow
  constructor
  · rintro ⟨zs, s, e, q⟩
    split at e
    · rename_i yss e1
      split at e
      · rename_i hc
        simp only [Bool.and_eq_true, Bool.not_eq_true'] at hc
        split at e
        · rename_i zs' s' e2
          split at e
          · rename_i hz; cases e; exact ⟨yss, e1, ⟨hc.1.1, hc.1.2, fun z => by rw [z] at hc; cases hc.2⟩, zs, s', e2, hz, q⟩
          · cases e
        · cases e
      · cases e
    · cases e
  · rintro ⟨yss, e1, ⟨h1, h2, h3⟩, zs, s, e2, hz, q⟩
    rw [e1]
    have h4 : yss.isEmpty = false := by cases yss with
      | nil => exact absurd rfl h3
      | cons _ _ => rfl
    refine ⟨zs, S, ?_, q⟩
    dsimp only
    rw [h1, h2, h4]
    simp only [Bool.and_self, Bool.not_false, if_true]
    rw [e2]
    dsimp only
    rw [if_pos hz]
theorem q_bshow {is : List Nat} {Q : Bool → Stt → Prop} : O2 (bShow is c S) Q ↔ Nd (freeS (frzL is S) = true) (O2 (c (frzL is S)) fun b _ => Q b S) := by
  unfold bShow
  constructor
  · rintro ⟨b, s, e, q⟩
    split at e
    · rename_i h
      split at e
      · rename_i b' s' e2; cases e; exact ⟨h, b, s', e2, q⟩
      · cases e
    · cases e
  · rintro ⟨h, b, s, e, q⟩
    rw [if_pos h, e]
    exact ⟨b, S, rfl, q⟩
theorem w_toF {gg : List PD → Option (List (List PD))} {ds : List PD} {Q : List PD → Prop} : Ok (toF gg ds) Q ↔ Ok (gg ds) fun yss => Q (yss.map PyData.list) := by
  unfold toF
  constructor
  · rintro ⟨ys, e, q⟩
    cases h : gg ds with
    | none => rw [h] at e; cases e
    | some yss => rw [h] at e; cases e; exact ⟨yss, rfl, q⟩
  · rintro ⟨yss, e, q⟩
    rw [e]
    exact ⟨_, rfl, q⟩
def kN (i : Nat) (Q : List (List PD) → Prop) : Out → Prop
  | .nx S => Ns S[i]? Q
  | _ => False
theorem kN_nx {Q : List (List PD) → Prop} : kN i Q (.nx S) ↔ Ns S[i]? Q := Iff.rfl
theorem w_N {ds : List PD} {Q : List (List PD) → Prop} : Ok (defN N n (i + 1) g ds) Q ↔ Nd (ds.length = n) (Ok (g (ini N (ds.map Sl.sh))) (kN (i + 1) Q)) := by
  unfold defN
  constructor
  · rintro ⟨yss, e, q⟩
    split at e
    · rename_i h
      obtain ⟨S', e1, e2⟩ := resN_some e
      exact ⟨h.1, _, e1, yss, e2, q⟩
    · cases e
  · rintro ⟨h, o, e, q⟩
    rw [if_pos ⟨h, by omega⟩, e]
    cases o with
    | nx S' =>
      obtain ⟨yss, e2, q⟩ := q
      refine ⟨yss, ?_, q⟩
      unfold resN
      dsimp only
      rw [e2]
    | _ => exact q.elim
theorem div_all {f : List Div} (h : ∀ D ∈ f, D ≠ []) : (f.map fun D => D.map nats).all isDiv = true := by
  rw [List.all_map, List.all_eq_true]
  intro D hD
  cases D with
  | nil => exact absurd rfl (h _ hD)
  | cons x r => rfl
theorem cls_all {D : Div} (h : ∀ G ∈ D, G ≠ []) : (D.map nats).all isCls = true := by
  rw [List.all_map, List.all_eq_true]
  intro G hG
  cases G with
  | nil => exact absurd rfl (h _ hG)
  | cons x r =>
    show (List.map _ r).all _ = true
    rw [List.all_map, List.all_eq_true]
    intro y _
    rfl
/-- the end of the law: the divisions are looked at and changed -/
theorem p_tail {d o : Nat} {yss : List (List PD)} (h : ¬ (i = 0 ∨ i = d ∨ i = o ∨ d = o ∨ isOn S[d]? = true ∨ isOn S[o]? = true ∨ ¬ (d < S.length ∧ o < S.length) ∨ freeS (S.set i .no) = false)) (e : S[i]? = some (.nst yss))
    (hc : ∀ ys ∈ yss, ys.length < 100000 ∧ ∀ cls ∈ ys, O2 (c (((S.set i .no).set d .no).set o (.sh cls))) fun b _ => b = false) (hf : O2 (f (((S.set i .no).set d .no).set o .no)) fun zs _ => R (.nx ((((S.set i .no).set d .no).set o .no).set i (.nst (yss.map fun ys => ys ++ [.list zs]))))) : Ok (sTail i d o c f S) R := by
  unfold sTail
  rw [if_neg h, e]
  dsimp only
  obtain ⟨zs, s, e2, q⟩ := hf
  rw [if_pos ?_, e2]
  · exact ⟨_, rfl, q⟩
  · simp only [List.all_eq_true, Bool.and_eq_true, decide_eq_true_eq]
    intro ys hys
    obtain ⟨h1, h2⟩ := hc ys hys
    refine ⟨h1, fun cls hcls => ?_⟩
    obtain ⟨b, s2, e3, rfl⟩ := h2 cls hcls
    rw [e3]
    rfl
end
end PL
namespace PL
open PySem PySem.Spec PyProof.Rows L2 DK
theorem q_rng2 {S : Stt} {a b : Ev} {Q : List PD → Stt → Prop} : O2 (DK.iRng2 (aCons a (aCons b aNil)) S) Q ↔ O2 (a S) fun d s => O2 (b s) fun e s2 => asI d fun i => asI e fun j => Nd (okR i = true ∧ okR j = true) (Q (rng i (j - i).toNat) s2) := by
  constructor
  · rintro ⟨ds, s, e, q⟩
    unfold DK.iRng2 at e
    split at e
    · rename_i i j S1 h
      split at e
      · rename_i hr
        cases e
        rw [Bool.and_eq_true] at hr
        obtain ⟨d, s1, e1, ds1, s2, e2, h3, h4⟩ := q_cons.mp (⟨_, _, h, rfl, rfl⟩ : O2 _ fun ds' s2 => ds' = [PyData.int i, PyData.int j] ∧ s2 = s)
        obtain ⟨d2, s3, e5, ds2, s4, e6, h7⟩ := q_cons.mp (⟨_, _, e2, rfl, rfl⟩ : O2 _ fun ds' s' => ds' = ds1 ∧ s' = s2)
        cases e6
        obtain ⟨h7, h8⟩ := h7
        subst h7 h8
        cases h3
        subst h4
        exact ⟨_, _, e1, _, _, e5, i, rfl, j, rfl, hr, q⟩
      · cases e
    · cases e
  · rintro ⟨d, s1, e1, d2, s2, e2, i, rfl, j, rfl, hr, q⟩
    refine ⟨_, s2, ?_, q⟩
    have : aCons a (aCons b aNil) S = some ([.int i, .int j], s2) := by
      unfold aCons
      rw [e1]
      dsimp only [bind, Option.bind]
      rw [e2]
      rfl
    unfold DK.iRng2
    rw [this]
    dsimp only
    rw [if_pos (by rw [Bool.and_eq_true]; exact hr)]
end PL
namespace PL
open PySem PySem.Spec PyProof.Rows L2 DK
/-! ## a division is told by what lies together -/
theorem asc_ext : ∀ {a b : List Nat}, a.Pairwise (· < ·) → b.Pairwise (· < ·) → (∀ x, x ∈ a ↔ x ∈ b) → a = b
  | [], [], _, _, _ => rfl
  | [], y :: b, _, _, h => by have := (h y).mpr List.mem_cons_self; cases this
  | x :: a, [], _, _, h => by have := (h x).mp List.mem_cons_self; cases this
  | x :: a, y :: b, ha, hb, h => by
    have ha' := List.pairwise_cons.mp ha
    have hb' := List.pairwise_cons.mp hb
    have e : x = y := by
      rcases List.mem_cons.mp ((h x).mp List.mem_cons_self) with z | z
      · exact z
      · rcases List.mem_cons.mp ((h y).mpr List.mem_cons_self) with w | w
        · exact w.symm
        · have := hb'.1 x z
          have := ha'.1 y w
          omega
    subst e
    rw [asc_ext ha'.2 hb'.2 fun z => ?_]
    constructor
    · intro hz
      rcases List.mem_cons.mp ((h z).mp (List.mem_cons_of_mem _ hz)) with w | w
      · have := ha'.1 z hz
        omega
      · exact w
    · intro hz
      rcases List.mem_cons.mp ((h z).mpr (List.mem_cons_of_mem _ hz)) with w | w
      · have := hb'.1 z hz
        omega
      · exact w
theorem head_min {c : List Nat} (h : c.Pairwise (· < ·)) {q : Nat} (hq : q ∈ c) : c.headD 0 ≤ q := by
  cases c with
  | nil => cases hq
  | cons x r =>
    rcases List.mem_cons.mp hq with z | z
    · rw [z]; exact Nat.le_refl _
    · exact Nat.le_of_lt ((List.pairwise_cons.mp h).1 q z)
theorem Dvn.cls_eq {n : Nat} {D : Div} (h : Dvn n D) {c d : List Nat} (hc : c ∈ D) (hd : d ∈ D) {p : Nat} (h1 : p ∈ c) (h2 : p ∈ d) : c = d := by
  obtain ⟨i, hi, ei⟩ := List.mem_iff_getElem.mp hc
  obtain ⟨j, hj, ej⟩ := List.mem_iff_getElem.mp hd
  have e1 : D[i]? = some c := by rw [List.getElem?_eq_getElem hi, ei]
  have e2 : D[j]? = some d := by rw [List.getElem?_eq_getElem hj, ej]
  have := h.one i j c d p e1 e2 h1 h2
  subst this
  rw [e1] at e2
  exact Option.some.inj e2
theorem Dvn.first {n : Nat} {D : Div} (h : Dvn n D) {x : Nat} : x ∈ D.map (fun c => c.headD 0) ↔ x < n ∧ ∀ q, Tog D q x → x ≤ q := by
  constructor
  · intro hx
    obtain ⟨c, hc, rfl⟩ := List.mem_map.mp hx
    obtain ⟨h1, h2⟩ := h.hd hc
    refine ⟨h2, fun q ⟨G, hG, q1, q2⟩ => ?_⟩
    have := h.cls_eq hG hc q2 h1
    subst this
    exact head_min (h.up _ hG) q1
  · rintro ⟨hx, hm⟩
    obtain ⟨c, hc, hxc⟩ := (h.mem x).mpr hx
    obtain ⟨h1, h2⟩ := h.hd hc
    have := hm _ ⟨c, hc, h1, hxc⟩
    have := head_min (h.up _ hc) hxc
    exact List.mem_map.mpr ⟨c, hc, by omega⟩
theorem Tog.lt {n : Nat} {D : Div} (h : Dvn n D) {p q : Nat} (t : Tog D p q) : p < n ∧ q < n := by
  obtain ⟨G, hG, h1, h2⟩ := t
  exact ⟨h.lt hG h1, h.lt hG h2⟩
theorem dvn_ext {n : Nat} {D E : Div} (h : Dvn n D) (h' : Dvn n E) (t : ∀ p q, p < n → q < n → (Tog D p q ↔ Tog E p q)) : D = E := by
  have tt : ∀ p q, Tog D p q ↔ Tog E p q := fun p q => ⟨fun z => (t p q (z.lt h).1 (z.lt h).2).mp z, fun z => (t p q (z.lt h').1 (z.lt h').2).mpr z⟩
  have ef : D.map (fun c => c.headD 0) = E.map (fun c => c.headD 0) := asc_ext h.fst h'.fst fun x => by
    rw [h.first, h'.first]
    simp only [tt]
  have el : D.length = E.length := by
    have := congrArg List.length ef
    simpa using this
  refine List.ext_getElem el fun i h1 h2 => ?_
  have e : D[i].headD 0 = E[i].headD 0 := by
    have := congrArg (fun l => l[i]?) ef
    simp only [List.getElem?_map, List.getElem?_eq_getElem h1, List.getElem?_eq_getElem h2, Option.map_some] at this
    exact Option.some.inj this
  have m1 := List.getElem_mem h1
  have m2 := List.getElem_mem h2
  obtain ⟨a1, _⟩ := h.hd m1
  obtain ⟨a2, _⟩ := h'.hd m2
  refine asc_ext (h.up _ m1) (h'.up _ m2) fun x => ⟨fun hx => ?_, fun hx => ?_⟩
  · obtain ⟨G, hG, g1, g2⟩ := (tt (D[i].headD 0) x).mp ⟨_, m1, a1, hx⟩
    rw [e] at g1
    rw [h'.cls_eq m2 hG a2 g1]
    exact g2
  · obtain ⟨G, hG, g1, g2⟩ := (tt (E[i].headD 0) x).mpr ⟨_, m2, a2, hx⟩
    rw [← e] at g1
    rw [h.cls_eq m1 hG a1 g1]
    exact g2
theorem tog_self {n : Nat} {D : Div} (h : Dvn n D) {p : Nat} (hp : p < n) : Tog D p p := by
  obtain ⟨c, hc, hx⟩ := (h.mem p).mpr hp
  exact ⟨c, hc, hx, hx⟩
theorem nxt_dvn (c : List Plc) (D : Div) : Dvn c.length (nxt c D) := grp_dvn _ _
theorem div0_dvn (c : List Plc) : Dvn c.length (div0 c) := grp_dvn _ _
/-! ## rounds that part one more distance each -/
/-- the division in which those of a step lie together, and all that are farther than t -/
def Cut (n : Nat) (s r : Nat → Nat) (t : Nat) (D : Div) : Prop := ∀ p q, p < n → q < n → (Tog D p q ↔ s p = s q ∨ (t < r p ∧ t < r q))
structure Lay (c : List Plc) (s r : Nat → Nat) : Prop where
  z : Cut c.length s r 0 (div0 c)
  n : ∀ (t : Nat) (D : Div), Dvn c.length D → Cut c.length s r t D → Cut c.length s r (t + 1) (nxt c D)
theorem Lay.run {c : List Plc} {s r : Nat → Nat} (h : Lay c s r) : ∀ (m : Nat) (t : Nat) (f : List Div), Rnd c f → Cut c.length s r t (f.getLastD []) → ∃ u, t ≤ u ∧ Cut c.length s r u ((rds c m f).getLastD []) ∧ (u = t + m ∨ nxt c ((rds c m f).getLastD []) = (rds c m f).getLastD [])
  | 0, t, f, R, hc => ⟨t, Nat.le_refl _, hc, .inl rfl⟩
  | m + 1, t, f, R, hc => by
    unfold rds
    split
    · rename_i e
      exact ⟨t, Nat.le_refl _, hc, .inr e⟩
    · have d := R.last
      have hn := h.n t _ d.1 hc
      have e : (f ++ [nxt c (f.getLastD [])]).getLastD [] = nxt c (f.getLastD []) := by simp
      obtain ⟨u, hu, q1, q2⟩ := h.run m (t + 1) (f ++ [nxt c (f.getLastD [])]) R.more (by rw [e]; exact hn)
      refine ⟨u, by omega, q1, ?_⟩
      rcases q2 with z | z
      · exact .inl (by omega)
      · exact .inr z
/-- the last one: those of a step lie together -/
theorem Lay.last {c : List Plc} {s r : Nat → Nat} (h : Lay c s r) (hr : ∀ p, p < c.length → r p ≤ c.length) (hd : ∀ (p t : Nat), p < c.length → t < r p → ∃ q, q < c.length ∧ r q = t + 1) :
    ∀ p q, p < c.length → q < c.length → (Tog ((roundsOf c).getLastD []) p q ↔ s p = s q) := fun p q hp hq => by
  obtain ⟨u, _, hc, hu⟩ := h.run c.length 0 [div0 c] (rnd0 c) h.z
  have hc : Cut c.length s r u ((roundsOf c).getLastD []) := hc
  rw [hc p q hp hq]
  refine ⟨fun z => ?_, .inl⟩
  rcases z with z | ⟨z1, z2⟩
  · exact z
  · rcases hu with hu | hu
    · have := hr p hp
      omega
    · have hu : nxt c ((roundsOf c).getLastD []) = (roundsOf c).getLastD [] := hu
      have dl : Dvn c.length ((roundsOf c).getLastD []) := (rds_rnd (m := c.length) (rnd0 c)).last.1
      have hn := h.n u _ dl hc
      rw [hu] at hn
      obtain ⟨x, hx, ex⟩ := hd p u hp z1
      have key : ∀ y, y < c.length → u < r y → s x = s y := fun y hy hy2 => by
        have := (hn x y hx hy).mp ((hc x y hx hy).mpr (.inr ⟨by omega, hy2⟩))
        rcases this with w | w
        · exact w
        · omega
      rw [← key p hp z1, ← key q hq z2]
end PL
namespace PL
open PySem PySem.Spec PyProof.Rows L2 DK
/-! ## the line -/
def lineC (n : Nat) : List Plc := (List.range (n - 1)).map (fun k => Plc.draw [(1, k + 1)]) ++ [.fin]
theorem lineC_len {n : Nat} (h : 1 ≤ n) : (lineC n).length = n := by unfold lineC; simp; omega
theorem lineC_at {n p : Nat} (h : p < n) : cAt (lineC n) p = if p < n - 1 then .draw [(1, p + 1)] else .fin := by
  unfold cAt lineC
  rw [List.getD_eq_getElem?_getD]
  split
  · rename_i hp
    rw [List.getElem?_append_left (by simpa using hp), List.getElem?_map, List.getElem?_range hp]
    rfl
  · rename_i hp
    rw [List.getElem?_append_right (by simpa using hp)]
    have : p - (List.map (fun k => Plc.draw [(1, k + 1)]) (List.range (n - 1))).length = 0 := by simp; omega
    rw [this]
    rfl
theorem into_line {n p : Nat} (h : p < n) (G : List Nat) : into (cAt (lineC n) p) G = if p < n - 1 ∧ p + 1 ∈ G then 1 else 0 := by
  rw [lineC_at h, into_eq]
  split
  · rename_i hp
    show intoB [(1, p + 1)] G = _
    rw [intoB_cons, intoB_nil]
    by_cases hg : p + 1 ∈ G
    · rw [if_pos hg, if_pos ⟨hp, hg⟩]; grind
    · rw [if_neg hg, if_neg (fun z => hg z.2)]; grind
  · rename_i hp
    rw [if_neg (fun z => hp z.1)]
    rfl
def lineL (n t : Nat) : Div := List.range (n - 1 - t) :: (List.range (t + 1)).map fun i => [n - 1 - t + i]
theorem lineL_dvn {n t : Nat} (h : t + 1 < n) : Dvn n (lineL n t) := by
  have hm : ∀ c ∈ lineL n t, c = List.range (n - 1 - t) ∨ ∃ i, i < t + 1 ∧ c = [n - 1 - t + i] := fun c hc => by
    rcases List.mem_cons.mp hc with z | z
    · exact .inl z
    · obtain ⟨i, hi, rfl⟩ := List.mem_map.mp z
      exact .inr ⟨i, List.mem_range.mp hi, rfl⟩
  have hat : ∀ (j : Nat) (c : List Nat), (lineL n t)[j]? = some c → (j = 0 ∧ c = List.range (n - 1 - t)) ∨ ∃ i, j = i + 1 ∧ c = [n - 1 - t + i] := fun j c e => by
    cases j with
    | zero => cases e; exact .inl ⟨rfl, rfl⟩
    | succ i =>
      right
      unfold lineL at e
      rw [List.getElem?_cons_succ, List.getElem?_map] at e
      cases e2 : (List.range (t + 1))[i]? with
      | none => rw [e2] at e; cases e
      | some k =>
        rw [e2] at e
        have hk := (List.getElem?_eq_some_iff.mp e2)
        obtain ⟨hi, ek⟩ := hk
        rw [List.getElem_range] at ek
        cases e
        exact ⟨i, rfl, by rw [ek]⟩
  refine ⟨fun c hc => ?_, fun p => ⟨fun ⟨c, hc, hp⟩ => ?_, fun hp => ?_⟩, fun j k c d p e1 e2 h1 h2 => ?_, fun c hc => ?_, ?_⟩
  · rcases hm c hc with rfl | ⟨i, _, rfl⟩
    · intro z
      have := congrArg List.length z
      simp at this
      omega
    · simp
  · rcases hm c hc with rfl | ⟨i, hi, rfl⟩
    · have := List.mem_range.mp hp; omega
    · simp at hp; omega
  · by_cases hlt : p < n - 1 - t
    · exact ⟨_, List.mem_cons_self, List.mem_range.mpr hlt⟩
    · refine ⟨[p], List.mem_cons_of_mem _ (List.mem_map.mpr ⟨p - (n - 1 - t), List.mem_range.mpr (by omega), ?_⟩), by simp⟩
      rw [show n - 1 - t + (p - (n - 1 - t)) = p by omega]
  · rcases hat j c e1 with ⟨rfl, rfl⟩ | ⟨i, rfl, rfl⟩ <;> rcases hat k d e2 with ⟨rfl, rfl⟩ | ⟨i', rfl, rfl⟩
    · rfl
    · have := List.mem_range.mp h1
      simp at h2
      omega
    · have := List.mem_range.mp h2
      simp at h1
      omega
    · simp at h1 h2
      omega
  · rcases hm c hc with rfl | ⟨i, _, rfl⟩
    · exact List.pairwise_lt_range
    · simp
  · unfold lineL
    rw [List.map_cons, List.map_map]
    have e0 : (List.range (n - 1 - t)).headD 0 = 0 := by
      cases h0 : n - 1 - t with
      | zero => rfl
      | succ k => rw [List.range_succ_eq_map]; rfl
    rw [e0]
    refine List.pairwise_cons.mpr ⟨fun x hx => ?_, ?_⟩
    · obtain ⟨i, _, rfl⟩ := List.mem_map.mp hx
      show 0 < n - 1 - t + i
      omega
    · rw [List.pairwise_map]
      refine List.pairwise_lt_range.imp fun {a b} hab => ?_
      show n - 1 - t + a < n - 1 - t + b
      omega
theorem lineL_tog {n t p q : Nat} (h : t + 1 < n) (hp : p < n) (hq : q < n) : Tog (lineL n t) p q ↔ p = q ∨ (p < n - 1 - t ∧ q < n - 1 - t) := by
  constructor
  · rintro ⟨G, hG, h1, h2⟩
    rcases List.mem_cons.mp hG with z | z
    · rw [z] at h1 h2
      exact .inr ⟨List.mem_range.mp h1, List.mem_range.mp h2⟩
    · obtain ⟨i, _, rfl⟩ := List.mem_map.mp z
      simp at h1 h2
      exact .inl (by omega)
  · rintro (rfl | ⟨h1, h2⟩)
    · exact tog_self (lineL_dvn h) hp
    · exact ⟨_, List.mem_cons_self, List.mem_range.mpr h1, List.mem_range.mpr h2⟩
theorem line_next {n t : Nat} (h : t + 1 < n) : nxt (lineC n) (lineL n t) = if t + 2 < n then lineL n (t + 1) else lineL n t := by
  have hl := lineC_len (n := n) (by omega)
  have dv := nxt_dvn (lineC n) (lineL n t)
  rw [hl] at dv
  have dL := lineL_dvn h
  have key : ∀ p q, p < n → q < n → (Tog (nxt (lineC n) (lineL n t)) p q ↔ p = q ∨ (p < n - 2 - t ∧ q < n - 2 - t)) := fun p q hp hq => by
    rw [tog_nxt (by rw [hl]; exact dL) (by omega) (by omega), lineL_tog h hp hq]
    have ei : (∀ G ∈ lineL n t, into (cAt (lineC n) p) G = into (cAt (lineC n) q) G) ↔ ∀ G ∈ lineL n t, ((p < n - 1 ∧ p + 1 ∈ G) ↔ (q < n - 1 ∧ q + 1 ∈ G)) := by
      constructor
      · intro z G hG
        have := z G hG
        rw [into_line hp, into_line hq] at this
        by_cases a : p < n - 1 ∧ p + 1 ∈ G <;> by_cases b : q < n - 1 ∧ q + 1 ∈ G
        · exact ⟨fun _ => b, fun _ => a⟩
        · rw [if_pos a, if_neg b] at this; exact absurd this (by decide)
        · rw [if_neg a, if_pos b] at this; exact absurd this (by decide)
        · exact ⟨fun w => absurd w a, fun w => absurd w b⟩
      · intro z G hG
        rw [into_line hp, into_line hq]
        by_cases a : p < n - 1 ∧ p + 1 ∈ G
        · rw [if_pos a, if_pos ((z G hG).mp a)]
        · rw [if_neg a, if_neg (fun w => a ((z G hG).mpr w))]
    rw [ei]
    constructor
    · rintro ⟨z | ⟨z1, z2⟩, w⟩
      · exact .inl z
      · by_cases hp2 : p < n - 2 - t
        · have := (w _ List.mem_cons_self).mp ⟨by omega, List.mem_range.mpr (by omega)⟩
          have := List.mem_range.mp this.2
          exact .inr ⟨hp2, by omega⟩
        · by_cases hq2 : q < n - 2 - t
          · have := (w _ List.mem_cons_self).mpr ⟨by omega, List.mem_range.mpr (by omega)⟩
            have := List.mem_range.mp this.2
            exact .inr ⟨by omega, hq2⟩
          · exact .inl (by omega)
    · rintro (rfl | ⟨z1, z2⟩)
      · exact ⟨.inl rfl, fun G _ => Iff.rfl⟩
      · refine ⟨.inr ⟨by omega, by omega⟩, fun G hG => ?_⟩
        rcases List.mem_cons.mp hG with z | z
        · rw [z]
          exact ⟨fun _ => ⟨by omega, List.mem_range.mpr (by omega)⟩, fun _ => ⟨by omega, List.mem_range.mpr (by omega)⟩⟩
        · obtain ⟨i, _, rfl⟩ := List.mem_map.mp z
          simp
          constructor <;> intro _ <;> omega
  split
  · rename_i h2
    refine dvn_ext dv (lineL_dvn h2) fun p q hp hq => ?_
    rw [key p q hp hq, lineL_tog h2 hp hq]
    rw [show n - 1 - (t + 1) = n - 2 - t by omega]
  · rename_i h2
    refine dvn_ext dv dL fun p q hp hq => ?_
    rw [key p q hp hq, lineL_tog h hp hq]
    constructor
    · rintro (z | z)
      · exact .inl z
      · omega
    · rintro (z | z)
      · exact .inl z
      · exact .inl (by omega)
theorem line_div0 {n : Nat} (h : 2 ≤ n) : div0 (lineC n) = lineL n 0 := by
  have hl := lineC_len (n := n) (by omega)
  have dv := div0_dvn (lineC n)
  rw [hl] at dv
  refine dvn_ext dv (lineL_dvn (by omega)) fun p q hp hq => ?_
  rw [tog0 (by omega) (by omega), lineL_tog (by omega) hp hq, lineC_at hp, lineC_at hq]
  by_cases a : p < n - 1 <;> by_cases b : q < n - 1
  · rw [if_pos a, if_pos b]
    exact ⟨fun _ => .inr ⟨by omega, by omega⟩, fun _ => rfl⟩
  · rw [if_pos a, if_neg b]
    refine ⟨fun z => ?_, fun z => by omega⟩
    have : ("draw" : Str) = "finish" := by injection z with z; injection z with z; injection z
    exact absurd this (by decide)
  · rw [if_neg a, if_pos b]
    refine ⟨fun z => ?_, fun z => by omega⟩
    have : ("finish" : Str) = "draw" := by injection z with z; injection z with z; injection z
    exact absurd this (by decide)
  · rw [if_neg a, if_neg b]
    exact ⟨fun _ => .inl (by omega), fun _ => rfl⟩
theorem line_ne {n t : Nat} (h : t + 2 < n) : lineL n (t + 1) ≠ lineL n t := fun e => by
  have := congrArg List.length e
  simp [lineL] at this
theorem line_rds {n : Nat} (h : 2 ≤ n) : ∀ (m t : Nat), t + 1 < n → n ≤ t + 2 + m → rds (lineC n) m ((List.range (t + 1)).map (lineL n)) = (List.range (n - 1)).map (lineL n)
  | 0, t, ht, hm => by
    show (List.range (t + 1)).map (lineL n) = _
    rw [show t + 1 = n - 1 by omega]
  | m + 1, t, ht, hm => by
    have el : ((List.range (t + 1)).map (lineL n)).getLastD [] = lineL n t := by
      rw [List.range_succ, List.map_append]
      simp
    unfold rds
    rw [el, line_next ht]
    by_cases h2 : t + 2 < n
    · rw [if_pos h2, if_neg (line_ne h2)]
      have := line_rds h m (t + 1) (by omega) (by omega)
      rw [List.range_succ (n := t + 1), List.map_append] at this
      exact this
    · rw [if_neg h2, if_pos rfl, show t + 1 = n - 1 by omega]
theorem line_rounds {n : Nat} (h : 2 ≤ n) : roundsOf (lineC n) = (List.range (n - 1)).map (lineL n) := by
  unfold roundsOf
  rw [line_div0 h, lineC_len (by omega)]
  exact line_rds h n 0 (by omega) (by omega)
end PL
namespace PL
open PySem PySem.Spec PyProof.Rows L2 DK
/-! ## sorted classes are a division -/
theorem dvn_sorted {n : Nat} {X : List (List Nat)} (ne : ∀ c ∈ X, c ≠ []) (nd : ∀ c ∈ X, c.Nodup) (dj : X.Pairwise fun c d => ∀ p ∈ c, p ∉ d) (mem : ∀ p, (∃ c ∈ X, p ∈ c) ↔ p < n) : Dvn n (srtC (X.map srtN)) ∧ ∀ p q, Tog (srtC (X.map srtN)) p q ↔ Tog X p q := by
  have pm : (srtC (X.map srtN)).Perm (X.map srtN) := List.mergeSort_perm _ _
  have hm : ∀ c, c ∈ srtC (X.map srtN) ↔ ∃ d ∈ X, srtN d = c := fun c => by rw [pm.mem_iff, List.mem_map]
  have tg : ∀ p q, Tog (srtC (X.map srtN)) p q ↔ Tog X p q := fun p q => by
    constructor
    · rintro ⟨G, hG, h1, h2⟩
      obtain ⟨d, hd, rfl⟩ := (hm G).mp hG
      exact ⟨d, hd, srtN_mem.mp h1, srtN_mem.mp h2⟩
    · rintro ⟨d, hd, h1, h2⟩
      exact ⟨srtN d, (hm _).mpr ⟨d, hd, rfl⟩, srtN_mem.mpr h1, srtN_mem.mpr h2⟩
  have dj2 : (srtC (X.map srtN)).Pairwise fun c d => ∀ p ∈ c, p ∉ d := by
    refine (pm.pairwise_iff (R := fun c d => ∀ p ∈ c, p ∉ d) fun {x y} h p hp hq => h p hq hp).mpr ?_
    rw [List.pairwise_map]
    exact dj.imp fun {a b} h p hp hq => h p (srtN_mem.mp hp) (srtN_mem.mp hq)
  have ne2 : ∀ c ∈ srtC (X.map srtN), c ≠ [] := fun c hc z => by
    obtain ⟨d, hd, e⟩ := (hm c).mp hc
    have := congrArg List.length e
    rw [srtN_len, z] at this
    exact ne d hd (List.length_eq_zero_iff.mp this)
  have up2 : ∀ c ∈ srtC (X.map srtN), c.Pairwise (· < ·) := fun c hc => by
    obtain ⟨d, hd, rfl⟩ := (hm c).mp hc
    have h1 : (srtN d).Pairwise (· ≤ ·) := srtN_eq.mp (by
      have h := List.mergeSort_of_pairwise (le := fun a b : Nat => decide (a ≤ b)) (l := srtN d) (List.pairwise_mergeSort (fun a b c h1 h2 => by simp at *; omega) (fun a b => by simp; omega) d)
      exact h.symm)
    have h2 : (srtN d).Nodup := (List.mergeSort_perm _ _).nodup_iff.mpr (nd d hd)
    refine (h1.and h2).imp fun {a b} h => ?_
    have := h.1
    have := h.2
    omega
  have srt : (srtC (X.map srtN)).Pairwise fun a b => leN a b = true := srtC_eq.mp (List.mergeSort_of_pairwise (le := leN) (List.pairwise_mergeSort (le := leN) (fun a b c => leI_tr (ci a) (ci b) (ci c)) (fun a b => leI_to (ci a) (ci b)) _)).symm
  refine ⟨⟨ne2, fun p => ?_, fun j k c d p e1 e2 h1 h2 => ?_, up2, ?_⟩, tg⟩
  · rw [← mem p]
    constructor
    · rintro ⟨c, hc, hp⟩
      obtain ⟨d, hd, rfl⟩ := (hm c).mp hc
      exact ⟨d, hd, srtN_mem.mp hp⟩
    · rintro ⟨d, hd, hp⟩
      exact ⟨_, (hm _).mpr ⟨d, hd, rfl⟩, srtN_mem.mpr hp⟩
  · have hj := (List.getElem?_eq_some_iff.mp e1)
    have hk := (List.getElem?_eq_some_iff.mp e2)
    obtain ⟨hj, ej⟩ := hj
    obtain ⟨hk, ek⟩ := hk
    rcases Nat.lt_trichotomy j k with z | z | z
    · have := List.pairwise_iff_getElem.mp dj2 j k hj hk z
      rw [ej, ek] at this
      exact absurd h2 (this p h1)
    · exact z
    · have := List.pairwise_iff_getElem.mp dj2 k j hk hj z
      rw [ej, ek] at this
      exact absurd h1 (this p h2)
  · rw [List.pairwise_map]
    have all : (srtC (X.map srtN)).Pairwise fun c d => c ∈ srtC (X.map srtN) ∧ d ∈ srtC (X.map srtN) := by
      refine List.pairwise_iff_getElem.mpr fun i j hi hj _ => ⟨List.getElem_mem _, List.getElem_mem _⟩
    refine ((srt.and dj2).and all).imp fun {c d} h => ?_
    obtain ⟨⟨h1, h2⟩, h3, h4⟩ := h
    cases c with
    | nil => exact absurd rfl (ne2 _ h3)
    | cons x r =>
      cases d with
      | nil => exact absurd rfl (ne2 _ h4)
      | cons y s =>
        have hne : x ≠ y := fun z => h2 x List.mem_cons_self (by rw [z]; exact List.mem_cons_self)
        rw [leN_head hne] at h1
        have := of_decide_eq_true h1
        show x < y
        omega
/-! ## two walks -/
structure Ord (M : Nat) (od : List Nat) : Prop where
  pm : od.Perm (List.range M)
theorem Ord.len {M : Nat} {od : List Nat} (h : Ord M od) : od.length = M := by rw [h.pm.length_eq, List.length_range]
theorem Ord.nd {M : Nat} {od : List Nat} (h : Ord M od) : od.Nodup := h.pm.nodup_iff.mpr List.nodup_range
def odAt (od : List Nat) (k : Nat) : Nat := od.getD k 0
def odIx (od : List Nat) (p : Nat) : Nat := od.idxOf p
section
variable {M : Nat} {od : List Nat} (h : Ord M od)
include h
theorem Ord.at_lt {k : Nat} (hk : k < M) : odAt od k < M := by
  have hl : k < od.length := by rw [h.len]; exact hk
  unfold odAt
  rw [List.getD_eq_getElem?_getD, List.getElem?_eq_getElem hl]
  exact List.mem_range.mp (h.pm.mem_iff.mp (List.getElem_mem hl))
theorem Ord.ix_lt {p : Nat} (hp : p < M) : odIx od p < M := by
  have := List.idxOf_lt_length_of_mem (h.pm.mem_iff.mpr (List.mem_range.mpr hp))
  rw [h.len] at this
  exact this
theorem Ord.at_ix {p : Nat} (hp : p < M) : odAt od (odIx od p) = p := by
  have hl : odIx od p < od.length := by rw [h.len]; exact h.ix_lt hp
  unfold odAt
  rw [List.getD_eq_getElem?_getD, List.getElem?_eq_getElem hl]
  exact List.getElem_idxOf hl
theorem Ord.ix_at {k : Nat} (hk : k < M) : odIx od (odAt od k) = k := by
  have hl : k < od.length := by rw [h.len]; exact hk
  have e : odAt od k = od[k] := by
    unfold odAt
    rw [List.getD_eq_getElem?_getD, List.getElem?_eq_getElem hl]
    rfl
  rw [e]
  exact h.nd.idxOf_getElem k hl
end
def wStep (L k : Nat) : Nat := k % (L + 1)
def wR (L k : Nat) : Nat := min (wStep L k) (L - wStep L k)
def wS (same : Bool) (L k : Nat) : Nat := if same = true then wR L k else wStep L k
def wPlc (same : Bool) (L : Nat) (od : List Nat) (k : Nat) : Plc :=
  if 0 < wStep L k ∧ wStep L k < L then .draw [(1 / 2, odAt od (k - 1)), (1 / 2, odAt od (k + 1))] else if wStep L k = L ∧ same = false then .fin else .lose
def walkC (same : Bool) (L : Nat) (od : List Nat) : List Plc := (List.range (2 * (L + 1))).map fun p => wPlc same L od (odIx od p)
theorem walkC_len {same : Bool} {L : Nat} {od : List Nat} : (walkC same L od).length = 2 * (L + 1) := by simp [walkC]
theorem walkC_at {same : Bool} {L : Nat} {od : List Nat} {p : Nat} (h : p < 2 * (L + 1)) : cAt (walkC same L od) p = wPlc same L od (odIx od p) := by
  unfold cAt walkC
  rw [List.getD_eq_getElem?_getD, List.getElem?_map, List.getElem?_range h]
  rfl
theorem wStep_le {L k : Nat} : wStep L k ≤ L := by
  unfold wStep
  have := Nat.mod_lt k (show 0 < L + 1 by omega)
  omega
theorem wStep_pred {L k : Nat} (h : 0 < wStep L k) : wStep L (k - 1) = wStep L k - 1 ∧ 0 < k := by
  unfold wStep at *
  have hk : 0 < k := by
    rcases Nat.eq_zero_or_pos k with z | z
    · subst z; simp at h
    · exact z
  have e := Nat.div_add_mod k (L + 1)
  have hlt := Nat.mod_lt k (show 0 < L + 1 by omega)
  refine ⟨?_, hk⟩
  generalize k / (L + 1) = a at e
  generalize k % (L + 1) = b at *
  have : k - 1 = (L + 1) * a + (b - 1) := by omega
  rw [this, Nat.mul_add_mod, Nat.mod_eq_of_lt (by omega)]
theorem wStep_succ {L k : Nat} (h : wStep L k < L) : wStep L (k + 1) = wStep L k + 1 := by
  unfold wStep at *
  have e := Nat.div_add_mod k (L + 1)
  generalize k / (L + 1) = a at e
  generalize k % (L + 1) = b at *
  have : k + 1 = (L + 1) * a + (b + 1) := by omega
  rw [this, Nat.mul_add_mod, Nat.mod_eq_of_lt (by omega)]
theorem wStep_lt {L k : Nat} (hk : k < 2 * (L + 1)) (h : wStep L k < L) : k + 1 < 2 * (L + 1) := by
  unfold wStep at h
  by_cases e : k + 1 = 2 * (L + 1)
  · exfalso
    have : k = (L + 1) * 1 + L := by omega
    rw [this, Nat.mul_add_mod, Nat.mod_eq_of_lt (by omega)] at h
    omega
  · omega
def half (a b : Nat) (G : List Nat) : Rat := (if a ∈ G then 1 / 2 else 0) + ((if b ∈ G then 1 / 2 else 0) + 0)
theorem into_walk {same : Bool} {L : Nat} {od : List Nat} {k : Nat} (G : List Nat) : into (wPlc same L od k) G = if 0 < wStep L k ∧ wStep L k < L then half (odAt od (k - 1)) (odAt od (k + 1)) G else 0 := by
  unfold wPlc
  by_cases h : 0 < wStep L k ∧ wStep L k < L
  · rw [if_pos h, if_pos h, into_eq]
    show intoB [(1 / 2, odAt od (k - 1)), (1 / 2, odAt od (k + 1))] G = _
    rw [intoB_cons, intoB_cons, intoB_nil]
    rfl
  · rw [if_neg h, if_neg h]
    split <;> rfl
theorem half_comm {a b : Nat} {G : List Nat} : half a b G = half b a G := by
  unfold half
  grind
theorem half_pos {a b : Nat} {G : List Nat} (h : a ∈ G ∨ b ∈ G) : 0 < half a b G := by
  unfold half
  by_cases ha : a ∈ G <;> by_cases hb : b ∈ G
  · rw [if_pos ha, if_pos hb]; decide +kernel
  · rw [if_pos ha, if_neg hb]; decide +kernel
  · rw [if_neg ha, if_pos hb]; decide +kernel
  · rcases h with h | h
    · exact absurd h ha
    · exact absurd h hb
theorem half_mem {a b : Nat} {G : List Nat} (h : 0 < half a b G) : a ∈ G ∨ b ∈ G := by
  by_cases ha : a ∈ G
  · exact .inl ha
  · by_cases hb : b ∈ G
    · exact .inr hb
    · unfold half at h
      rw [if_neg ha, if_neg hb] at h
      exact absurd h (by decide +kernel)
theorem half_eq {a b a' b' : Nat} {G : List Nat} (h1 : a ∈ G ↔ a' ∈ G) (h2 : b ∈ G ↔ b' ∈ G) : half a b G = half a' b' G := by
  unfold half
  simp only [h1, h2]
theorem Tog.mem_iff {n : Nat} {D : Div} (h : Dvn n D) {p q : Nat} (t : Tog D p q) {G : List Nat} (hG : G ∈ D) : p ∈ G ↔ q ∈ G := by
  obtain ⟨E, hE, h1, h2⟩ := t
  constructor
  · intro z
    rw [h.cls_eq hG hE z h1]
    exact h2
  · intro z
    rw [h.cls_eq hG hE z h2]
    exact h1
end PL
namespace PL
open PySem PySem.Spec PyProof.Rows L2 DK
theorem wS_t {L k : Nat} : wS true L k = min (wStep L k) (L - wStep L k) := rfl
theorem wS_f {L k : Nat} : wS false L k = wStep L k := rfl
theorem wR_pos {L k : Nat} : (0 < wStep L k ∧ wStep L k < L) ↔ 0 < wR L k := by unfold wR; omega
theorem into_walk2 {same : Bool} {L : Nat} {od : List Nat} {k : Nat} (G : List Nat) : into (wPlc same L od k) G = if 0 < wR L k then half (odAt od (k - 1)) (odAt od (k + 1)) G else 0 := by
  rw [into_walk]
  simp only [wR_pos]
def wKc (same : Bool) (L k : Nat) : Nat := if 0 < wR L k then 0 else if wStep L k = L ∧ same = false then 1 else 2
theorem wKind {same : Bool} {L : Nat} {od : List Nat} {k : Nat} : (wPlc same L od k).kind = if wKc same L k = 0 then .tuple [.str "draw"] else if wKc same L k = 1 then .tuple [.str "finish"] else .tuple [.str "lose"] := by
  unfold wPlc wKc
  simp only [wR_pos]
  by_cases h : 0 < wR L k
  · rw [if_pos h, if_pos h]; rfl
  · rw [if_neg h, if_neg h]
    by_cases h2 : wStep L k = L ∧ same = false
    · rw [if_pos h2, if_pos h2]; rfl
    · rw [if_neg h2, if_neg h2]; rfl
theorem wKc_le {same : Bool} {L k : Nat} : wKc same L k ≤ 2 := by
  unfold wKc
  split
  · omega
  · split <;> omega
theorem tup1_ne {a b : Str} (h : a ≠ b) : PyData.tuple [.str a] ≠ PyData.tuple [.str b] := fun z => by
  injection z with z
  injection z with z _
  injection z with z
  exact h z
theorem wKind_eq {same : Bool} {L : Nat} {od : List Nat} {k k' : Nat} : (wPlc same L od k).kind = (wPlc same L od k').kind ↔ wKc same L k = wKc same L k' := by
  rw [wKind, wKind]
  have a := wKc_le (same := same) (L := L) (k := k)
  have b := wKc_le (same := same) (L := L) (k := k')
  generalize wKc same L k = x at *
  generalize wKc same L k' = y at *
  have n1 : PyData.tuple [.str "draw"] ≠ PyData.tuple [.str "finish"] := tup1_ne (by decide)
  have n2 : PyData.tuple [.str "draw"] ≠ PyData.tuple [.str "lose"] := tup1_ne (by decide)
  have n3 : PyData.tuple [.str "finish"] ≠ PyData.tuple [.str "lose"] := tup1_ne (by decide)
  constructor
  · intro h
    have hx : x = 0 ∨ x = 1 ∨ x = 2 := by omega
    have hy : y = 0 ∨ y = 1 ∨ y = 2 := by omega
    rcases hx with rfl | rfl | rfl <;> rcases hy with rfl | rfl | rfl
    · rfl
    · exact absurd h n1
    · exact absurd h n2
    · exact absurd h.symm n1
    · rfl
    · exact absurd h n3
    · exact absurd h.symm n2
    · exact absurd h.symm n3
    · rfl
  · rintro rfl; rfl
section
variable {same : Bool} {L : Nat} {od : List Nat} (hL : 2 ≤ L) (h : Ord (2 * (L + 1)) od)
include hL h
theorem walk_core {D : Div} {t : Nat} (dv : Dvn (2 * (L + 1)) D) (T : ∀ x y, x < 2 * (L + 1) → y < 2 * (L + 1) → (Tog D (odAt od x) (odAt od y) ↔ wS same L x = wS same L y ∨ (t < wR L x ∧ t < wR L y))) {k k' : Nat} (hk : k < 2 * (L + 1)) (hk' : k' < 2 * (L + 1)) (e : wR L k = t + 1) (e' : t < wR L k')
    (hi : ∀ G ∈ D, into (wPlc same L od k) G = into (wPlc same L od k') G) : wS same L k = wS same L k' := by
  have i1 := wR_pos.mpr (show 0 < wR L k by omega)
  have i2 := wR_pos.mpr (show 0 < wR L k' by omega)
  obtain ⟨p1, p2⟩ := wStep_pred i1.1
  obtain ⟨p1', p2'⟩ := wStep_pred i2.1
  have s1 := wStep_succ i1.2
  have s1' := wStep_succ i2.2
  have l1 := wStep_lt hk i1.2
  have l1' := wStep_lt hk' i2.2
  have eR : ∀ x, wR L x = min (wStep L x) (L - wStep L x) := fun _ => rfl
  have fin : ∀ x y, (x = k - 1 ∨ x = k + 1) → (y = k' - 1 ∨ y = k' + 1) → wR L x = t → wS same L x = wS same L y → wS same L k = wS same L k' := by
    intro x y hx hy hr he
    rw [eR] at e e' hr
    cases same with
    | true =>
      rw [wS_t, wS_t] at he ⊢
      rcases hx with rfl | rfl <;> rcases hy with rfl | rfl <;> (simp only [p1, p1', s1, s1'] at he hr; omega)
    | false =>
      rw [wS_f, wS_f] at he ⊢
      rcases hx with rfl | rfl <;> rcases hy with rfl | rfl <;> (simp only [p1, p1', s1, s1'] at he hr; omega)
  have ex : ∃ x, (x = k - 1 ∨ x = k + 1) ∧ x < 2 * (L + 1) ∧ wR L x = t := by
    rw [eR] at e
    by_cases hs : wStep L k = t + 1
    · exact ⟨k - 1, .inl rfl, by omega, by rw [eR, p1]; omega⟩
    · exact ⟨k + 1, .inr rfl, l1, by rw [eR, s1]; omega⟩
  obtain ⟨x, hx, hxl, hxr⟩ := ex
  obtain ⟨G, hG, hxG⟩ := (dv.mem (odAt od x)).mpr (h.at_lt hxl)
  have hh := hi G hG
  rw [into_walk2, into_walk2, if_pos (by omega), if_pos (by omega)] at hh
  have pos : 0 < half (odAt od (k - 1)) (odAt od (k + 1)) G := half_pos (by
    rcases hx with rfl | rfl
    · exact .inl hxG
    · exact .inr hxG)
  rw [hh] at pos
  rcases half_mem pos with hy | hy
  · have tt := (T x (k' - 1) hxl (by omega)).mp ⟨G, hG, hxG, hy⟩
    rcases tt with w | w
    · exact fin x (k' - 1) hx (.inl rfl) hxr w
    · omega
  · have tt := (T x (k' + 1) hxl l1').mp ⟨G, hG, hxG, hy⟩
    rcases tt with w | w
    · exact fin x (k' + 1) hx (.inr rfl) hxr w
    · omega
theorem walk_lay : Lay (walkC same L od) (fun p => wS same L (odIx od p)) (fun p => wR L (odIx od p)) := by
  have hl := walkC_len (same := same) (L := L) (od := od)
  refine ⟨fun p q hp hq => ?_, fun t D dv hc p q hp hq => ?_⟩
  · rw [tog0 hp hq]
    rw [hl] at hp hq
    rw [walkC_at hp, walkC_at hq, wKind_eq]
    have a := wStep_le (L := L) (k := odIx od p)
    have b := wStep_le (L := L) (k := odIx od q)
    generalize odIx od p = x at *
    generalize odIx od q = y at *
    unfold wKc
    cases same with
    | true =>
      rw [wS_t, wS_t]
      unfold wR
      simp only [Bool.true_eq_false, and_false, if_false]
      split <;> split <;> constructor <;> intro z <;> omega
    | false =>
      rw [wS_f, wS_f]
      unfold wR
      simp only [and_true]
      split <;> split <;> (try split) <;> (try split) <;> constructor <;> intro z <;> omega
  · rw [tog_nxt dv hp hq, hc p q hp hq]
    dsimp only
    rw [hl] at hp hq dv
    rw [walkC_at hp, walkC_at hq]
    have T : ∀ x y, x < 2 * (L + 1) → y < 2 * (L + 1) → (Tog D (odAt od x) (odAt od y) ↔ wS same L x = wS same L y ∨ (t < wR L x ∧ t < wR L y)) := fun x y hx hy => by
      have := hc (odAt od x) (odAt od y) (by rw [hl]; exact h.at_lt hx) (by rw [hl]; exact h.at_lt hy)
      dsimp only at this
      rw [h.ix_at hx, h.ix_at hy] at this
      exact this
    have hk := h.ix_lt hp
    have hk' := h.ix_lt hq
    generalize odIx od p = k at *
    generalize odIx od q = k' at *
    constructor
    · rintro ⟨h1, h2⟩
      by_cases es : wS same L k = wS same L k'
      · exact .inl es
      · rcases h1 with h1 | ⟨h1, h3⟩
        · exact absurd h1 es
        · refine .inr ⟨?_, ?_⟩
          · by_cases e : wR L k = t + 1
            · exact absurd (walk_core hL h dv T hk hk' e h3 h2) es
            · omega
          · by_cases e : wR L k' = t + 1
            · exact absurd (walk_core hL h dv T hk' hk e h1 fun G hG => (h2 G hG).symm).symm es
            · omega
    · intro z
      refine ⟨by rcases z with z | z; exact .inl z; exact .inr ⟨by omega, by omega⟩, fun G hG => ?_⟩
      rw [into_walk2, into_walk2]
      have eR : ∀ x, wR L x = min (wStep L x) (L - wStep L x) := fun _ => rfl
      by_cases b1 : 0 < wR L k
      · have i1 := wR_pos.mpr b1
        obtain ⟨p1, p2⟩ := wStep_pred i1.1
        have s1 := wStep_succ i1.2
        have l1 := wStep_lt hk i1.2
        have b2 : 0 < wR L k' := by
          rcases z with z | z
          · cases same with
            | true => rw [wS_t, wS_t] at z; rw [eR] at b1 ⊢; omega
            | false => rw [wS_f, wS_f] at z; rw [eR] at b1 ⊢; rw [← z]; exact b1
          · omega
        have i2 := wR_pos.mpr b2
        obtain ⟨p1', p2'⟩ := wStep_pred i2.1
        have s1' := wStep_succ i2.2
        have l1' := wStep_lt hk' i2.2
        rw [if_pos b1, if_pos b2]
        have mi : ∀ x y, x < 2 * (L + 1) → y < 2 * (L + 1) → (wS same L x = wS same L y ∨ (t < wR L x ∧ t < wR L y)) → (odAt od x ∈ G ↔ odAt od y ∈ G) := fun x y hx hy w => Tog.mem_iff dv ((T x y hx hy).mpr w) hG
        rcases z with z | ⟨z1, z2⟩
        · by_cases e : wStep L k = wStep L k'
          · have q1 : wStep L (k - 1) = wStep L (k' - 1) := by omega
            have q2 : wStep L (k + 1) = wStep L (k' + 1) := by omega
            refine half_eq (mi _ _ (by omega) (by omega) (.inl ?_)) (mi _ _ l1 l1' (.inl ?_))
            · unfold wS wR; rw [q1]
            · unfold wS wR; rw [q2]
          · cases same with
            | false => exact absurd z e
            | true =>
              rw [wS_t, wS_t] at z
              rw [half_comm (a := odAt od (k' - 1))]
              refine half_eq (mi _ _ (by omega) l1' (.inl ?_)) (mi _ _ l1 (by omega) (.inl ?_))
              · rw [wS_t, wS_t, p1, s1']; omega
              · rw [wS_t, wS_t, s1, p1']; omega
        · rw [eR] at z1 z2
          refine half_eq (mi _ _ (by omega) (by omega) (.inr ⟨?_, ?_⟩)) (mi _ _ l1 l1' (.inr ⟨?_, ?_⟩))
          · rw [eR, p1]; omega
          · rw [eR, p1']; omega
          · rw [eR, s1]; omega
          · rw [eR, s1']; omega
      · have b2 : ¬ 0 < wR L k' := by
          rcases z with z | z
          · cases same with
            | true => rw [wS_t, wS_t] at z; rw [eR] at b1 ⊢; omega
            | false => rw [wS_f, wS_f] at z; rw [eR] at b1 ⊢; rw [← z]; exact b1
          · omega
        rw [if_neg b1, if_neg b2]
def walkX (same : Bool) (L : Nat) (od : List Nat) : List (List Nat) := (List.range (L + 1)).map fun j => ((List.range (2 * (L + 1))).filter fun k => decide (wS same L k = j)).map (odAt od)
def walkD (same : Bool) (L : Nat) (od : List Nat) : Div := srtC (((walkX same L od).filter fun c => decide (0 < c.length)).map srtN)
theorem walk_last : (roundsOf (walkC same L od)).getLastD [] = walkD same L od := by
  have hl := walkC_len (same := same) (L := L) (od := od)
  have dl : Dvn (2 * (L + 1)) ((roundsOf (walkC same L od)).getLastD []) := by
    have : Dvn (walkC same L od).length ((roundsOf (walkC same L od)).getLastD []) := (rds_rnd (m := (walkC same L od).length) (rnd0 (walkC same L od))).last.1
    rw [hl] at this
    exact this
  have eR : ∀ x, wR L x = min (wStep L x) (L - wStep L x) := fun _ => rfl
  have tl := (walk_lay (same := same) hL h).last (fun p hp => by show wR L (odIx od p) ≤ _; rw [eR, hl]; have := wStep_le (L := L) (k := odIx od p); omega) fun p t hp ht => by
    have ht : t < wR L (odIx od p) := ht
    rw [eR] at ht
    have hs := wStep_le (L := L) (k := odIx od p)
    have hk : t + 1 < 2 * (L + 1) := by omega
    refine ⟨odAt od (t + 1), by rw [hl]; exact h.at_lt hk, ?_⟩
    show wR L (odIx od (odAt od (t + 1))) = t + 1
    rw [h.ix_at hk, eR]
    have : wStep L (t + 1) = t + 1 := Nat.mod_eq_of_lt (by omega)
    rw [this]
    omega
  have mX : ∀ c, c ∈ (walkX same L od).filter (fun c => decide (0 < c.length)) ↔ (∃ j, j < L + 1 ∧ ((List.range (2 * (L + 1))).filter fun k => decide (wS same L k = j)).map (odAt od) = c) ∧ 0 < c.length := fun c => by
    unfold walkX
    rw [List.mem_filter, List.mem_map]
    simp only [List.mem_range, decide_eq_true_eq]
  have mC : ∀ j p, p ∈ ((List.range (2 * (L + 1))).filter fun k => decide (wS same L k = j)).map (odAt od) ↔ p < 2 * (L + 1) ∧ wS same L (odIx od p) = j := fun j p => by
    rw [List.mem_map]
    simp only [List.mem_filter, List.mem_range, decide_eq_true_eq]
    constructor
    · rintro ⟨k, ⟨h1, h2⟩, rfl⟩
      rw [h.ix_at h1]
      exact ⟨h.at_lt h1, h2⟩
    · rintro ⟨h1, h2⟩
      exact ⟨_, ⟨h.ix_lt h1, h2⟩, h.at_ix h1⟩
  have sle : ∀ k, wS same L k < L + 1 := fun k => by
    have := wStep_le (L := L) (k := k)
    cases same with
    | true => rw [wS_t]; omega
    | false => rw [wS_f]; omega
  obtain ⟨dd, dt⟩ := dvn_sorted (n := 2 * (L + 1)) (X := (walkX same L od).filter fun c => decide (0 < c.length))
    (fun c hc z => by
      have := ((mX c).mp hc).2
      rw [z] at this
      simp at this)
    (fun c hc => by
      obtain ⟨⟨j, _, rfl⟩, _⟩ := (mX c).mp hc
      unfold List.Nodup
      rw [List.pairwise_map]
      refine List.Pairwise.imp_of_mem (fun {a b} ha hb hab => ?_) (List.pairwise_lt_range.filter _)
      have ha := (List.mem_filter.mp ha).1
      have hb := (List.mem_filter.mp hb).1
      intro z
      have := congrArg (odIx od) z
      rw [h.ix_at (List.mem_range.mp ha), h.ix_at (List.mem_range.mp hb)] at this
      omega)
    (by
      refine List.Pairwise.filter _ ?_
      unfold walkX
      rw [List.pairwise_map]
      refine List.pairwise_lt_range.imp fun {a b} hab p hp hq => ?_
      have h1 := ((mC a p).mp hp).2
      have h2 := ((mC b p).mp hq).2
      omega)
    (fun p => by
      constructor
      · rintro ⟨c, hc, hp⟩
        obtain ⟨⟨j, _, rfl⟩, _⟩ := (mX c).mp hc
        exact ((mC j p).mp hp).1
      · intro hp
        have hm := (mC (wS same L (odIx od p)) p).mpr ⟨hp, rfl⟩
        exact ⟨_, (mX _).mpr ⟨⟨_, sle _, rfl⟩, List.length_pos_of_mem hm⟩, hm⟩)
  refine dvn_ext dl dd fun p q hp hq => ?_
  rw [tl p q (by rw [hl]; exact hp) (by rw [hl]; exact hq)]
  refine Iff.trans ?_ (dt p q).symm
  constructor
  · intro e
    have h1 := (mC (wS same L (odIx od p)) p).mpr ⟨hp, rfl⟩
    have h2 := (mC (wS same L (odIx od p)) q).mpr ⟨hq, e.symm⟩
    exact ⟨_, (mX _).mpr ⟨⟨_, sle _, rfl⟩, List.length_pos_of_mem h1⟩, h1, h2⟩
  · rintro ⟨c, hc, h1, h2⟩
    obtain ⟨⟨j, _, rfl⟩, _⟩ := (mX c).mp hc
    rw [((mC j p).mp h1).2, ((mC j q).mp h2).2]
end
end PL
namespace PL
open PySem PySem.Spec PyProof.Rows L2 DK
theorem nstL_nil {v : Nat} {s : Stt} : ∀ (ds : List PD) (acc : List (List PD)), nstL [v] (tNm v) (fLst aNil) ds (wipeS s [v]) acc = some (acc ++ List.replicate ds.length [], wipeS s [v])
  | [], acc => by unfold nstL; simp
  | d :: ds, acc => by
    have e : wipeS ((wipeS s [v]).set v (.sh d)) [v] = wipeS s [v] := by
      show ((s.set v .no).set v (.sh d)).set v .no = s.set v .no
      simp
    have e2 : tNm v d (wipeS s [v]) = some ((wipeS s [v]).set v (.sh d)) := rfl
    have e3 : fLst aNil ((wipeS s [v]).set v (.sh d)) = some ([], (wipeS s [v]).set v (.sh d)) := rfl
    unfold nstL
    rw [e2]
    dsimp only
    rw [e3]
    dsimp only
    rw [e, nstL_nil ds (acc ++ [[]])]
    simp [List.replicate_succ]
theorem p_nstc0 {i v : Nat} {S : Stt} {items : EvL} {R : Out → Prop} (h : i + 1 < S.length) (q : O2 (items S) fun ds s => Nd (noOw s [v] = true ∧ ds.length < 100000) (R (.nx ((unw s (wipeS s [v]) [v]).set (i + 1) (.nst (List.replicate ds.length [])))))) : Ok (sNstC (i + 1) items [v] (tNm v) (fLst aNil) S) R := by
  obtain ⟨ds, s, e, ⟨h1, h2⟩, q⟩ := q
  unfold sNstC
  rw [if_neg (by omega), e]
  dsimp only
  rw [h1, decide_eq_true h2]
  simp only [Bool.and_self, if_true]
  rw [nstL_nil]
  exact ⟨_, rfl, q⟩
theorem at_od {od : List Nat} {k : Nat} (h : k < od.length) : (od.map fun (i : Nat) => PyData.int (i : Int))[k]? = some (.int ((odAt od k : Nat) : Int)) := nat_at k h
end PL
namespace PL
open PySem PySem.Spec PyProof.Rows L2 DK
def walkS (same : Bool) (L : Nat) (od : List Nat) (k : Nat) : List PD := (List.range (2 * (L + 1))).map fun p => (if odIx od p < k then wPlc same L od (odIx od p) else .lose).enc
def walkK (same : Bool) (L : Nat) (od : List Nat) (k j : Nat) : List Nat := ((List.range k).filter fun k => decide (wS same L k = j)).map (odAt od)
def walkN (same : Bool) (L : Nat) (od : List Nat) (k : Nat) : List (List PD) := (List.range (L + 1)).map fun j => encK (walkK same L od k j)
section
variable {same : Bool} {L : Nat} {od : List Nat}
theorem walkS_len {k : Nat} : (walkS same L od k).length = 2 * (L + 1) := by simp [walkS]
theorem walkN_len {k : Nat} : (walkN same L od k).length = L + 1 := by simp [walkN]
theorem walkS_get {k p : Nat} (h : p < (walkS same L od k).length) : (walkS same L od k)[p] = (if odIx od p < k then wPlc same L od (odIx od p) else .lose).enc := by
  simp [walkS]
theorem walkN_get {k j : Nat} (h : j < (walkN same L od k).length) : (walkN same L od k)[j] = encK (walkK same L od k j) := by
  simp [walkN]
theorem walkS_zero (ho : PL.Ord (2 * (L + 1)) od) : od.map (fun _ => Plc.lose.enc) = walkS same L od 0 := by
  refine List.ext_getElem (by simp [walkS, ho.len]) fun i h1 h2 => ?_
  rw [walkS_get]
  simp only [List.getElem_map, Nat.not_lt_zero, if_false]
theorem walkN_zero : List.replicate (L + 1) [] = walkN same L od 0 := by
  refine List.ext_getElem (by simp [walkN]) fun i h1 h2 => ?_
  rw [walkN_get]
  simp [walkK]
theorem walkS_set (ho : PL.Ord (2 * (L + 1)) od) {k : Nat} (hk : k < 2 * (L + 1)) : (walkS same L od k).set (odAt od k) (wPlc same L od k).enc = walkS same L od (k + 1) := by
  refine List.ext_getElem (by simp [walkS]) fun p h1 h2 => ?_
  have hp : p < 2 * (L + 1) := by rw [walkS_len] at h2; exact h2
  rw [List.getElem_set, walkS_get, walkS_get]
  split
  · rename_i e
    subst e
    rw [ho.ix_at hk, if_pos (by omega)]
  · rename_i e
    by_cases h3 : odIx od p < k
    · rw [if_pos h3, if_pos (by omega)]
    · by_cases h4 : odIx od p = k
      · exact absurd (by rw [← h4]; exact ho.at_ix hp) e
      · rw [if_neg h3, if_neg (by omega)]
theorem walkS_same (ho : PL.Ord (2 * (L + 1)) od) {k : Nat} (hk : k < 2 * (L + 1)) (h : wPlc same L od k = .lose) : walkS same L od k = walkS same L od (k + 1) := by
  refine List.ext_getElem (by simp [walkS]) fun p h1 h2 => ?_
  rw [walkS_get, walkS_get]
  by_cases h3 : odIx od p < k
  · rw [if_pos h3, if_pos (by omega)]
  · by_cases h4 : odIx od p = k
    · rw [if_neg h3, if_pos (by omega), h4, h]
    · rw [if_neg h3, if_neg (by omega)]
theorem walkS_end (ho : PL.Ord (2 * (L + 1)) od) : PyData.list (walkS same L od (2 * (L + 1))) = encC (walkC same L od) := by
  unfold encC walkS walkC
  rw [List.map_map]
  congr 1
  refine List.map_congr_left fun p hp => ?_
  rw [if_pos (ho.ix_lt (List.mem_range.mp hp))]
  rfl
theorem wS_lt {k : Nat} : wS same L k < L + 1 := by
  have := wStep_le (L := L) (k := k)
  cases same with
  | true => rw [wS_t]; omega
  | false => rw [wS_f]; omega
theorem walkN_at {k j : Nat} (h : j < L + 1) : (walkN same L od k)[j]? = some (encK (walkK same L od k j)) := by
  unfold walkN
  rw [List.getElem?_map, List.getElem?_range h]
  rfl
theorem walkN_set {k : Nat} : (walkN same L od k).set (wS same L k) (encK (walkK same L od k (wS same L k)) ++ [.int ((odAt od k : Nat) : Int)]) = walkN same L od (k + 1) := by
  refine List.ext_getElem (by simp [walkN]) fun j h1 h2 => ?_
  rw [List.getElem_set, walkN_get, walkN_get]
  unfold walkK
  rw [List.range_succ, List.filter_append, List.map_append]
  split
  · rename_i e
    subst e
    rw [show List.filter (fun x => decide (wS same L x = wS same L k)) [k] = [k] by simp]
    simp [encK]
  · rename_i e
    rw [show List.filter (fun x => decide (wS same L x = j)) [k] = [] by simp [e]]
    simp
theorem walkK_len {k j : Nat} : (walkK same L od k j).length ≤ k := by
  unfold walkK
  rw [List.length_map]
  refine Nat.le_trans (List.length_filter_le _ _) ?_
  rw [List.length_range]
  exact Nat.le_refl _
theorem walkN_end : (walkN same L od (2 * (L + 1))).map PyData.list = (walkX same L od).map nats := by
  unfold walkN walkX
  rw [List.map_map, List.map_map]
  rfl
theorem wPlc_in {k : Nat} (h1 : 0 < wStep L k) (h2 : wStep L k < L) : wPlc same L od k = .draw [(1 / 2, odAt od (k - 1)), (1 / 2, odAt od (k + 1))] := if_pos ⟨h1, h2⟩
theorem wPlc_fin {k : Nat} (h1 : ¬ (0 < wStep L k ∧ wStep L k < L)) (h2 : wStep L k = L) : wPlc false L od k = .fin := by
  unfold wPlc
  rw [if_neg h1, if_pos ⟨h2, rfl⟩]
theorem wPlc_lose {k : Nat} (h1 : ¬ (0 < wStep L k ∧ wStep L k < L)) (h2 : ¬ (wStep L k = L ∧ same = false)) : wPlc same L od k = .lose := by
  unfold wPlc
  rw [if_neg h1, if_neg h2]
theorem wS_le {k : Nat} : (wStep L k : Int) ≤ L := by
  have := wStep_le (L := L) (k := k)
  omega
end
end PL
namespace PL
open PySem PySem.Spec PyProof.Rows L2 DK
theorem num_half : num (1 / 2) = .tuple [.int 1, .int 2] := by
  unfold num
  rw [show (1 / 2 : Rat).num = 1 by decide +kernel, show (1 / 2 : Rat).den = 2 by decide +kernel]
  rfl
end PL
namespace PL
open PySem PySem.Spec PyProof.Rows L2 DK
/-! ## rows of numbers with a common denominator -/
/-- whole numbers of at most X over a common denominator of at most X -/
def Rw (X : Nat) (qs : List Rat) : Prop := ∃ D : Int, D ≠ 0 ∧ D.natAbs ≤ X ∧ ∀ q ∈ qs, ∃ v : Int, v.natAbs ≤ X ∧ q * (D : Rat) = (v : Rat)
theorem Rw.mono {X Y : Nat} {qs : List Rat} (h : Rw X qs) (hXY : X ≤ Y) : Rw Y qs := by
  obtain ⟨D, h1, h2, h3⟩ := h
  exact ⟨D, h1, Nat.le_trans h2 hXY, fun q hq => let ⟨v, a, b⟩ := h3 q hq; ⟨v, Nat.le_trans a hXY, b⟩⟩
theorem int_ne {D : Int} (h : D ≠ 0) : (D : Rat) ≠ 0 := fun z => h (Rat.intCast_eq_zero_iff.mp z)
theorem num_eq (q : Rat) : (q.num : Rat) = q * ((q.den : Int) : Rat) := by
  have h1 := Rat.num_divInt_den q
  rw [Rat.divInt_eq_div] at h1
  have h : ((q.den : Int) : Rat) ≠ 0 := int_ne (by have := q.den_nz; omega)
  generalize hn : (q.num : Rat) = n at h1 ⊢
  generalize hd : ((q.den : Int) : Rat) = d at h1 h ⊢
  rw [← h1, Rat.div_mul_cancel h]
theorem rat_bound {q : Rat} {D v : Int} (hD : D ≠ 0) (h : q * (D : Rat) = (v : Rat)) : q.den ≤ D.natAbs ∧ q.num.natAbs ≤ v.natAbs := by
  have e : q.num * D = v * (q.den : Int) := by
    have e1 := num_eq q
    have e2 : ((q.num * D : Int) : Rat) = ((v * (q.den : Int) : Int) : Rat) := by
      rw [Rat.intCast_mul, Rat.intCast_mul, ← h, e1]
      grind
    exact Rat.intCast_inj.mp e2
  have en : q.num.natAbs * D.natAbs = v.natAbs * q.den := by
    have := congrArg Int.natAbs e
    rw [Int.natAbs_mul, Int.natAbs_mul] at this
    simpa using this
  have dv : q.den ∣ D.natAbs := by
    have : q.den ∣ q.num.natAbs * D.natAbs := by rw [en]; exact Nat.dvd_mul_left _ _
    exact Nat.Coprime.dvd_of_dvd_mul_left q.reduced.symm this
  have pD : 0 < D.natAbs := Int.natAbs_pos.mpr hD
  have le := Nat.le_of_dvd pD dv
  refine ⟨le, ?_⟩
  have h2 : q.num.natAbs * D.natAbs ≤ v.natAbs * D.natAbs := by rw [en]; exact Nat.mul_le_mul_left _ le
  exact Nat.le_of_mul_le_mul_right h2 pD
theorem Rw.sz {X k : Nat} {qs : List Rat} (h : Rw X qs) (hX : X < 2 ^ k) {q : Rat} (hq : q ∈ qs) : Sz k q := by
  obtain ⟨D, h1, h2, h3⟩ := h
  obtain ⟨v, a, b⟩ := h3 q hq
  obtain ⟨c, d⟩ := rat_bound h1 b
  exact ⟨by omega, by omega⟩
/-- every one divided by one of them -/
theorem Rw.scale {X : Nat} {qs rs : List Rat} {p : Rat} (h : Rw X qs) (hp : p ∈ qs) (p0 : p ≠ 0) (hr : ∀ r ∈ rs, ∃ q ∈ qs, r * p = q) : Rw X rs := by
  obtain ⟨D, h1, h2, h3⟩ := h
  obtain ⟨u, hu, eu⟩ := h3 p hp
  have u0 : u ≠ 0 := fun z => by
    rw [z] at eu
    have hd := int_ne h1
    have e0 : p * (D : Rat) = 0 := eu
    rcases Rat.mul_eq_zero.mp e0 with w | w
    · exact p0 w
    · exact hd w
  refine ⟨u, u0, hu, fun r hr' => ?_⟩
  obtain ⟨q, hq, e⟩ := hr r hr'
  obtain ⟨v, hv, ev⟩ := h3 q hq
  refine ⟨v, hv, ?_⟩
  rw [← ev, ← e, ← eu]
  grind
/-- a multiple of another row taken away -/
theorem Rw.less {X : Nat} {qs os rs : List Rat} {c : Rat} (h : Rw X qs) (ho : Rw X os) (hc : c ∈ qs) (hr : ∀ r ∈ rs, ∃ q ∈ qs, ∃ o ∈ os, r = q - c * o) : Rw (2 * (X * X)) rs := by
  obtain ⟨D, h1, h2, h3⟩ := h
  obtain ⟨E, g1, g2, g3⟩ := ho
  obtain ⟨u, hu, eu⟩ := h3 c hc
  refine ⟨D * E, Int.mul_ne_zero h1 g1, ?_, fun r hr' => ?_⟩
  · rw [Int.natAbs_mul]
    have := Nat.mul_le_mul h2 g2
    omega
  · obtain ⟨q, hq, o, ho', rfl⟩ := hr r hr'
    obtain ⟨v, hv, ev⟩ := h3 q hq
    obtain ⟨w, hw, ew⟩ := g3 o ho'
    refine ⟨v * E - u * w, ?_, ?_⟩
    · have a1 : (v * E).natAbs ≤ X * X := by rw [Int.natAbs_mul]; exact Nat.mul_le_mul hv g2
      have a2 : (u * w).natAbs ≤ X * X := by rw [Int.natAbs_mul]; exact Nat.mul_le_mul hu hw
      have a3 := Int.natAbs_sub_le (v * E) (u * w)
      omega
    · rw [Rat.intCast_sub, Rat.intCast_mul, Rat.intCast_mul, Rat.intCast_mul, ← ev, ← eu, ← ew]
      grind
def XX (X0 : Nat) : Nat → Nat
  | 0 => X0
  | k + 1 => 2 * (XX X0 k * XX X0 k)
theorem XX_mono {X0 : Nat} (h : 1 ≤ X0) : ∀ {j k : Nat}, j ≤ k → XX X0 j ≤ XX X0 k ∧ 1 ≤ XX X0 k
  | j, 0, hj => by
    have : j = 0 := by omega
    subst this
    exact ⟨Nat.le_refl _, h⟩
  | j, k + 1, hj => by
    have p : 1 ≤ XX X0 k := (XX_mono h (Nat.le_refl k)).2
    have le : XX X0 k ≤ XX X0 (k + 1) := by
      show _ ≤ 2 * (XX X0 k * XX X0 k)
      have := Nat.le_mul_of_pos_left (XX X0 k) p
      omega
    by_cases e : j = k + 1
    · subst e
      exact ⟨Nat.le_refl _, Nat.le_trans p le⟩
    · exact ⟨Nat.le_trans (XX_mono h (by omega)).1 le, Nat.le_trans p le⟩
def LL (L0 : Nat) : Nat → Nat
  | 0 => L0
  | k + 1 => 2 * LL L0 k + 1
theorem XX_bits {X0 L0 : Nat} (h : X0 < 2 ^ L0) : ∀ k, XX X0 k < 2 ^ LL L0 k
  | 0 => h
  | k + 1 => by
    have ih := XX_bits h k
    show 2 * (XX X0 k * XX X0 k) < 2 ^ (2 * LL L0 k + 1)
    have e : 2 ^ (2 * LL L0 k + 1) = 2 * (2 ^ LL L0 k * 2 ^ LL L0 k) := by
      rw [Nat.pow_succ, Nat.two_mul, Nat.pow_add]
      omega
    rw [e]
    have : XX X0 k * XX X0 k < 2 ^ LL L0 k * 2 ^ LL L0 k := Nat.mul_lt_mul_of_lt_of_le ih (Nat.le_of_lt ih) (by omega)
    omega
end PL
namespace PL
open PySem PySem.Spec PyProof.Rows L2 DK
/-! ## linear equations -/
def dt : List Rat → (Nat → Rat) → Rat
  | [], _ => 0
  | a :: r, x => a * x 0 + dt r fun i => x (i + 1)
theorem dt_add : ∀ (f : List Rat) (x y : Nat → Rat), dt f (fun i => x i + y i) = dt f x + dt f y
  | [], _, _ => by show (0 : Rat) = 0 + 0; grind
  | a :: r, x, y => by
    show a * (x 0 + y 0) + dt r (fun i => x (i + 1) + y (i + 1)) = (a * x 0 + dt r fun i => x (i + 1)) + (a * y 0 + dt r fun i => y (i + 1))
    rw [dt_add r (fun i => x (i + 1)) fun i => y (i + 1)]
    grind
theorem dt_scale (c : Rat) : ∀ (f : List Rat) (x : Nat → Rat), dt (f.map (c * ·)) x = c * dt f x
  | [], _ => by show (0 : Rat) = c * 0; grind
  | a :: r, x => by
    show c * a * x 0 + dt (r.map (c * ·)) (fun i => x (i + 1)) = c * (a * x 0 + dt r fun i => x (i + 1))
    rw [dt_scale c r]
    grind
theorem dt_less (c : Rat) : ∀ (f g : List Rat) (x : Nat → Rat), f.length = g.length → dt (List.zipWith (fun a b => a - c * b) f g) x = dt f x - c * dt g x
  | [], [], _, _ => by show (0 : Rat) = 0 - c * 0; grind
  | a :: r, b :: s, x, h => by
    show (a - c * b) * x 0 + dt (List.zipWith (fun a b => a - c * b) r s) (fun i => x (i + 1)) = (a * x 0 + dt r fun i => x (i + 1)) - c * (b * x 0 + dt s fun i => x (i + 1))
    rw [dt_less c r s _ (by simpa using h)]
    grind
  | [], _ :: _, _, h => by simp at h
  | _ :: _, [], _, h => by simp at h
theorem dt_zero : ∀ (f : List Rat) (x : Nat → Rat), (∀ i, i < f.length → f.getD i 0 * x i = 0) → dt f x = 0
  | [], _, _ => rfl
  | a :: r, x, h => by
    show a * x 0 + dt r (fun i => x (i + 1)) = 0
    have h0 : a * x 0 = 0 := h 0 (by simp)
    rw [h0, dt_zero r (fun i => x (i + 1)) fun i hi => h (i + 1) (by simpa using hi)]
    grind
theorem dt_one : ∀ (f : List Rat) (x : Nat → Rat) (j : Nat), j < f.length → (∀ i, i < f.length → i ≠ j → f.getD i 0 * x i = 0) → dt f x = f.getD j 0 * x j
  | [], _, _, hj, _ => by simp at hj
  | a :: r, x, 0, _, h => by
    show a * x 0 + dt r (fun i => x (i + 1)) = a * x 0
    rw [dt_zero r (fun i => x (i + 1)) fun i hi => h (i + 1) (by simpa using hi) (by omega)]
    grind
  | a :: r, x, j + 1, hj, h => by
    show a * x 0 + dt r (fun i => x (i + 1)) = r.getD j 0 * x (j + 1)
    have h0 : a * x 0 = 0 := h 0 (by simp) (by omega)
    rw [h0, dt_one r (fun i => x (i + 1)) j (by simpa using hj) fun i hi hij => h (i + 1) (by simpa using hi) (by omega)]
    grind
structure Ln where
  f : List Rat
  b : Rat
  m : List Rat
def Ln.all (l : Ln) : List Rat := l.f ++ l.b :: l.m
def Ln.scale (c : Rat) (l : Ln) : Ln := ⟨l.f.map (c * ·), c * l.b, l.m.map (c * ·)⟩
def Ln.sub (c : Rat) (l o : Ln) : Ln := ⟨List.zipWith (fun a b => a - c * b) l.f o.f, l.b - c * o.b, List.zipWith (fun a b => a - c * b) l.m o.m⟩
/-- without the column j, by the line o -/
def Ln.out (j : Nat) (l o : Ln) : Ln := if l.f.getD j 0 = 0 then l else l.sub (l.f.getD j 0) o
/-- holds at x, the bounds times β -/
def Ln.at (l : Ln) (x : Nat → Rat) (β : Rat) : Prop := dt l.f x = β * l.b
theorem Ln.at_scale {l : Ln} {x : Nat → Rat} {β c : Rat} (h : c ≠ 0) : (l.scale c).at x β ↔ l.at x β := by
  unfold Ln.at Ln.scale
  rw [dt_scale]
  constructor
  · intro z
    grind
  · intro z
    rw [z]
    grind
theorem Ln.at_out {l o : Ln} {x : Nat → Rat} {β : Rat} {j : Nat} (hl : l.f.length = o.f.length) (ho : o.at x β) : (l.out j o).at x β ↔ l.at x β := by
  unfold Ln.out
  split
  · exact Iff.rfl
  · unfold Ln.at Ln.sub at *
    rw [dt_less _ _ _ _ hl, ho]
    constructor
    · intro z; grind
    · intro z; grind
theorem getD_map {c : Rat} {f : List Rat} {i : Nat} : (f.map (c * ·)).getD i 0 = c * f.getD i 0 := by
  rw [List.getD_eq_getElem?_getD, List.getD_eq_getElem?_getD, List.getElem?_map]
  cases f[i]? with
  | none => show (0 : Rat) = c * 0; grind
  | some v => rfl
theorem getD_less {c : Rat} {f g : List Rat} {i : Nat} (h : f.length = g.length) : (List.zipWith (fun a b => a - c * b) f g).getD i 0 = f.getD i 0 - c * g.getD i 0 := by
  by_cases hi : i < f.length
  · rw [List.getD_eq_getElem?_getD, List.getD_eq_getElem?_getD, List.getD_eq_getElem?_getD, List.getElem?_zipWith, List.getElem?_eq_getElem hi, List.getElem?_eq_getElem (by omega)]
    rfl
  · rw [List.getD_eq_getElem?_getD, List.getD_eq_getElem?_getD, List.getD_eq_getElem?_getD, List.getElem?_eq_none (by simp; omega), List.getElem?_eq_none (by omega), List.getElem?_eq_none (by omega)]
    show (0 : Rat) = 0 - c * 0
    grind
theorem Ln.out_len {j : Nat} {o l : Ln} (hl : l.f.length = o.f.length) : (l.out j o).f.length = l.f.length := by
  unfold Ln.out
  split
  · rfl
  · unfold Ln.sub
    simp [hl]
theorem Ln.out_get {j : Nat} {o l : Ln} (hl : l.f.length = o.f.length) (i : Nat) : (l.out j o).f.getD i 0 = l.f.getD i 0 - l.f.getD j 0 * o.f.getD i 0 := by
  unfold Ln.out
  split
  · rename_i h
    rw [h]
    grind
  · exact getD_less hl
theorem Ln.scale_get {c : Rat} {l : Ln} (i : Nat) : (l.scale c).f.getD i 0 = c * l.f.getD i 0 := getD_map
/-! ### a state of the elimination -/
structure GJ (n : Nat) (rows : List Ln) (c : Nat) (sv wt : List Ln) : Prop where
  len : ∀ l ∈ sv ++ wt, l.f.length = n
  cnt : sv.length + wt.length = rows.length
  piv : sv.length = c
  unit : ∀ (j : Nat) (l : Ln), sv[j]? = some l → ∀ i, i < c → l.f.getD i 0 = if i = j then 1 else 0
  nought : ∀ l ∈ wt, ∀ i, i < c → l.f.getD i 0 = 0
  same : ∀ x β, (∀ l ∈ rows, l.at x β) ↔ ∀ l ∈ sv ++ wt, l.at x β
/-- only nought solves the equations with the bounds 0 -/
def Tight (n : Nat) (rows : List Ln) : Prop := ∀ x : Nat → Rat, (∀ l ∈ rows, l.at x 0) → ∀ i, i < n → x i = 0
theorem GJ.start {n : Nat} {rows : List Ln} (h : ∀ l ∈ rows, l.f.length = n) : GJ n rows 0 [] rows :=
  ⟨fun l hl => h l (by simpa using hl), by simp, rfl, fun j l e => by simp at e, fun l _ i hi => by omega, fun x β => by simp⟩
theorem GJ.pivot {n c : Nat} {rows sv wt : List Ln} (g : GJ n rows c sv wt) (t : Tight n rows) (hc : c < n) : ∃ l ∈ wt, l.f.getD c 0 ≠ 0 := by
  refine Classical.byContradiction fun no => ?_
  have no : ∀ l ∈ wt, l.f.getD c 0 = 0 := fun l hl => Classical.byContradiction fun z => no ⟨l, hl, z⟩
  let x : Nat → Rat := fun i => if i < c then - (sv.getD i ⟨[], 0, []⟩).f.getD c 0 else if i = c then 1 else 0
  have hx := t x ((g.same x 0).mpr fun l hl => ?_) c hc
  · have e : x c = 1 := by
      show (if c < c then _ else if c = c then (1 : Rat) else 0) = 1
      rw [if_neg (Nat.lt_irrefl c), if_pos rfl]
    rw [e] at hx
    exact absurd hx (by decide)
  · have ll := g.len l hl
    show dt l.f x = 0 * l.b
    have z0 : (0 : Rat) * l.b = 0 := by grind
    rw [z0]
    rcases List.mem_append.mp hl with hs | hw
    · obtain ⟨j, hj, ej⟩ := List.mem_iff_getElem.mp hs
      have e : sv[j]? = some l := by rw [List.getElem?_eq_getElem hj, ej]
      have jc : j < c := by rw [← g.piv]; exact hj
      have u := g.unit j l e
      let y : Nat → Rat := fun i => if i = j then x j else 0
      let z : Nat → Rat := fun i => if i = j then 0 else x i
      have exy : x = fun i => y i + z i := by
        funext i
        show x i = (if i = j then x j else 0) + (if i = j then 0 else x i)
        by_cases h : i = j
        · subst h
          rw [if_pos rfl, if_pos rfl]
          grind
        · rw [if_neg h, if_neg h]
          grind
      rw [exy, dt_add]
      have d1 : dt l.f y = l.f.getD j 0 * y j := dt_one l.f y j (by omega) fun i _ hi => by
        show _ * (if i = j then x j else 0) = 0
        rw [if_neg hi]
        grind
      have d2 : dt l.f z = l.f.getD c 0 * z c := dt_one l.f z c (by omega) fun i hi hic => by
        show _ * (if i = j then 0 else x i) = 0
        by_cases h : i = j
        · rw [if_pos h]
          grind
        · rw [if_neg h]
          by_cases h2 : i < c
          · rw [u i h2, if_neg h]
            grind
          · have : x i = 0 := by
              show (if i < c then _ else if i = c then (1 : Rat) else 0) = 0
              rw [if_neg h2, if_neg hic]
            rw [this]
            grind
      have yj : y j = - l.f.getD c 0 := by
        show (if j = j then x j else 0) = _
        rw [if_pos rfl]
        show (if j < c then - (sv.getD j ⟨[], 0, []⟩).f.getD c 0 else _) = _
        have es : sv.getD j ⟨[], 0, []⟩ = l := by rw [List.getD_eq_getElem?_getD, e]; rfl
        rw [if_pos jc, es]
      have zc : z c = 1 := by
        show (if c = j then (0 : Rat) else x c) = 1
        rw [if_neg (by omega)]
        show (if c < c then _ else if c = c then (1 : Rat) else 0) = 1
        rw [if_neg (Nat.lt_irrefl c), if_pos rfl]
      rw [d1, d2, yj, zc, u j jc, if_pos rfl]
      grind
    · refine dt_zero l.f x fun i hi => ?_
      by_cases h1 : i < c
      · rw [g.nought l hw i h1]
        grind
      · by_cases h2 : i = c
        · subst h2
          rw [no l hw]
          grind
        · have : x i = 0 := by
            show (if i < c then _ else if i = c then (1 : Rat) else 0) = 0
            rw [if_neg h1, if_neg h2]
          rw [this]
          grind
end PL
namespace PL
open PySem PySem.Spec PyProof.Rows L2 DK
theorem inv_ne {p : Rat} (h : p ≠ 0) : (1 / p : Rat) ≠ 0 := fun z => by
  have : p * (1 / p) = 1 := by grind
  rw [z] at this
  have : (0 : Rat) = 1 := by grind
  exact absurd this (by decide)
/-- one column more -/
theorem GJ.step {n c : Nat} {rows sv wt w' : List Ln} {l : Ln} (g : GJ n rows c sv wt) (hc : c < n) (hp : l.f.getD c 0 ≠ 0) (hw : ∀ x, x ∈ wt ↔ x = l ∨ x ∈ w') (hn : w'.length + 1 = wt.length) :
    GJ n rows (c + 1) (sv.map (fun x => x.out c (l.scale (1 / l.f.getD c 0))) ++ [l.scale (1 / l.f.getD c 0)]) (w'.map fun x => x.out c (l.scale (1 / l.f.getD c 0))) := by
  have hlw : l ∈ wt := (hw l).mpr (.inl rfl)
  have ll := g.len l (List.mem_append_right _ hlw)
  have i0 := inv_ne hp
  generalize eo : l.scale (1 / l.f.getD c 0) = o
  have ol : o.f.length = n := by rw [← eo]; unfold Ln.scale; simp [ll]
  have oc : o.f.getD c 0 = 1 := by rw [← eo, Ln.scale_get]; grind
  have oi : ∀ i, i < c → o.f.getD i 0 = 0 := fun i hi => by
    rw [← eo, Ln.scale_get, g.nought l hlw i hi]
    grind
  have lsv : ∀ x ∈ sv, x.f.length = o.f.length := fun x hx => by rw [ol]; exact g.len x (List.mem_append_left _ hx)
  have lw : ∀ x ∈ w', x.f.length = o.f.length := fun x hx => by rw [ol]; exact g.len x (List.mem_append_right _ ((hw x).mpr (.inr hx)))
  refine ⟨fun x hx => ?_, ?_, by simp [g.piv], fun j x e i hi => ?_, fun x hx i hi => ?_, fun x β => ?_⟩
  · rcases List.mem_append.mp hx with hx | hx
    · rcases List.mem_append.mp hx with hx | hx
      · obtain ⟨y, hy, rfl⟩ := List.mem_map.mp hx
        rw [Ln.out_len (lsv y hy), lsv y hy, ol]
      · simp only [List.mem_singleton] at hx
        rw [hx, ol]
    · obtain ⟨y, hy, rfl⟩ := List.mem_map.mp hx
      rw [Ln.out_len (lw y hy), lw y hy, ol]
  · have := g.cnt
    simp
    omega
  · have pv := g.piv
    by_cases hj : j < c
    · rw [List.getElem?_append_left (by simp; omega), List.getElem?_map] at e
      cases e2 : sv[j]? with
      | none => rw [e2] at e; cases e
      | some y =>
        rw [e2] at e
        cases e
        have hy := List.mem_of_getElem? e2
        rw [Ln.out_get (lsv y hy)]
        by_cases h : i < c
        · rw [oi i h, g.unit j y e2 i h]
          grind
        · have : i = c := by omega
          subst this
          rw [oc, if_neg (by omega)]
          grind
    · rw [List.getElem?_append_right (by simp; omega)] at e
      have hj2 : j - (sv.map fun x => x.out c o).length = 0 := by
        have := (List.getElem?_eq_some_iff.mp e).1
        simp at this ⊢
        omega
      rw [hj2] at e
      cases e
      simp at hj2
      by_cases h : i < c
      · rw [oi i h, if_neg (by omega)]
      · have : i = c := by omega
        subst this
        rw [oc, if_pos (by omega)]
  · obtain ⟨y, hy, rfl⟩ := List.mem_map.mp hx
    rw [Ln.out_get (lw y hy)]
    by_cases h : i < c
    · rw [oi i h, g.nought y ((hw y).mpr (.inr hy)) i h]
      grind
    · have : i = c := by omega
      subst this
      rw [oc]
      grind
  · rw [g.same x β]
    have os : o.at x β ↔ l.at x β := by rw [← eo]; exact Ln.at_scale i0
    constructor
    · intro z y hy
      have ho : o.at x β := os.mpr (z l (List.mem_append_right _ hlw))
      rcases List.mem_append.mp hy with hy | hy
      · rcases List.mem_append.mp hy with hy | hy
        · obtain ⟨v, hv, rfl⟩ := List.mem_map.mp hy
          exact (Ln.at_out (lsv v hv) ho).mpr (z v (List.mem_append_left _ hv))
        · simp only [List.mem_singleton] at hy
          rw [hy]
          exact ho
      · obtain ⟨v, hv, rfl⟩ := List.mem_map.mp hy
        exact (Ln.at_out (lw v hv) ho).mpr (z v (List.mem_append_right _ ((hw v).mpr (.inr hv))))
    · intro z y hy
      have ho : o.at x β := z o (List.mem_append_left _ (List.mem_append_right _ (List.mem_singleton.mpr rfl)))
      rcases List.mem_append.mp hy with hy | hy
      · exact (Ln.at_out (lsv y hy) ho).mp (z _ (List.mem_append_left _ (List.mem_append_left _ (List.mem_map.mpr ⟨y, hy, rfl⟩))))
      · rcases (hw y).mp hy with e | hy
        · rw [e]
          exact os.mp ho
        · exact (Ln.at_out (lw y hy) ho).mp (z _ (List.mem_append_right _ (List.mem_map.mpr ⟨y, hy, rfl⟩)))
/-- the end: the bounds are the only solution -/
theorem GJ.done {n : Nat} {rows sv wt : List Ln} (g : GJ n rows n sv wt) (hr : rows.length = n) : wt = [] ∧ ∀ x, (∀ l ∈ rows, l.at x 1) ↔ ∀ j, j < n → x j = (sv.getD j ⟨[], 0, []⟩).b := by
  have hw : wt = [] := List.length_eq_zero_iff.mp (by have := g.cnt; have := g.piv; omega)
  refine ⟨hw, fun x => ?_⟩
  rw [g.same x 1, hw, List.append_nil]
  have key : ∀ (j : Nat) (l : Ln), sv[j]? = some l → dt l.f x = x j := fun j l e => by
    have hl := g.len l (List.mem_append_left _ (List.mem_of_getElem? e))
    have hj : j < n := by rw [← g.piv]; exact (List.getElem?_eq_some_iff.mp e).1
    rw [dt_one l.f x j (by omega) fun i hi hij => by rw [g.unit j l e i (by omega), if_neg hij]; grind]
    rw [g.unit j l e j hj, if_pos rfl]
    grind
  constructor
  · intro z j hj
    have hj2 : j < sv.length := by rw [g.piv]; exact hj
    have e : sv[j]? = some sv[j] := List.getElem?_eq_getElem hj2
    have := z sv[j] (List.getElem_mem hj2)
    unfold Ln.at at this
    rw [key j _ e] at this
    rw [List.getD_eq_getElem?_getD, e]
    show x j = sv[j].b
    rw [this]
    grind
  · intro z l hl
    obtain ⟨j, hj, rfl⟩ := List.mem_iff_getElem.mp hl
    have e : sv[j]? = some sv[j] := List.getElem?_eq_getElem hj
    unfold Ln.at
    rw [key j _ e, z j (by rw [← g.piv]; exact hj), List.getD_eq_getElem?_getD, e]
    show sv[j].b = 1 * sv[j].b
    grind
/-! ### sizes -/
def Szs (X : Nat) (ls : List Ln) : Prop := ∀ l ∈ ls, Rw X l.all
theorem scale_sz {X : Nat} {l : Ln} {c : Nat} (h : Rw X l.all) (hc : c < l.f.length) (hp : l.f.getD c 0 ≠ 0) : Rw X (l.scale (1 / l.f.getD c 0)).all := by
  have hm : l.f.getD c 0 ∈ l.all := List.mem_append_left _ (by rw [List.getD_eq_getElem?_getD, List.getElem?_eq_getElem hc]; exact List.getElem_mem hc)
  generalize l.f.getD c 0 = p at hm hp ⊢
  have key : ∀ q : Rat, (1 / p * q) * p = q := fun q => by grind
  refine h.scale hm hp fun r hr => ?_
  unfold Ln.scale Ln.all at hr
  rcases List.mem_append.mp hr with hr | hr
  · obtain ⟨q, hq, rfl⟩ := List.mem_map.mp hr
    exact ⟨q, List.mem_append_left _ hq, key q⟩
  · rcases List.mem_cons.mp hr with hr | hr
    · exact ⟨l.b, List.mem_append_right _ List.mem_cons_self, by rw [hr]; exact key _⟩
    · obtain ⟨q, hq, rfl⟩ := List.mem_map.mp hr
      exact ⟨q, List.mem_append_right _ (List.mem_cons_of_mem _ hq), key q⟩
theorem mem_zipWith {f : Rat → Rat → Rat} : ∀ {a b : List Rat} {r : Rat}, r ∈ List.zipWith f a b → ∃ x ∈ a, ∃ y ∈ b, r = f x y
  | [], _, _, h => by simp at h
  | _ :: _, [], _, h => by simp at h
  | x :: a, y :: b, r, h => by
    rcases List.mem_cons.mp (show r ∈ f x y :: List.zipWith f a b from h) with z | z
    · exact ⟨x, List.mem_cons_self, y, List.mem_cons_self, z⟩
    · obtain ⟨u, hu, v, hv, e⟩ := mem_zipWith z
      exact ⟨u, List.mem_cons_of_mem _ hu, v, List.mem_cons_of_mem _ hv, e⟩
theorem out_sz {X : Nat} {l o : Ln} {c : Nat} (h : Rw X l.all) (ho : Rw X o.all) (hX : 1 ≤ X) (hc : c < l.f.length) : Rw (2 * (X * X)) (l.out c o).all := by
  have big : X ≤ 2 * (X * X) := by
    have := Nat.le_mul_of_pos_left X hX
    omega
  unfold Ln.out
  split
  · exact h.mono big
  · have hm : l.f.getD c 0 ∈ l.all := List.mem_append_left _ (by rw [List.getD_eq_getElem?_getD, List.getElem?_eq_getElem hc]; exact List.getElem_mem hc)
    refine h.less ho hm fun r hr => ?_
    unfold Ln.sub Ln.all at hr
    rcases List.mem_append.mp hr with hr | hr
    · obtain ⟨x, hx, y, hy, e⟩ := mem_zipWith hr
      exact ⟨x, List.mem_append_left _ hx, y, List.mem_append_left _ hy, e⟩
    · rcases List.mem_cons.mp hr with hr | hr
      · exact ⟨l.b, List.mem_append_right _ List.mem_cons_self, o.b, List.mem_append_right _ List.mem_cons_self, hr⟩
      · obtain ⟨x, hx, y, hy, e⟩ := mem_zipWith hr
        exact ⟨x, List.mem_append_right _ (List.mem_cons_of_mem _ hx), y, List.mem_append_right _ (List.mem_cons_of_mem _ hy), e⟩
end PL
namespace PL
open PySem PySem.Spec PyProof.Rows L2 DK
/-! ## places that lead ahead: only nought solves the homogeneous equations -/
def aR (v : Rat) : Rat := if v < 0 then -v else v
theorem aR_nn (v : Rat) : 0 ≤ aR v := by unfold aR; split <;> grind
theorem aR_le (v : Rat) : v ≤ aR v ∧ -v ≤ aR v := by unfold aR; split <;> constructor <;> grind
theorem aR_zero {v : Rat} (h : aR v ≤ 0) : v = 0 := by have := aR_le v; grind
theorem aR_of {v M : Rat} (h1 : v ≤ M) (h2 : -v ≤ M) : aR v ≤ M := by unfold aR; split <;> assumption
theorem aR_lt {v M : Rat} (h1 : v < M) (h2 : -v < M) : aR v < M := by unfold aR; split <;> assumption
theorem most_last (x : Nat → Rat) : ∀ n, 0 < n → ∃ m, m < n ∧ ∀ j, j < n → aR (x j) ≤ aR (x m) ∧ (m < j → aR (x j) < aR (x m))
  | 0, h => by omega
  | 1, _ => ⟨0, by omega, fun j hj => by
    have : j = 0 := by omega
    subst this
    exact ⟨by grind, fun z => by omega⟩⟩
  | n + 2, _ => by
    obtain ⟨m, hm, h⟩ := most_last x (n + 1) (by omega)
    by_cases c : aR (x m) ≤ aR (x (n + 1))
    · refine ⟨n + 1, by omega, fun j hj => ?_⟩
      by_cases e : j = n + 1
      · subst e
        exact ⟨by grind, fun z => by omega⟩
      · have := (h j (by omega)).1
        exact ⟨by grind, fun z => by omega⟩
    · refine ⟨m, by omega, fun j hj => ?_⟩
      by_cases e : j = n + 1
      · subst e
        exact ⟨by grind, fun _ => by grind⟩
      · exact h j (by omega)
/-- the mean of numbers at the targets -/
def ev (bs : List (Rat × Nat)) (x : Nat → Rat) : Rat := sumQ (bs.map fun b => b.1 * x b.2)
theorem ev_nil (x : Nat → Rat) : ev [] x = 0 := rfl
theorem ev_cons (b : Rat × Nat) (bs : List (Rat × Nat)) (x : Nat → Rat) : ev (b :: bs) x = b.1 * x b.2 + ev bs x := by
  unfold ev
  rw [List.map_cons, sumQ_cons]
theorem mul_le_r {c v M : Rat} (hc : 0 ≤ c) (h : v ≤ M) : c * v ≤ c * M := by
  have : 0 ≤ c * (M - v) := Rat.mul_nonneg hc (by grind)
  grind
theorem mul_lt_r {c v M : Rat} (hc : 0 < c) (h : v < M) : c * v < c * M := by
  have : 0 < c * (M - v) := Rat.mul_pos hc (by grind)
  grind
theorem ev_le {x : Nat → Rat} {M : Rat} : ∀ {bs : List (Rat × Nat)}, (∀ b ∈ bs, 0 ≤ b.1 ∧ aR (x b.2) ≤ M) → ev bs x ≤ sumQ (bs.map (·.1)) * M ∧ -(ev bs x) ≤ sumQ (bs.map (·.1)) * M
  | [], _ => by
    have e : sumQ (([] : List (Rat × Nat)).map (·.1)) = 0 := rfl
    rw [ev_nil, e]
    constructor <;> grind
  | b :: bs, h => by
    obtain ⟨h1, h2⟩ := ev_le (x := x) (M := M) (bs := bs) fun c hc => h c (List.mem_cons_of_mem _ hc)
    obtain ⟨g1, g2⟩ := h b List.mem_cons_self
    have a := aR_le (x b.2)
    have m1 : b.1 * x b.2 ≤ b.1 * M := mul_le_r g1 (by grind)
    have m2 : b.1 * (-(x b.2)) ≤ b.1 * M := mul_le_r g1 (by grind)
    rw [ev_cons, List.map_cons, sumQ_cons]
    constructor <;> grind
theorem ev_lt {x : Nat → Rat} {M : Rat} : ∀ {bs : List (Rat × Nat)}, (∀ b ∈ bs, 0 ≤ b.1 ∧ aR (x b.2) ≤ M) → (∃ b ∈ bs, 0 < b.1 ∧ aR (x b.2) < M) → ev bs x < sumQ (bs.map (·.1)) * M ∧ -(ev bs x) < sumQ (bs.map (·.1)) * M
  | [], _, ⟨b, hb, _⟩ => by cases hb
  | b :: bs, h, ⟨d, hd, d1, d2⟩ => by
    obtain ⟨h1, h2⟩ := ev_le (x := x) (M := M) (bs := bs) fun c hc => h c (List.mem_cons_of_mem _ hc)
    obtain ⟨g1, g2⟩ := h b List.mem_cons_self
    have a := aR_le (x b.2)
    rw [ev_cons, List.map_cons, sumQ_cons]
    rcases List.mem_cons.mp hd with e | hd
    · subst e
      have m1 : d.1 * x d.2 < d.1 * M := mul_lt_r d1 (by grind)
      have m2 : d.1 * (-(x d.2)) < d.1 * M := mul_lt_r d1 (by grind)
      constructor <;> grind
    · obtain ⟨k1, k2⟩ := ev_lt (x := x) (M := M) (bs := bs) (fun c hc => h c (List.mem_cons_of_mem _ hc)) ⟨d, hd, d1, d2⟩
      have m1 : b.1 * x b.2 ≤ b.1 * M := mul_le_r g1 (by grind)
      have m2 : b.1 * (-(x b.2)) ≤ b.1 * M := mul_le_r g1 (by grind)
      constructor <;> grind
/-- branches of chances, one of them ahead -/
structure Ahead (n p : Nat) (bs : List (Rat × Nat)) : Prop where
  pos : ∀ b ∈ bs, 0 < b.1 ∧ b.2 < n
  one : sumQ (bs.map (·.1)) = 1
  fwd : ∃ b ∈ bs, p < b.2
theorem ahead_zero {n : Nat} {br : Nat → List (Rat × Nat)} (h : ∀ p, p < n → br p = [] ∨ Ahead n p (br p)) {x : Nat → Rat} (hx : ∀ p, p < n → x p = ev (br p) x) : ∀ i, i < n → x i = 0 := fun i hi => by
  obtain ⟨m, hm, hmax⟩ := most_last x n (by omega)
  have z : aR (x m) ≤ 0 := by
    rcases h m hm with e | A
    · have := hx m hm
      rw [e, ev_nil] at this
      rw [this]
      unfold aR
      split <;> grind
    · refine Classical.byContradiction fun hn => ?_
      obtain ⟨b, hb, hf⟩ := A.fwd
      have hb2 := A.pos b hb
      obtain ⟨q1, q2⟩ := ev_lt (x := x) (M := aR (x m)) (bs := br m) (fun c hc => ⟨by have := (A.pos c hc).1; grind, (hmax c.2 (A.pos c hc).2).1⟩) ⟨b, hb, hb2.1, (hmax b.2 hb2.2).2 hf⟩
      rw [A.one, ← hx m hm] at q1 q2
      have := aR_lt (v := x m) (M := 1 * aR (x m)) q1 q2
      grind
  exact aR_zero (by have := (hmax i hi).1; grind)
/-! ### the row of a place -/
theorem dt_set : ∀ (f : List Rat) (x : Nat → Rat) (j : Nat) (c : Rat), j < f.length → dt (f.set j (f.getD j 0 - c)) x = dt f x - c * x j
  | [], _, _, _, h => by simp at h
  | a :: r, x, 0, c, _ => by
    show (a - c) * x 0 + dt r (fun i => x (i + 1)) = (a * x 0 + dt r fun i => x (i + 1)) - c * x 0
    grind
  | a :: r, x, j + 1, c, h => by
    show a * x 0 + dt (r.set j (r.getD j 0 - c)) (fun i => x (i + 1)) = (a * x 0 + dt r fun i => x (i + 1)) - c * x (j + 1)
    rw [dt_set r (fun i => x (i + 1)) j c (by simpa using h)]
    grind
def unitF (n p : Nat) : List Rat := (List.range n).map fun j => if j = p then 1 else 0
theorem dt_unit {n p : Nat} (hp : p < n) (x : Nat → Rat) : dt (unitF n p) x = x p := by
  have g : ∀ i, i < n → (unitF n p).getD i 0 = if i = p then 1 else 0 := fun i hi => by
    unfold unitF
    rw [List.getD_eq_getElem?_getD, List.getElem?_map, List.getElem?_range hi]
    rfl
  rw [dt_one (unitF n p) x p (by simp [unitF]; exact hp) fun i hi hip => by
    have hi : i < n := by simpa [unitF] using hi
    rw [g i hi, if_neg hip]
    grind]
  rw [g p hp, if_pos rfl]
  grind
/-- the branches' chances taken away, one by one -/
def takeF (f : List Rat) (bs : List (Rat × Nat)) : List Rat := bs.foldl (fun f b => f.set b.2 (f.getD b.2 0 - b.1)) f
theorem takeF_len : ∀ (bs : List (Rat × Nat)) (f : List Rat), (takeF f bs).length = f.length
  | [], _ => rfl
  | b :: bs, f => by
    show (takeF (f.set b.2 (f.getD b.2 0 - b.1)) bs).length = _
    rw [takeF_len bs]
    simp
theorem dt_take (x : Nat → Rat) : ∀ (bs : List (Rat × Nat)) (f : List Rat), (∀ b ∈ bs, b.2 < f.length) → dt (takeF f bs) x = dt f x - ev bs x
  | [], f, _ => by
    show dt f x = dt f x - ev [] x
    rw [ev_nil]
    grind
  | b :: bs, f, h => by
    show dt (takeF (f.set b.2 (f.getD b.2 0 - b.1)) bs) x = _
    rw [dt_take x bs _ (fun c hc => by rw [List.length_set]; exact h c (List.mem_cons_of_mem _ hc)), dt_set f x b.2 b.1 (h b List.mem_cons_self), ev_cons]
    grind
end PL
namespace PL
open PySem PySem.Spec PyProof.Rows L2 DK
theorem q_zip {S : Stt} {a b : Ev} {Q : List PD → Stt → Prop} : O2 (iZipD (aCons a (aCons b aNil)) S) Q ↔ O2 (a S) fun d s => O2 (b s) fun e s2 => asL d fun xs => asL e fun ys => Q (zipD xs ys) s2 := by
  constructor
  · rintro ⟨ds, s, e, q⟩
    unfold iZipD at e
    split at e
    · rename_i xs ys S1 h
      cases e
      obtain ⟨d, s1, e1, ds1, s2, e2, h3, h4⟩ := q_cons.mp (⟨_, _, h, rfl, rfl⟩ : O2 _ fun ds' s2 => ds' = [PyData.list xs, PyData.list ys] ∧ s2 = s)
      obtain ⟨d2, s3, e5, ds2, s4, e6, h7⟩ := q_cons.mp (⟨_, _, e2, rfl, rfl⟩ : O2 _ fun ds' s' => ds' = ds1 ∧ s' = s2)
      cases e6
      obtain ⟨h7, h8⟩ := h7
      subst h7 h8
      cases h3
      subst h4
      exact ⟨_, _, e1, _, _, e5, xs, rfl, ys, rfl, q⟩
    · cases e
  · rintro ⟨d, s1, e1, d2, s2, e2, xs, rfl, ys, rfl, q⟩
    refine ⟨_, s2, ?_, q⟩
    have : aCons a (aCons b aNil) S = some ([.list xs, .list ys], s2) := by
      unfold aCons
      rw [e1]
      dsimp only [bind, Option.bind]
      rw [e2]
      rfl
    unfold iZipD
    rw [this]
def encP (p : Rat × Rat) : PD := .tuple [num p.1, num p.2]
theorem zipD_num : ∀ xs ys : List Rat, zipD (xs.map num) (ys.map num) = (List.zip xs ys).map encP
  | [], _ => rfl
  | _ :: _, [] => rfl
  | x :: xs, y :: ys => by
    have ih := zipD_num xs ys
    unfold zipD at ih ⊢
    show PyData.tuple [num x, num y] :: _ = encP (x, y) :: _
    rw [ih]
    rfl
end PL
namespace PL
open PySem PySem.Spec PyProof.Rows L2 DK
section
variable {S : Stt} {vs : List Nat} {tgt : PD → Stt → Option Stt}
theorem ok_compE {cond : EvB} {elt : Ev} {Q : List PD → Stt → Prop} {xs : List PD} (p : Nat → Bool) (h : Nat → PD)
    (hs : ∀ i (hi : i < xs.length), Ok (tgt (.tuple [.int (i : Int), xs[i]]) S) fun S1 => O2 (cond S1) fun b S2 => b = p i ∧ (p i = true → O2 (elt S2) fun z S3 => z = h i ∧ wipeS S3 vs = S) ∧ (p i = false → wipeS S2 vs = S))
    (q : Q (((List.range xs.length).filter p).map h) S) : O2 (compL vs tgt cond elt (enumD 0 xs) S []) Q := by
  rw [enumD_map]
  refine ok_comp p h (fun i hx => ?_) q
  have hi := List.mem_range.mp hx
  have e : xs.getD i .none = xs[i] := by rw [List.getD_eq_getElem?_getD, List.getElem?_eq_getElem hi]; rfl
  rw [e]
  exact hs i hi
end
theorem enumD_length (xs : List PD) : (enumD 0 xs).length = xs.length := by rw [enumD_map]; simp
end PL
namespace PL
open PySem PySem.Spec PyProof.Rows L2 DK
/-! ## defs that change their first list; while; two stores at once; keywords -/
section
variable {N n : Nat} {g : EvSt} {ds : List PD} {xs : List PD}
def kI (Q : PD × List PD → Prop) : Out → Prop
  | .rt d S => Ow S[(0 : Nat)]? fun ys => Q (d, ys)
  | .rtF zs S => Ow S[(0 : Nat)]? fun ys => Q (.list zs, ys)
  | .nx S => Ow S[(0 : Nat)]? fun ys => Q (.none, ys)
  | _ => False
def kIF (Q : List PD × List PD → Prop) : Out → Prop
  | .rtF zs S => Ow S[(0 : Nat)]? fun ys => Q (zs, ys)
  | _ => False
theorem kI_rt {Q : PD × List PD → Prop} {d : PD} {S : Stt} : kI Q (.rt d S) ↔ Ow S[(0 : Nat)]? fun ys => Q (d, ys) := Iff.rfl
theorem kI_rtF {Q : PD × List PD → Prop} {d : List PD} {S : Stt} : kI Q (.rtF d S) ↔ Ow S[(0 : Nat)]? fun ys => Q (.list d, ys) := Iff.rfl
theorem kIF_rtF {Q : List PD × List PD → Prop} {d : List PD} {S : Stt} : kIF Q (.rtF d S) ↔ Ow S[(0 : Nat)]? fun ys => Q (d, ys) := Iff.rfl
theorem io0_ok {Q : PD × List PD → Prop} {d : PD} {S : Stt} : Ok (io0 d S) Q ↔ Ow S[(0 : Nat)]? fun ys => Q (d, ys) := by
  unfold io0
  constructor
  · rintro ⟨r, e, q⟩
    split at e
    · rename_i ys h; cases e; exact ⟨ys, h, q⟩
    · cases e
  · rintro ⟨ys, h, q⟩
    rw [h]
    exact ⟨_, rfl, q⟩
theorem w_I {Q : PD × List PD → Prop} : Ok (defI N n g (.list xs :: ds)) Q ↔ Nd (ds.length + 1 = n) (Ok (g (ini N (.ow xs :: ds.map Sl.sh))) (kI Q)) := by
  unfold defI
  refine Iff.trans Ok_if (and_congr Iff.rfl ?_)
  show Ok (resI (g (ini N (.ow xs :: ds.map Sl.sh)))) Q ↔ _
  cases g (ini N (.ow xs :: ds.map Sl.sh)) with
  | none => exact ⟨fun ⟨_, e, _⟩ => (by cases e), fun ⟨_, e, _⟩ => (by cases e)⟩
  | some o =>
    rw [Ok_some]
    cases o with
    | nx S => exact io0_ok
    | rt d S => exact io0_ok
    | rtF d S => exact io0_ok
    | bk S => exact ⟨fun ⟨_, e, _⟩ => (by cases e), fun h => h.elim⟩
    | ct S => exact ⟨fun ⟨_, e, _⟩ => (by cases e), fun h => h.elim⟩
theorem w_IF {Q : List PD × List PD → Prop} : Ok (defIF N n g (.list xs :: ds)) Q ↔ Nd (ds.length + 1 = n) (Ok (g (ini N (.ow xs :: ds.map Sl.sh))) (kIF Q)) := by
  unfold defIF
  refine Iff.trans Ok_if (and_congr Iff.rfl ?_)
  show Ok (resIF (g (ini N (.ow xs :: ds.map Sl.sh)))) Q ↔ _
  cases g (ini N (.ow xs :: ds.map Sl.sh)) with
  | none => exact ⟨fun ⟨_, e, _⟩ => (by cases e), fun ⟨_, e, _⟩ => (by cases e)⟩
  | some o =>
    rw [Ok_some]
    cases o with
    | rtF d S =>
      unfold resIF kIF
      dsimp only
      constructor
      · rintro ⟨r, e, q⟩
        split at e
        · rename_i ys h; cases e; exact ⟨ys, h, q⟩
        · cases e
      · rintro ⟨ys, h, q⟩
        rw [h]
        exact ⟨_, rfl, q⟩
    | nx S => exact ⟨fun ⟨_, e, _⟩ => (by cases e), fun h => h.elim⟩
    | rt d S => exact ⟨fun ⟨_, e, _⟩ => (by cases e), fun h => h.elim⟩
    | bk S => exact ⟨fun ⟨_, e, _⟩ => (by cases e), fun h => h.elim⟩
    | ct S => exact ⟨fun ⟨_, e, _⟩ => (by cases e), fun h => h.elim⟩
end
section
variable {S : Stt} {t : EvB} {g : EvSt} {R : Out → Prop}
/-- what one turn asks -/
def whK (J : Stt → Prop) (R : Out → Prop) : Out → Prop := lpK J R
theorem ok_while (I : Nat → Stt → Prop) {m0 : Nat} (hm : m0 < most) (h0 : I m0 S)
    (hs : ∀ (m : Nat) (S : Stt), I m S → O2 (t S) fun b S1 => (b = true → 0 < m ∧ Ok (g S1) (lpK (I (m - 1)) R)) ∧ (b = false → R (.nx S1))) : Ok (sWhile t g S) R := by
  have go : ∀ (m : Nat) (S : Stt), I m S → ∃ o, whileN t g (m + 1) S = some o ∧ R o := by
    intro m
    induction m with
    | zero =>
      intro S h
      obtain ⟨b, S1, e, h1, h2⟩ := hs 0 S h
      cases b with
      | true => exact absurd (h1 rfl).1 (Nat.lt_irrefl 0)
      | false =>
        refine ⟨.nx S1, ?_, h2 rfl⟩
        unfold whileN
        rw [e]
    | succ m ih =>
      intro S h
      obtain ⟨b, S1, e, h1, h2⟩ := hs (m + 1) S h
      cases b with
      | false =>
        refine ⟨.nx S1, ?_, h2 rfl⟩
        unfold whileN
        rw [e]
      | true =>
        obtain ⟨_, o, e2, q⟩ := h1 rfl
        cases o with
        | nx S2 =>
          obtain ⟨o, e3, q⟩ := ih S2 q
          exact ⟨o, by unfold whileN; rw [e]; dsimp only; rw [e2]; exact e3, q⟩
        | ct S2 =>
          obtain ⟨o, e3, q⟩ := ih S2 q
          exact ⟨o, by unfold whileN; rw [e]; dsimp only; rw [e2]; exact e3, q⟩
        | bk S2 => exact ⟨.nx S2, by unfold whileN; rw [e]; dsimp only; rw [e2], q⟩
        | rt d S2 => exact ⟨.rt d S2, by unfold whileN; rw [e]; dsimp only; rw [e2], q⟩
        | rtF d S2 => exact ⟨.rtF d S2, by unfold whileN; rw [e]; dsimp only; rw [e2], q⟩
  obtain ⟨o, e, q⟩ := go m0 S h0
  exact ⟨o, sWhile_of e hm, q⟩
theorem stoV_ok {i : Nat} {d : PD} {gg : Ev} {Q : Stt → Prop} : Ok (stoV i d gg S) Q ↔ Nd (isOw S[i]? = true) (O2 (gg S) fun k s => asI k fun n => Ow s[i]? fun xs => Ok (ixN xs.length n) fun m => Q (s.set i (.ow (xs.set m d)))) := by
  refine Iff.trans Ok_if (and_congr Iff.rfl ?_)
  constructor
  · rintro ⟨o, e, q⟩
    split at e
    · rename_i j S2 h2
      split at e
      · rename_i xs h3
        split at e
        · rename_i m hm; cases e; exact ⟨_, _, h2, j, rfl, xs, h3, m, hm, q⟩
        · cases e
      · cases e
    · cases e
  · rintro ⟨k, s, h2, n, rfl, xs, h3, m, hm, q⟩
    exact ⟨_, by rw [h2]; dsimp only; rw [h3]; dsimp only; rw [hm], q⟩
theorem p_sto2 {i : Nat} {a b g1 g2 : Ev} : Ok (sSto2 i (eTup (aCons a (aCons b aNil))) g1 g2 S) R ↔ O2 (a S) fun x s => O2 (b s) fun y s1 => Ok (stoV i x g1 s1) fun s2 => Ok (stoV i y g2 s2) fun s3 => R (.nx s3) := by
  have key : O2 (eTup (aCons a (aCons b aNil)) S) (fun d s1 => ∃ x y, d = .tuple [x, y] ∧ Ok (stoV i x g1 s1) fun s2 => Ok (stoV i y g2 s2) fun s3 => R (.nx s3)) ↔ O2 (a S) fun x s => O2 (b s) fun y s1 => Ok (stoV i x g1 s1) fun s2 => Ok (stoV i y g2 s2) fun s3 => R (.nx s3) := by
    rw [q_tup, q_cons]
    refine O2_iff fun x s => ?_
    rw [q_cons]
    refine O2_iff fun y s1 => ?_
    rw [q_nil]
    constructor
    · rintro ⟨_, x', y', e, h⟩
      cases e
      exact h
    · exact fun h => ⟨(by show 2 ≤ 1000; decide), x, y, rfl, h⟩
  rw [← key]
  unfold sSto2
  constructor
  · rintro ⟨o, e, q⟩
    split at e
    · rename_i d1 d2 S1 h
      split at e
      · rename_i S2 h2
        split at e
        · rename_i S3 h3; cases e; exact ⟨_, _, h, _, _, rfl, S2, h2, S3, h3, q⟩
        · cases e
      · cases e
    · cases e
  · rintro ⟨d, s1, e, x, y, rfl, s2, h2, s3, h3, q⟩
    exact ⟨_, by rw [e]; dsimp only; rw [h2]; dsimp only; rw [h3], q⟩
theorem q_enotT {a : Ev} {Q : PD → Stt → Prop} : O2 (eNotT a S) Q ↔ O2 (a S) fun d s => Ok (gTru d) fun b => Q (.bool (!b)) s := by
  rw [← q_tru (Q := fun b s => Q (.bool (!b)) s)]
  unfold eNotT
  constructor
  · rintro ⟨x, s, e, q⟩
    split at e
    · rename_i b S1 h; cases e; exact ⟨b, _, h, q⟩
    · cases e
  · rintro ⟨x, s, e, q⟩
    exact ⟨_, s, by rw [e], q⟩
theorem q_aApp {f h : EvL} {Q : List PD → Stt → Prop} : O2 (aApp f h S) Q ↔ O2 (f S) fun xs s => O2 (h s) fun ys s1 => Q (xs ++ ys) s1 :=
  Iff.trans b2 (O2_iff fun x s => Iff.trans b2 (O2_iff fun y s' => O2_some))
theorem q_lenA {f : EvL} {k : Nat} {Q : List PD → Stt → Prop} : O2 (lenA k f S) Q ↔ O2 (f S) fun xs s => Nd (xs.length = k) (Q xs s) := by
  unfold lenA
  constructor
  · rintro ⟨x, s, e, q⟩
    split at e
    · rename_i ds S1 h
      split at e
      · rename_i hl; cases e; exact ⟨_, _, h, hl, q⟩
      · cases e
    · cases e
  · rintro ⟨x, s, e, hl, q⟩
    exact ⟨x, s, by rw [e]; exact if_pos hl, q⟩
end
/-! ## places of games -/
inductive GP where
  | fin
  | lose
  | rew (r : Rat) (t : Nat)
  | draw (bs : List (Rat × Nat))
  | own (s : Bool) (ts : List Nat)
instance : Inhabited GP := ⟨.fin⟩
def sdS : Bool → PD
  | true => .str "ours"
  | false => .str "theirs"
theorem sd_t : sdS true = .str "ours" := rfl
theorem sd_f : sdS false = .str "theirs" := rfl
def GP.enc : GP → PD
  | .fin => .tuple [.str "finish"]
  | .lose => .tuple [.str "lose"]
  | .rew r t => .tuple [.str "reward", num r, .int (t : Int)]
  | .draw bs => .tuple [.str "draw", .list (bs.map encB)]
  | .own s ts => .tuple [sdS s, nats ts]
theorem gp_fin : GP.enc .fin = .tuple [.str "finish"] := rfl
theorem gp_lose : GP.enc .lose = .tuple [.str "lose"] := rfl
theorem gp_rew {r : Rat} {t : Nat} : GP.enc (.rew r t) = .tuple [.str "reward", num r, .int (t : Int)] := rfl
theorem gp_draw {bs : List (Rat × Nat)} : GP.enc (.draw bs) = .tuple [.str "draw", .list (bs.map encB)] := rfl
theorem gp_ours {ts : List Nat} : GP.enc (.own true ts) = .tuple [.str "ours", nats ts] := rfl
theorem gp_theirs {ts : List Nat} : GP.enc (.own false ts) = .tuple [.str "theirs", nats ts] := rfl
abbrev encG (g : List GP) : PD := .list (g.map GP.enc)
def GP.tg : GP → List Nat
  | .rew _ t => [t]
  | .draw bs => bs.map (·.2)
  | .own _ ts => ts
  | _ => []
def GP.of : Plc → GP
  | .fin => .fin
  | .lose => .lose
  | .rew r t => .rew r t
  | .draw bs => .draw bs
def GP.plc : GP → Plc
  | .fin => .fin
  | .lose => .lose
  | .rew r t => .rew r t
  | .draw bs => .draw bs
  | .own _ _ => .fin
def GP.isOwn : GP → Bool
  | .own _ _ => true
  | _ => false
def GP.isEnd : GP → Bool
  | .fin => true
  | .lose => true
  | _ => false
theorem of_enc (x : Plc) : (GP.of x).enc = x.enc := by cases x <;> rfl
theorem of_tg (x : Plc) : (GP.of x).tg = x.br.map (·.2) := by cases x <;> rfl
theorem encG_of (c : List Plc) : encG (c.map GP.of) = encC c := by
  show PyData.list _ = PyData.list _
  rw [List.map_map]
  congr 1
  refine List.map_congr_left fun x _ => of_enc x
theorem plc_enc {x : GP} (h : x.isOwn = false) : x.plc.enc = x.enc := by
  cases x <;> first | rfl | cases h
theorem encC_plc {g : List GP} (h : ∀ x ∈ g, x.isOwn = false) : encC (g.map GP.plc) = encG g := by
  show PyData.list _ = PyData.list _
  rw [List.map_map]
  congr 1
  exact List.map_congr_left fun x hx => plc_enc (h x hx)
def gAt (g : List GP) (p : Nat) : GP := g.getD p .fin
theorem gAt_of {g : List GP} {p : Nat} (h : p < g.length) : g[p]? = some (gAt g p) := by
  unfold gAt
  rw [List.getD_eq_getElem?_getD, List.getElem?_eq_getElem h]
  rfl
theorem gAt_mem {g : List GP} {p : Nat} (h : p < g.length) : gAt g p ∈ g := List.mem_of_getElem? (gAt_of h)
theorem g_at {g : List GP} {p : Nat} (h : p < g.length) : (g.map GP.enc)[p]? = some (gAt g p).enc := by
  rw [List.getElem?_map, gAt_of h]
  rfl
/-! ### strategies put in -/
abbrev encSt (σ : List (Option Nat)) : PD := .list (σ.map encO)
def brOf (σ : List (Option Nat)) (p : Nat) : Nat := (σ.getD p none).getD 0
def putP (s : Bool) (σ : List (Option Nat)) (p : Nat) : GP → GP
  | .own s' ts => if s' = s then .draw [(1, ts.getD (brOf σ p) 0)] else .own s' ts
  | x => x
def putIn (s : Bool) (σ : List (Option Nat)) (g : List GP) : List GP := g.mapIdx (putP s σ)
/-- what a strategy of a side keeps to -/
def StP (s : Bool) (o : Option Nat) : GP → Prop
  | .own s' ts => if s' = s then ∃ b, o = some b ∧ b < ts.length else o = none
  | _ => o = none
structure StOk (s : Bool) (g : List GP) (σ : List (Option Nat)) : Prop where
  len : σ.length = g.length
  pl : ∀ p, p < g.length → StP s (σ.getD p none) (gAt g p)
theorem putIn_len {s : Bool} {σ : List (Option Nat)} {g : List GP} : (putIn s σ g).length = g.length := by unfold putIn; simp
theorem putIn_at {s : Bool} {σ : List (Option Nat)} {g : List GP} {p : Nat} (h : p < g.length) : gAt (putIn s σ g) p = putP s σ p (gAt g p) := by
  have h1 := gAt_of (g := putIn s σ g) (p := p) (by rw [putIn_len]; exact h)
  have h2 := gAt_of h
  unfold putIn at h1
  rw [List.getElem?_mapIdx, h2] at h1
  injection h1 with h1
  exact h1.symm
theorem g_pt {g : List GP} {i : Nat} (h : i < g.length) : g[i] = gAt g i := by
  have := gAt_of h
  rw [List.getElem?_eq_getElem h] at this
  injection this
end PL
namespace PL
open PySem PySem.Spec PyProof.Rows L2 DK
/-! ## what is reached -/
inductive Rch (tg : Nat → List Nat) (p : Nat) : Nat → Prop
  | refl : Rch tg p p
  | step {q t : Nat} : Rch tg p q → t ∈ tg q → Rch tg p t
theorem Rch.head {tg : Nat → List Nat} {p t q : Nat} (h : t ∈ tg p) (k : Rch tg t q) : Rch tg p q := by
  induction k with
  | refl => exact .step .refl h
  | step _ h2 ih => exact .step ih h2
theorem Rch.lt {tg : Nat → List Nat} {n p q : Nat} (h : ∀ p, p < n → ∀ t ∈ tg p, t < n) (hp : p < n) (r : Rch tg p q) : q < n := by
  induction r with
  | refl => exact hp
  | step _ h2 ih => exact h _ ih _ h2
theorem ci_mem {l : List Nat} {p : Nat} : (p : Int) ∈ ci l ↔ p ∈ l := by
  unfold ci
  rw [List.mem_map]
  exact ⟨fun ⟨q, hq, e⟩ => by have : q = p := by omega
                              rwa [← this], fun h => ⟨p, h, rfl⟩⟩
def addN : List Nat → List Nat → List Nat → List Nat × List Nat
  | seen, wait, [] => (seen, wait)
  | seen, wait, t :: r => if t ∈ seen then addN seen wait r else addN (seen ++ [t]) (wait ++ [t]) r
/-- what stands after the targets were looked at -/
structure Add (seen wait ts s w : List Nat) : Prop where
  le : seen.length ≤ s.length
  nd : s.Nodup
  cnt : s.length + wait.length = w.length + seen.length
  mem : ∀ q, q ∈ s ↔ q ∈ seen ∨ q ∈ ts
  wm : ∀ q, q ∈ w ↔ q ∈ wait ∨ (q ∈ ts ∧ q ∉ seen)
theorem nodup_lt : ∀ {n : Nat} {l : List Nat}, l.Nodup → (∀ q ∈ l, q < n) → l.length ≤ n
  | 0, [], _, _ => Nat.le_refl 0
  | 0, q :: l, _, h => absurd (h q List.mem_cons_self) (Nat.not_lt_zero q)
  | n + 1, l, nd, h => by
    have ih := nodup_lt (n := n) (l := l.erase n) (nd.erase n) fun q hq => by
      have h1 := (List.Nodup.mem_erase_iff nd).mp hq
      have := h q h1.2
      omega
    by_cases c : n ∈ l
    · rw [List.length_erase_of_mem c] at ih
      omega
    · rw [List.erase_of_not_mem c] at ih
      omega
theorem addT_ok {n : Nat} (hn : n ≤ 59) : ∀ (ts seen wait : List Nat), seen.Nodup → (∀ q ∈ seen, q < n) → (∀ t ∈ ts, t < n) → ∃ s w, addT (ci seen) (ci wait) (encK ts) = some (ci s, ci w) ∧ Add seen wait ts s w ∧ ∀ q ∈ s, q < n
  | [], seen, wait, nd, h, _ => ⟨seen, wait, rfl, ⟨Nat.le_refl _, nd, by omega, fun q => by simp, fun q => by simp⟩, h⟩
  | t :: r, seen, wait, nd, h, ht => by
    have hr : ∀ t ∈ r, t < n := fun x hx => ht x (List.mem_cons_of_mem _ hx)
    have htn := ht t List.mem_cons_self
    by_cases c : t ∈ seen
    · obtain ⟨s, w, e, A, l⟩ := addT_ok hn r seen wait nd h hr
      refine ⟨s, w, ?_, ⟨A.le, A.nd, A.cnt, fun q => ?_, fun q => ?_⟩, l⟩
      · show (if (t : Int) ∈ ci seen then addT (ci seen) (ci wait) (encK r) else _) = _
        rw [if_pos (ci_mem.mpr c), e]
      · rw [A.mem, List.mem_cons]
        constructor
        · rintro (h | h)
          · exact .inl h
          · exact .inr (.inr h)
        · rintro (h | rfl | h)
          · exact .inl h
          · exact .inl c
          · exact .inr h
      · rw [A.wm, List.mem_cons]
        constructor
        · rintro (h | ⟨h, h2⟩)
          · exact .inl h
          · exact .inr ⟨.inr h, h2⟩
        · rintro (h | ⟨rfl | h, h2⟩)
          · exact .inl h
          · exact absurd c h2
          · exact .inr ⟨h, h2⟩
    · have nd2 : (seen ++ [t]).Nodup := by
        rw [List.nodup_append]
        refine ⟨nd, by simp, fun a ha b hb => ?_⟩
        rw [List.mem_singleton.mp hb]
        exact fun z => c (z ▸ ha)
      have h2 : ∀ q ∈ seen ++ [t], q < n := fun q hq => by
        rcases List.mem_append.mp hq with z | z
        · exact h q z
        · rw [List.mem_singleton.mp z]; exact htn
      obtain ⟨s, w, e, A, l⟩ := addT_ok hn r (seen ++ [t]) (wait ++ [t]) nd2 h2 hr
      have sl : (ci seen).length < 60 := by
        have := nodup_lt nd h
        unfold ci
        rw [List.length_map]
        omega
      refine ⟨s, w, ?_, ⟨by have := A.le; simp at this; omega, A.nd, ?_, fun q => ?_, fun q => ?_⟩, l⟩
      · show (if (t : Int) ∈ ci seen then _ else if (ci seen).length < 60 then addT (ci seen ++ [(t : Int)]) (ci wait ++ [(t : Int)]) (encK r) else none) = _
        rw [if_neg (fun z => c (ci_mem.mp z)), if_pos sl, ← e]
        unfold ci
        rw [List.map_append, List.map_append]
        rfl
      · have := A.cnt
        simp only [List.length_append, List.length_singleton] at this
        omega
      · rw [A.mem, List.mem_append, List.mem_singleton, List.mem_cons]
        constructor
        · rintro ((h | h) | h)
          · exact .inl h
          · exact .inr (.inl h)
          · exact .inr (.inr h)
        · rintro (h | h | h)
          · exact .inl (.inl h)
          · exact .inl (.inr h)
          · exact .inr h
      · rw [A.wm, List.mem_append, List.mem_append, List.mem_singleton, List.mem_cons]
        constructor
        · rintro ((h | rfl) | ⟨h, h2⟩)
          · exact .inl h
          · exact .inr ⟨.inl rfl, c⟩
          · exact .inr ⟨.inr h, fun z => h2 (.inl z)⟩
        · rintro (h | ⟨rfl | h, h2⟩)
          · exact .inl (.inl h)
          · exact .inl (.inr rfl)
          · by_cases e : q = t
            · exact .inl (.inr e)
            · exact .inr ⟨h, fun z => z.elim h2 e⟩
theorem ci_last {l : List Nat} : (ci l).getLast? = l.getLast?.map fun (i : Nat) => (i : Int) := by
  unfold ci
  rw [List.getLast?_map]
theorem ci_drop {l : List Nat} : (ci l).dropLast = ci l.dropLast := by
  unfold ci
  rw [List.map_dropLast]
theorem rchL_ok {n : Nat} (hn : n ≤ 59) {tgf : List PD → Option (List PD)} {g : PD} {tg : Nat → List Nat} (htg : ∀ p, p < n → tgf [g, .int (p : Int)] = some (encK (tg p))) (hlt : ∀ p, p < n → ∀ t ∈ tg p, t < n) {p : Nat} :
    ∀ (m : Nat) (seen wait : List Nat), seen.Nodup → (∀ q ∈ seen, q < n) → (∀ q ∈ wait, q ∈ seen) → (∀ q ∈ seen, Rch tg p q) → p ∈ seen → (∀ q ∈ seen, q ∉ wait → ∀ t ∈ tg q, t ∈ seen) → wait.length + (n - seen.length) < m →
    ∃ s : List Nat, rchL tgf g m (ci seen) (ci wait) = some (ci s) ∧ s.Nodup ∧ ∀ q, q ∈ s ↔ Rch tg p q := by
  intro m
  induction m with
  | zero => intro _ _ _ _ _ _ _ _ h; omega
  | succ m ih =>
    intro seen wait nd lt sub rc ps cl hm
    unfold rchL
    rw [ci_last]
    cases hw : wait.getLast? with
    | none =>
      have hw : wait = [] := List.getLast?_eq_none_iff.mp hw
      subst hw
      refine ⟨seen, rfl, nd, fun q => ⟨rc q, fun h => ?_⟩⟩
      induction h with
      | refl => exact ps
      | step _ h2 ih2 => exact cl _ ih2 (by simp) _ h2
    | some q =>
      have ew : wait = wait.dropLast ++ [q] := by
        obtain ⟨ys, e⟩ := List.getLast?_eq_some_iff.mp hw
        rw [e]
        simp
      have qw : q ∈ wait := by rw [ew]; simp
      have qs := sub q qw
      have qn := lt q qs
      dsimp only [Option.map]
      rw [htg q qn]
      dsimp only
      obtain ⟨s, w, e, A, ln⟩ := addT_ok hn (tg q) seen wait.dropLast nd lt (hlt q qn)
      rw [ci_drop, e]
      dsimp only
      have cnt := A.cnt
      have lw : wait.length = wait.dropLast.length + 1 := by
        conv => lhs; rw [ew]
        simp
      have sn := nodup_lt A.nd ln
      have ss := A.le
      refine ih s w A.nd ln (fun x hx => ?_) (fun x hx => ?_) ((A.mem p).mpr (.inl ps)) (fun x hx hxw t ht => ?_) (by omega)
      · rcases (A.wm x).mp hx with h | h
        · exact (A.mem x).mpr (.inl (sub x (by rw [ew]; exact List.mem_append_left _ h)))
        · exact (A.mem x).mpr (.inr h.1)
      · rcases (A.mem x).mp hx with h | h
        · exact rc x h
        · exact .step (rc q qs) h
      · by_cases c : x ∈ seen
        · by_cases c2 : x = q
          · subst c2
            exact (A.mem t).mpr (.inr ht)
          · refine (A.mem t).mpr (.inl (cl x c (fun z => ?_) t ht))
            rw [ew] at z
            rcases List.mem_append.mp z with z | z
            · exact hxw ((A.wm x).mpr (.inl z))
            · exact c2 (List.mem_singleton.mp z)
        · rcases (A.mem x).mp hx with h | h
          · exact absurd h c
          · exact absurd ((A.wm x).mpr (.inr ⟨h, c⟩)) hxw
theorem srt_ci {s : List Nat} (nd : s.Nodup) : ∃ r : List Nat, (srtI (ci s)).map PyData.int = encK r ∧ (∀ q, q ∈ r ↔ q ∈ s) ∧ r.Pairwise (· < ·) := by
  have nc : (ci s).Nodup := by
    unfold ci
    rw [List.nodup_iff_pairwise_ne, List.pairwise_map]
    exact (List.nodup_iff_pairwise_ne.mp nd).imp fun {a b} h z => h (by omega)
  obtain ⟨h1, h2⟩ := srtI_asc nc
  have nn : ∀ x ∈ srtI (ci s), 0 ≤ x := fun x hx => by
    have := (h2 x).mp hx
    unfold ci at this
    obtain ⟨q, _, rfl⟩ := List.mem_map.mp this
    omega
  have back : ((srtI (ci s)).map Int.toNat).map (fun (i : Nat) => (i : Int)) = srtI (ci s) := by
    rw [List.map_map]
    conv => rhs; rw [← List.map_id (srtI (ci s))]
    refine List.map_congr_left fun x hx => ?_
    have := nn x hx
    show ((x.toNat : Nat) : Int) = x
    omega
  refine ⟨(srtI (ci s)).map Int.toNat, ?_, fun q => ?_, ?_⟩
  · conv => lhs; rw [← back]
    unfold encK
    rw [List.map_map]
    rfl
  · rw [List.mem_map]
    constructor
    · rintro ⟨x, hx, rfl⟩
      have h3 := nn x hx
      have := (h2 x).mp hx
      have e : x = ((x.toNat : Nat) : Int) := by omega
      rw [e] at this
      exact ci_mem.mp this
    · intro hq
      exact ⟨(q : Int), (h2 _).mpr (ci_mem.mpr hq), by simp⟩
  · rw [List.pairwise_map]
    refine List.Pairwise.imp_of_mem (fun {a b} ha hb h => ?_) h1
    have := nn a ha
    have := nn b hb
    omega
theorem w_reach {n : Nat} (hn : n ≤ 59) {tgf : List PD → Option (List PD)} {g : PD} {tg : Nat → List Nat} (htg : ∀ p, p < n → tgf [g, .int (p : Int)] = some (encK (tg p))) (hlt : ∀ p, p < n → ∀ t ∈ tg p, t < n) {p : Nat} (hp : p < n)
    {Q : List PD → Prop} (h : ∀ r : List Nat, r.Pairwise (· < ·) → (∀ q, q ∈ r ↔ Rch tg p q) → Q (encK r)) : Ok (fReached tgf [g, .int (p : Int)]) Q := by
  obtain ⟨s, e, nd, hs⟩ := rchL_ok hn htg hlt (p := p) 1000 [p] [p] (by simp) (fun q hq => by rw [List.mem_singleton.mp hq]; exact hp) (fun q hq => hq) (fun q hq => by rw [List.mem_singleton.mp hq]; exact .refl) (by simp) (fun q hq hn2 => absurd hq hn2) (by simp; omega)
  obtain ⟨r, e2, hr, pw⟩ := srt_ci nd
  refine ⟨encK r, ?_, h r pw fun q => (hr q).trans (hs q)⟩
  unfold fReached
  dsimp only
  have e : rchL tgf g 1000 [(p : Int)] [(p : Int)] = some (ci s) := e
  rw [e, ← e2]
  rfl
end PL
namespace PL
open PySem PySem.Spec PyProof.Rows L2 DK
/-! ## chains that lead ahead -/
def Plc.gain : Plc → Rat
  | .rew r _ => r
  | _ => 0
structure PAh (n p : Nat) (x : Plc) : Prop where
  len : x.br.length ≤ 6
  ah : x.br = [] ∨ Ahead n p x.br
  gn : x.br = [] → x.gain = 0
  den : ∃ D : Int, 0 < D ∧ D ≤ 18 ∧ (∀ b ∈ x.br, ∃ v : Int, b.1 * (D : Rat) = (v : Rat)) ∧ ∃ v : Int, 0 ≤ v ∧ v ≤ 18 ∧ x.gain * (D : Rat) = (v : Rat)
def CAh (c : List Plc) : Prop := ∀ p, p < c.length → PAh c.length p (cAt c p)
def GP.ah (n p : Nat) : GP → Prop
  | .own _ ts => ts ≠ [] ∧ ts.length ≤ 6 ∧ ∀ t ∈ ts, p < t ∧ t < n
  | .fin => True
  | .lose => True
  | .rew r t => p < t ∧ PAh n p (.rew r t)
  | .draw bs => bs ≠ [] ∧ PAh n p (.draw bs)
def GAh (g : List GP) : Prop := ∀ p, p < g.length → (gAt g p).ah g.length p
theorem pah_end {n p : Nat} {x : Plc} (h : x.br = []) (hg : x.gain = 0) : PAh n p x :=
  ⟨by rw [h]; decide, .inl h, fun _ => hg, ⟨1, by decide, by decide, (fun b hb => by rw [h] at hb; cases hb), 0, by decide, by decide, by rw [hg, Rat.zero_mul]; rfl⟩⟩
theorem pah_one {n p t : Nat} (h : p < t) (ht : t < n) : PAh n p (.draw [(1, t)]) :=
  ⟨by show 1 ≤ 6; decide, .inr ⟨fun b hb => by
    have e : b = (1, t) := List.mem_singleton.mp hb
    rw [e]
    exact ⟨(by show (0 : Rat) < 1; decide), ht⟩, by show sumQ [1] = 1; rw [sumQ_cons, sumQ_nil]; grind, (1, t), List.mem_singleton.mpr rfl, h⟩, fun _ => rfl, 1, by decide, by decide, (fun b hb => by
    have e : b = (1, t) := List.mem_singleton.mp hb
    rw [e]
    exact ⟨1, Rat.one_mul _⟩), 0, by decide, by decide, Rat.zero_mul _⟩
theorem GP.ah_plc {n p : Nat} {x : GP} (h : x.ah n p) (ho : x.isOwn = false) : PAh n p x.plc := by
  cases x with
  | fin => exact pah_end rfl rfl
  | lose => exact pah_end rfl rfl
  | rew r t => exact h.2
  | draw bs => exact h.2
  | own s ts => cases ho
theorem putP_ah {n p : Nat} {s : Bool} {σ : List (Option Nat)} {x : GP} (h : x.ah n p) (k : StP s (σ.getD p none) x) : (putP s σ p x).ah n p := by
  cases x with
  | own s' ts =>
    unfold putP
    unfold StP at k
    dsimp only at k ⊢
    split
    · rename_i e
      rw [if_pos e] at k
      obtain ⟨b, e1, e2⟩ := k
      have hm : ts.getD (brOf σ p) 0 ∈ ts := by
        unfold brOf
        rw [e1]
        show ts.getD b 0 ∈ ts
        rw [getD_of e2]
        exact List.getElem_mem e2
      exact ⟨by simp, pah_one (h.2.2 _ hm).1 (h.2.2 _ hm).2⟩
    · exact h
  | _ => exact h
theorem putIn_ah {s : Bool} {σ : List (Option Nat)} {g : List GP} (h : GAh g) (k : StOk s g σ) : GAh (putIn s σ g) := fun p hp => by
  rw [putIn_len] at hp ⊢
  rw [putIn_at hp]
  exact putP_ah (h p hp) (k.pl p hp)
theorem putP_own {p : Nat} {s : Bool} {σ : List (Option Nat)} {x : GP} : ∀ s' ts, putP s σ p x = .own s' ts → x = .own s' ts ∧ s' ≠ s := by
  intro s' ts
  cases x with
  | own s2 ts2 =>
    unfold putP
    dsimp only
    split
    · intro e; cases e
    · rename_i ne
      intro e
      cases e
      exact ⟨rfl, ne⟩
  | _ => intro e; cases e
/-- the other side's strategy still fits -/
theorem StOk.put {s s' : Bool} {σ τ : List (Option Nat)} {g : List GP} (h : StOk s' g τ) (hs : s' ≠ s) (k : StOk s g σ) : StOk s' (putIn s σ g) τ := by
  refine ⟨by rw [putIn_len]; exact h.len, fun p hp => ?_⟩
  rw [putIn_len] at hp
  rw [putIn_at hp]
  have := h.pl p hp
  generalize gAt g p = x at this ⊢
  cases x with
  | own s2 ts =>
    unfold putP
    dsimp only
    split
    · rename_i e
      have : StP s' (τ.getD p none) (.own s2 ts) := this
      unfold StP at this ⊢
      dsimp only at this ⊢
      rwa [if_neg (by rw [e]; exact fun z => hs z.symm)] at this
    · exact this
  | _ => exact this
def bothIn (σ τ : List (Option Nat)) (g : List GP) : List GP := putIn false τ (putIn true σ g)
def chainOf (σ τ : List (Option Nat)) (g : List GP) : List Plc := (bothIn σ τ g).map GP.plc
theorem bothIn_own {σ τ : List (Option Nat)} {g : List GP} : ∀ x ∈ bothIn σ τ g, x.isOwn = false := fun x hx => by
  obtain ⟨p, hp, rfl⟩ := List.mem_iff_getElem.mp hx
  have hp : p < g.length := by unfold bothIn at hp; rwa [putIn_len, putIn_len] at hp
  have e : (bothIn σ τ g)[p]'(by unfold bothIn; rwa [putIn_len, putIn_len]) = putP false τ p (putP true σ p (gAt g p)) := by
    rw [g_pt]
    unfold bothIn
    rw [putIn_at (by rwa [putIn_len]), putIn_at hp]
  rw [e]
  cases h : putP false τ p (putP true σ p (gAt g p)) with
  | own s ts =>
    obtain ⟨h1, h2⟩ := putP_own _ _ h
    obtain ⟨_, h3⟩ := putP_own _ _ h1
    cases s <;> contradiction
  | _ => rfl
theorem chainOf_enc {σ τ : List (Option Nat)} {g : List GP} : encC (chainOf σ τ g) = encG (bothIn σ τ g) := encC_plc bothIn_own
theorem chainOf_len {σ τ : List (Option Nat)} {g : List GP} : (chainOf σ τ g).length = g.length := by
  unfold chainOf bothIn
  rw [List.length_map, putIn_len, putIn_len]
theorem chainOf_ah {σ τ : List (Option Nat)} {g : List GP} (h : GAh g) (h1 : StOk true g σ) (h2 : StOk false g τ) : CAh (chainOf σ τ g) := fun p hp => by
  have A : GAh (bothIn σ τ g) := putIn_ah (putIn_ah h h1) (h2.put (by decide) h1)
  have hp' : p < (bothIn σ τ g).length := by unfold chainOf at hp; rwa [List.length_map] at hp
  have e : cAt (chainOf σ τ g) p = (gAt (bothIn σ τ g) p).plc := by
    unfold cAt chainOf
    rw [List.getD_eq_getElem?_getD, List.getElem?_map, gAt_of hp']
    rfl
  have := GP.ah_plc (A p hp') (bothIn_own _ (gAt_mem hp'))
  rw [e]
  unfold chainOf
  rw [List.length_map]
  exact this
/-! ### the numbers -/
/-- a solution of the whole system -/
def Sol (c : List Plc) (x : Nat → Rat) : Prop := ∀ p, p < c.length → x p = (cAt c p).gain + ev ((cAt c p).br) x
theorem ev_sub (bs : List (Rat × Nat)) (x y : Nat → Rat) : ev bs (fun i => x i - y i) = ev bs x - ev bs y := by
  induction bs with
  | nil => rw [ev_nil, ev_nil, ev_nil]; grind
  | cons b r ih => rw [ev_cons, ev_cons, ev_cons, ih]; grind
theorem Sol.unique {c : List Plc} (A : CAh c) {x y : Nat → Rat} (hx : Sol c x) (hy : Sol c y) : ∀ p, p < c.length → x p = y p := fun p hp => by
  have := ahead_zero (n := c.length) (br := fun p => (cAt c p).br) (fun p hp => (A p hp).ah) (x := fun i => x i - y i) (fun p hp => by
    have a := hx p hp
    have b := hy p hp
    have e := ev_sub (cAt c p).br x y
    show x p - y p = ev (cAt c p).br fun i => x i - y i
    rw [e]
    grind) p hp
  grind
theorem CAh.lt {c : List Plc} (A : CAh c) {p : Nat} (hp : p < c.length) {b : Rat × Nat} (hb : b ∈ (cAt c p).br) : b.2 < c.length ∧ 0 < b.1 := by
  rcases (A p hp).ah with h | h
  · rw [h] at hb; cases hb
  · exact ⟨(h.pos b hb).2, (h.pos b hb).1⟩
/-- the targets of a place -/
def ctg (c : List Plc) (p : Nat) : List Nat := (cAt c p).br.map (·.2)
theorem CAh.tlt {c : List Plc} (A : CAh c) : ∀ p, p < c.length → ∀ t ∈ ctg c p, t < c.length := fun p hp t ht => by
  unfold ctg at ht
  obtain ⟨b, hb, rfl⟩ := List.mem_map.mp ht
  exact (A.lt hp hb).1
/-- from each place an end is reached -/
theorem CAh.to_end {c : List Plc} (A : CAh c) : ∀ (m p : Nat), c.length - p ≤ m → p < c.length → ∃ e, e < c.length ∧ Rch (ctg c) p e ∧ (cAt c e).br = []
  | 0, p, h, hp => by omega
  | m + 1, p, h, hp => by
    rcases (A p hp).ah with e | e
    · exact ⟨p, hp, .refl, e⟩
    · obtain ⟨b, hb, hf⟩ := e.fwd
      obtain ⟨q, h1, h2, h3⟩ := A.to_end m b.2 (by omega) (A.lt hp hb).1
      exact ⟨q, h1, .head (List.mem_map.mpr ⟨b, hb, rfl⟩) h2, h3⟩
theorem rch_end {c : List Plc} {e q : Nat} (h : (cAt c e).br = []) (r : Rch (ctg c) e q) : q = e := by
  induction r with
  | refl => rfl
  | step _ h2 ih =>
    rw [ih] at h2
    unfold ctg at h2
    rw [h] at h2
    cases h2
/-! ### rows -/
theorem takeF_get : ∀ (bs : List (Rat × Nat)) (f : List Rat) (i : Nat), (∀ b ∈ bs, b.2 < f.length) → (takeF f bs).getD i 0 = f.getD i 0 - intoB bs [i]
  | [], f, i, _ => by
    show f.getD i 0 = _
    rw [intoB_nil]
    grind
  | b :: bs, f, i, h => by
    show (takeF (f.set b.2 (f.getD b.2 0 - b.1)) bs).getD i 0 = _
    rw [takeF_get bs _ i fun d hd => by rw [List.length_set]; exact h d (List.mem_cons_of_mem _ hd), intoB_cons]
    have hb := h b List.mem_cons_self
    by_cases e : i = b.2
    · subst e
      rw [List.getD_eq_getElem?_getD, List.getElem?_set_self hb, if_pos (List.mem_singleton.mpr rfl)]
      show f.getD b.2 0 - b.1 - _ = _
      grind
    · rw [List.getD_eq_getElem?_getD, List.getElem?_set_ne (fun z => e z.symm), ← List.getD_eq_getElem?_getD, if_neg (fun z => e (List.mem_singleton.mp z).symm)]
      grind
theorem intoB_D {D : Int} {G : List Nat} : ∀ {bs : List (Rat × Nat)}, (∀ b ∈ bs, ∃ v : Int, b.1 * (D : Rat) = (v : Rat)) → ∃ v : Int, intoB bs G * (D : Rat) = (v : Rat)
  | [], _ => ⟨0, by rw [intoB_nil, Rat.zero_mul]; rfl⟩
  | b :: bs, h => by
    obtain ⟨v, hv⟩ := intoB_D (G := G) fun d hd => h d (List.mem_cons_of_mem _ hd)
    obtain ⟨u, hu⟩ := h b List.mem_cons_self
    rw [intoB_cons]
    split
    · exact ⟨u + v, by rw [Rat.intCast_add, ← hu, ← hv]; grind⟩
    · exact ⟨v, by rw [← hv]; grind⟩
theorem sumQ_nn : ∀ {bs : List (Rat × Nat)}, (∀ b ∈ bs, 0 ≤ b.1) → 0 ≤ sumQ (bs.map (·.1))
  | [], _ => by decide
  | b :: bs, h => by
    have := sumQ_nn (bs := bs) fun d hd => h d (List.mem_cons_of_mem _ hd)
    have := h b List.mem_cons_self
    rw [List.map_cons, sumQ_cons]
    grind
theorem intoB_nn {bs : List (Rat × Nat)} {G : List Nat} (h : ∀ b ∈ bs, 0 ≤ b.1) : 0 ≤ intoB bs G ∧ intoB bs G ≤ sumQ (bs.map (·.1)) := by
  induction bs with
  | nil => rw [intoB_nil]; decide
  | cons b r ih =>
    have := ih fun d hd => h d (List.mem_cons_of_mem _ hd)
    have h0 := h b List.mem_cons_self
    rw [intoB_cons, List.map_cons, sumQ_cons]
    split
    · constructor <;> grind
    · constructor <;> grind
theorem v_bound {q : Rat} {D v : Int} (hD : 0 < D) (h1 : q ≤ 1) (h2 : -1 ≤ q) (e : q * (D : Rat) = (v : Rat)) : v.natAbs ≤ D.natAbs := by
  have hd : (0 : Rat) < (D : Rat) := by exact_mod_cast hD
  have a : (v : Rat) ≤ (D : Rat) := by
    rw [← e]
    have : 0 ≤ (1 - q) * (D : Rat) := Rat.mul_nonneg (by grind) (by grind)
    grind
  have b : ((-v : Int) : Rat) ≤ (D : Rat) := by
    rw [Rat.intCast_neg, ← e]
    have : 0 ≤ (1 + q) * (D : Rat) := Rat.mul_nonneg (by grind) (by grind)
    grind
  have a := Rat.intCast_le_intCast.mp a
  have b := Rat.intCast_le_intCast.mp b
  omega
theorem take_rw {f : List Rat} {bs : List (Rat × Nat)} {D : Int} (hD : 0 < D) (hf : ∀ q ∈ f, q = 0 ∨ q = 1) (hb : ∀ b ∈ bs, 0 ≤ b.1 ∧ b.2 < f.length ∧ ∃ v : Int, b.1 * (D : Rat) = (v : Rat)) (hs : sumQ (bs.map (·.1)) ≤ 1) :
    ∀ q ∈ takeF f bs, ∃ v : Int, v.natAbs ≤ D.natAbs ∧ q * (D : Rat) = (v : Rat) := fun q hq => by
  obtain ⟨i, hi, rfl⟩ := List.mem_iff_getElem.mp hq
  have hi2 : i < f.length := by rwa [takeF_len] at hi
  have e := takeF_get bs f i fun b h => (hb b h).2.1
  rw [getD_of hi] at e
  obtain ⟨v, hv⟩ := intoB_D (D := D) (G := [i]) fun b h => (hb b h).2.2
  obtain ⟨n1, n2⟩ := intoB_nn (G := [i]) fun b h => (hb b h).1
  have f0 := hf (f.getD i 0) (by rw [getD_of hi2]; exact List.getElem_mem hi2)
  rw [e]
  generalize f.getD i 0 = u at f0
  have hu : ∃ w : Int, u * (D : Rat) = (w : Rat) := by
    rcases f0 with rfl | rfl
    · exact ⟨0, by rw [Rat.zero_mul]; rfl⟩
    · exact ⟨D, by rw [Rat.one_mul]⟩
  obtain ⟨w, hw⟩ := hu
  have ez : (u - intoB bs [i]) * (D : Rat) = ((w - v : Int) : Rat) := by
    rw [Rat.intCast_sub, ← hw, ← hv]
    grind
  refine ⟨w - v, v_bound hD ?_ ?_ ez, ez⟩
  · rcases f0 with rfl | rfl <;> grind
  · rcases f0 with rfl | rfl <;> grind
theorem unitF_01 {n p : Nat} : ∀ q ∈ unitF n p, q = 0 ∨ q = 1 := fun q hq => by
  unfold unitF at hq
  obtain ⟨j, _, rfl⟩ := List.mem_map.mp hq
  split
  · exact .inr rfl
  · exact .inl rfl
theorem unitF_len {n p : Nat} : (unitF n p).length = n := by unfold unitF; simp
end PL
namespace PL
open PySem PySem.Spec PyProof.Rows L2 DK
/-- a comprehension whose elements change the state: an invariant of the number taken, what is made, the state -/
theorem ok_compI {α β : Type} {S : Stt} {vs : List Nat} {tgt : PD → Stt → Option Stt} {elt : Ev} {Q : List PD → Stt → Prop} {enc : α → PD} {en : β → PD} {l : List β} (I : Nat → List α → Stt → Prop) (h0 : I 0 [] S)
    (hs : ∀ (i : Nat) (hi : i < l.length) (m : List α) (S : Stt), I i m S → Ok (tgt (en l[i]) S) fun S1 => O2 (elt S1) fun z S3 => ∃ x, z = enc x ∧ I (i + 1) (m ++ [x]) (wipeS S3 vs))
    (q : ∀ m S, I l.length m S → Q (m.map enc) S) : O2 (compL vs tgt bTrue elt (l.map en) S []) Q := by
  have go : ∀ (n i : Nat) (m : List α) (S : Stt), i + n = l.length → I i m S → ∃ m' S', compL vs tgt bTrue elt ((l.drop i).map en) S (m.map enc) = some (m'.map enc, S') ∧ I l.length m' S' := by
    intro n
    induction n with
    | zero =>
      intro i m S hi h
      rw [List.drop_eq_nil_of_le (by omega)]
      exact ⟨m, S, rfl, by rw [← hi]; exact h⟩
    | succ n ih =>
      intro i m S hi h
      obtain ⟨S1, e1, z, S3, e3, x, rfl, h'⟩ := hs i (by omega) m S h
      obtain ⟨m', S', e4, h4⟩ := ih (i + 1) (m ++ [x]) (wipeS S3 vs) (by omega) h'
      refine ⟨m', S', ?_, h4⟩
      rw [List.drop_eq_getElem_cons (by omega), List.map_cons]
      unfold compL
      rw [e1]
      dsimp only
      rw [show bTrue S1 = some (true, S1) from rfl]
      dsimp only
      rw [e3]
      dsimp only
      rw [List.map_append] at e4
      exact e4
  obtain ⟨m', S', e, h⟩ := go l.length 0 [] S (by omega) h0
  exact ⟨_, _, e, q m' S' h⟩
theorem ok_compIR {α : Type} {S : Stt} {vs : List Nat} {tgt : PD → Stt → Option Stt} {elt : Ev} {Q : List PD → Stt → Prop} {enc : α → PD} {n : Nat} (I : Nat → List α → Stt → Prop) (h0 : I 0 [] S)
    (hs : ∀ (i : Nat) (hi : i < n) (m : List α) (S : Stt), I i m S → Ok (tgt (.int (i : Int)) S) fun S1 => O2 (elt S1) fun z S3 => ∃ x, z = enc x ∧ I (i + 1) (m ++ [x]) (wipeS S3 vs))
    (q : ∀ m S, I n m S → Q (m.map enc) S) : O2 (compL vs tgt bTrue elt (rng 0 n) S []) Q := by
  rw [rng0]
  refine ok_compI (en := fun (i : Nat) => PyData.int (i : Int)) (l := List.range n) I h0 (fun i hi m S h => ?_) fun m S h => q m S (by rwa [List.length_range] at h)
  rw [List.length_range] at hi
  rw [List.getElem_range]
  exact hs i hi m S h
/-- chances as the laws draw them: above 0, together 1, over one number up to 18 -/
structure Shr (n : Nat) (qs : List Rat) : Prop where
  len : qs.length = n
  pos : ∀ q ∈ qs, 0 < q
  one : sumQ qs = 1
  den : ∃ D : Int, 0 < D ∧ D ≤ 18 ∧ ∀ q ∈ qs, ∃ v : Int, q * (D : Rat) = (v : Rat)
theorem shr_of {ps : List Nat} (h1 : 1 ≤ ps.length) (h6 : ps.length ≤ 6) (hp : ∀ x ∈ ps, 1 ≤ x ∧ x ≤ 3) : Shr ps.length (ps.map fun (x : Nat) => Rat.divInt (x : Int) ((ps.sum : Nat) : Int)) := by
  have hs : ps.sum ≤ ps.length * 3 := sum_le fun x hx => (hp x hx).2
  have hpos : 0 < ps.sum := by
    have h0 : 0 < ps.length := by omega
    have := le_sum (List.getElem_mem h0)
    have := hp _ (List.getElem_mem h0)
    omega
  refine ⟨List.length_map _, fun q hq => ?_, by rw [sum_div _ hpos, div_self_nat _ hpos], (ps.sum : Int), by omega, by omega, fun q hq => ?_⟩
  · obtain ⟨x, hx, rfl⟩ := List.mem_map.mp hq
    exact div_pos_nat (hp x hx).1 hpos
  · obtain ⟨x, hx, rfl⟩ := List.mem_map.mp hq
    refine ⟨(x : Int), ?_⟩
    rw [Rat.divInt_eq_div]
    have : (((ps.sum : Nat) : Int) : Rat) ≠ 0 := int_ne (by omega)
    exact Rat.div_mul_cancel this
theorem getD_app_l {α : Type} {a b : List α} {d : α} {p : Nat} (h : p < a.length) : (a ++ b).getD p d = a.getD p d := by
  rw [List.getD_eq_getElem?_getD, List.getD_eq_getElem?_getD, List.getElem?_append_left h]
theorem getD_app_r {α : Type} {a : List α} {x d : α} {p : Nat} (h : p = a.length) : (a ++ [x]).getD p d = x := by
  rw [List.getD_eq_getElem?_getD, h, List.getElem?_append_right (Nat.le_refl _), Nat.sub_self]
  rfl
end PL
namespace PL
open PySem PySem.Spec PyProof.Rows L2 DK
/-! ## the law's elimination: rows in place, two of them exchanged -/
def Ln.row (l : Ln) : List Rat := l.f ++ [l.b]
def encLr (l : Ln) : PD := .list (l.row.map num)
theorem row_all {l : Ln} {q : Rat} (h : q ∈ l.row) : q ∈ l.all := by
  unfold Ln.row at h
  rcases List.mem_append.mp h with z | z
  · exact List.mem_append_left _ z
  · rw [List.mem_singleton.mp z]
    exact List.mem_append_right _ List.mem_cons_self
theorem row_len {l : Ln} : l.row.length = l.f.length + 1 := by unfold Ln.row; simp
theorem row_get {l : Ln} {i : Nat} (h : i < l.f.length) : l.row[i]? = some (l.f.getD i 0) := by
  unfold Ln.row
  rw [List.getElem?_append_left h, List.getElem?_eq_getElem h, List.getD_eq_getElem?_getD, List.getElem?_eq_getElem h]
  rfl
theorem row_scale {l : Ln} {c : Rat} : (l.scale c).row = l.row.map (c * ·) := by
  unfold Ln.row Ln.scale
  rw [List.map_append]
  rfl
theorem row_sub {l o : Ln} {c : Rat} (h : l.f.length = o.f.length) : (l.sub c o).row = List.zipWith (fun a b => a - c * b) l.row o.row := by
  unfold Ln.row Ln.sub
  rw [List.zipWith_append h]
  rfl
theorem row_less {l o : Ln} {c : Rat} {n : Nat} (h1 : l.f.length = n) (h2 : o.f.length = n) : (List.range (n + 1)).map (fun k => num (l.row.getD k 0 - c * o.row.getD k 0)) = (l.sub c o).row.map num := by
  rw [row_sub (by omega)]
  refine List.ext_getElem? fun j => ?_
  by_cases hj : j < n + 1
  · have a1 : j < l.row.length := by rw [row_len]; omega
    have a2 : j < o.row.length := by rw [row_len]; omega
    rw [List.getElem?_map, List.getElem?_range hj, List.getElem?_map, List.getElem?_zipWith, List.getElem?_eq_getElem a1, List.getElem?_eq_getElem a2]
    show some (num (l.row.getD j 0 - c * o.row.getD j 0)) = some (num (l.row[j] - c * o.row[j]))
    rw [List.getD_eq_getElem?_getD, List.getD_eq_getElem?_getD, List.getElem?_eq_getElem a1, List.getElem?_eq_getElem a2]
    rfl
  · rw [List.getElem?_eq_none (by simp; omega), List.getElem?_eq_none (by simp [row_len]; omega)]
/-- the waiting rows when the j-th of them is taken and the first one put into its place -/
def swp (x0 : Ln) (r : List Ln) : Nat → List Ln
  | 0 => r
  | j + 1 => r.set j x0
theorem swp_len {x0 : Ln} {r : List Ln} {j : Nat} : (swp x0 r j).length = r.length := by
  cases j <;> simp [swp]
theorem swp_mem {x0 : Ln} {r : List Ln} {j : Nat} (hj : j < (x0 :: r).length) : ∀ x, x ∈ x0 :: r ↔ x = (x0 :: r)[j] ∨ x ∈ swp x0 r j := by
  intro x
  cases j with
  | zero => rw [List.mem_cons]; rfl
  | succ j =>
    have hj2 : j < r.length := by simpa using hj
    show x ∈ x0 :: r ↔ x = r[j] ∨ x ∈ r.set j x0
    rw [List.mem_cons]
    constructor
    · rintro (rfl | h)
      · exact .inr (List.mem_set hj2 _)
      · obtain ⟨k, hk, rfl⟩ := List.mem_iff_getElem.mp h
        by_cases e : k = j
        · subst e
          exact .inl rfl
        · refine .inr (List.mem_iff_getElem.mpr ⟨k, by simpa using hk, ?_⟩)
          rw [List.getElem_set_ne (fun z => e z.symm)]
    · rintro (rfl | h)
      · exact .inr (List.getElem_mem hj2)
      · rcases List.mem_or_eq_of_mem_set h with z | z
        · exact .inr z
        · exact .inl z
/-- the exchange, in the whole table -/
theorem swp_table {sv r : List Ln} {x0 o : Ln} {j : Nat} (hj : j < (x0 :: r).length) : (((sv ++ x0 :: r).set sv.length ((x0 :: r)[j])).set (sv.length + j) x0).set sv.length o = sv ++ o :: swp x0 r j := by
  cases j with
  | zero =>
    rw [Nat.add_zero, List.set_set, List.set_set, List.set_append_right _ _ (Nat.le_refl _), Nat.sub_self]
    rfl
  | succ j =>
    rw [List.set_append_right _ _ (Nat.le_refl _), Nat.sub_self, List.set_append_right _ _ (by omega)]
    have : sv.length + (j + 1) - sv.length = j + 1 := by omega
    rw [this, List.set_append_right _ _ (Nat.le_refl _), Nat.sub_self]
    rfl
theorem swp_at {sv r : List Ln} {x0 : Ln} {j : Nat} (hj : j < (x0 :: r).length) : (((sv ++ x0 :: r).set sv.length ((x0 :: r)[j])).set (sv.length + j) x0)[sv.length]? = some ((x0 :: r)[j]) := by
  cases j with
  | zero =>
    rw [Nat.add_zero, List.getElem?_set_self (by simp)]
    rfl
  | succ j =>
    rw [List.getElem?_set_ne (by omega), List.getElem?_set_self (by simp)]
/-- the table while the rows are gone through -/
def clr (c : Nat) (o : Ln) (i : Nat) (T : List Ln) : List Ln := T.mapIdx fun k x => if k < i ∧ k ≠ c then x.out c o else x
theorem clr_len {c i : Nat} {o : Ln} {T : List Ln} : (clr c o i T).length = T.length := by unfold clr; simp
theorem clr_zero {c : Nat} {o : Ln} {T : List Ln} : clr c o 0 T = T := by
  unfold clr
  refine List.ext_getElem? fun j => ?_
  rw [List.getElem?_mapIdx]
  cases T[j]? with
  | none => rfl
  | some x => simp
theorem clr_at {c i : Nat} {o : Ln} {T : List Ln} (h : i < T.length) : (clr c o i T)[i]? = some T[i] := by
  unfold clr
  rw [List.getElem?_mapIdx, List.getElem?_eq_getElem h]
  simp
theorem clr_step {c i : Nat} {o : Ln} {T : List Ln} (h : i < T.length) (hc : i ≠ c) : clr c o (i + 1) T = (clr c o i T).set i (T[i].out c o) := by
  refine List.ext_getElem? fun j => ?_
  by_cases e : j = i
  · subst e
    rw [List.getElem?_set_self (by rw [clr_len]; exact h)]
    unfold clr
    rw [List.getElem?_mapIdx, List.getElem?_eq_getElem h]
    simp [hc]
  · rw [List.getElem?_set_ne (fun z => e z.symm)]
    unfold clr
    rw [List.getElem?_mapIdx, List.getElem?_mapIdx]
    cases T[j]? with
    | none => rfl
    | some x =>
      have : (j < i + 1 ∧ j ≠ c) ↔ (j < i ∧ j ≠ c) := ⟨fun z => ⟨by omega, z.2⟩, fun z => ⟨by omega, z.2⟩⟩
      simp only [Option.map_some, this]
theorem clr_skip {c i : Nat} {o : Ln} {T : List Ln} (h : i < T.length) (hc : i = c ∨ T[i].out c o = T[i]) : clr c o (i + 1) T = clr c o i T := by
  refine List.ext_getElem? fun j => ?_
  unfold clr
  rw [List.getElem?_mapIdx, List.getElem?_mapIdx]
  by_cases e : j = i
  · subst e
    rw [List.getElem?_eq_getElem h]
    show some _ = some _
    congr 1
    by_cases z : j = c
    · simp [z]
    · rcases hc with w | w
      · exact absurd w z
      · simp [z, w]
  · cases T[j]? with
    | none => rfl
    | some x =>
      have : (j < i + 1 ∧ j ≠ c) ↔ (j < i ∧ j ≠ c) := ⟨fun z => ⟨by omega, z.2⟩, fun z => ⟨by omega, z.2⟩⟩
      simp only [Option.map_some, this]
theorem clr_all {o : Ln} {sv w : List Ln} : clr sv.length o (sv ++ o :: w).length (sv ++ o :: w) = sv.map (fun x => x.out sv.length o) ++ o :: w.map fun x => x.out sv.length o := by
  refine List.ext_getElem? fun j => ?_
  unfold clr
  rw [List.getElem?_mapIdx]
  by_cases h1 : j < sv.length
  · rw [List.getElem?_append_left h1, List.getElem?_append_left (by simpa using h1), List.getElem?_map, List.getElem?_eq_getElem h1]
    show some _ = some _
    congr 1
    exact if_pos ⟨by simp; omega, by omega⟩
  · rw [List.getElem?_append_right (by omega), List.getElem?_append_right (by simp; omega), List.length_map]
    by_cases h2 : j = sv.length
    · subst h2
      rw [Nat.sub_self]
      show some _ = some _
      congr 1
      exact if_neg fun z => z.2 rfl
    · obtain ⟨k, hk⟩ : ∃ k, j - sv.length = k + 1 := ⟨j - sv.length - 1, by omega⟩
      rw [hk, List.getElem?_cons_succ, List.getElem?_cons_succ, List.getElem?_map]
      by_cases h3 : k < w.length
      · rw [List.getElem?_eq_getElem h3]
        show some _ = some _
        congr 1
        exact if_pos ⟨by simp; omega, h2⟩
      · rw [List.getElem?_eq_none (by omega)]
        rfl
theorem out_self {l o : Ln} {c : Nat} (h : l.f.getD c 0 = 0) : l.out c o = l := by
  unfold Ln.out
  rw [if_pos h]
end PL
namespace PL
open PySem PySem.Spec PyProof.Rows L2 DK
/-! ## any chain: chances of meeting goals -/
structure PW (n : Nat) (x : Plc) : Prop where
  len : x.br.length ≤ 6
  br : x.br = [] ∨ ((∀ b ∈ x.br, 0 < b.1 ∧ b.2 < n) ∧ sumQ (x.br.map (·.1)) = 1)
  den : ∃ D : Int, 0 < D ∧ D ≤ 18 ∧ ∀ b ∈ x.br, ∃ v : Int, b.1 * (D : Rat) = (v : Rat)
theorem PAh.pw {n p : Nat} {x : Plc} (h : PAh n p x) : PW n x :=
  ⟨h.len, h.ah.elim .inl fun a => .inr ⟨a.pos, a.one⟩, let ⟨D, d1, d2, d3, _⟩ := h.den; ⟨D, d1, d2, d3⟩⟩
def CW (c : List Plc) : Prop := ∀ p, p < c.length → PW c.length (cAt c p)
theorem CW.lt {c : List Plc} (A : CW c) {p : Nat} (hp : p < c.length) {b : Rat × Nat} (hb : b ∈ (cAt c p).br) : b.2 < c.length ∧ 0 < b.1 := by
  rcases (A p hp).br with h | h
  · rw [h] at hb; cases hb
  · exact ⟨(h.1 b hb).2, (h.1 b hb).1⟩
theorem CW.tlt {c : List Plc} (A : CW c) : ∀ p, p < c.length → ∀ t ∈ ctg c p, t < c.length := fun p hp t ht => by
  unfold ctg at ht
  obtain ⟨b, hb, rfl⟩ := List.mem_map.mp ht
  exact (A.lt hp hb).1
theorem PW.nn {n : Nat} {x : Plc} (h : PW n x) : (∀ b ∈ x.br, 0 ≤ b.1) ∧ sumQ (x.br.map (·.1)) ≤ 1 := by
  rcases h.br with e | e
  · rw [e]
    refine ⟨(fun b hb => by cases hb), ?_⟩
    show sumQ [] ≤ 1
    rw [sumQ_nil]
    decide
  · refine ⟨fun b hb => by have := (e.1 b hb).1; grind, ?_⟩
    rw [e.2]
    exact Rat.le_refl
theorem ev_le_max {bs : List (Rat × Nat)} {z : Nat → Rat} {M : Rat} (hp : ∀ b ∈ bs, 0 < b.1) (hz : ∀ b ∈ bs, z b.2 ≤ M) : ev bs z ≤ sumQ (bs.map (·.1)) * M ∧ (sumQ (bs.map (·.1)) * M ≤ ev bs z → ∀ b ∈ bs, z b.2 = M) := by
  induction bs with
  | nil =>
    rw [ev_nil]
    show (0 : Rat) ≤ sumQ [] * M ∧ _
    rw [sumQ_nil]
    exact ⟨by grind, fun _ b hb => by cases hb⟩
  | cons b r ih =>
    obtain ⟨i1, i2⟩ := ih (fun d hd => hp d (List.mem_cons_of_mem _ hd)) fun d hd => hz d (List.mem_cons_of_mem _ hd)
    have p0 := hp b List.mem_cons_self
    have z0 := hz b List.mem_cons_self
    have m0 := mul_le_r (Rat.le_of_lt p0) z0
    rw [ev_cons, List.map_cons, sumQ_cons]
    refine ⟨by grind, fun h d hd => ?_⟩
    have e1 : b.1 * M ≤ b.1 * z b.2 := by grind
    have e2 : sumQ (r.map (·.1)) * M ≤ ev r z := by grind
    rcases List.mem_cons.mp hd with rfl | hd
    · refine Classical.byContradiction fun ne => ?_
      have : z d.2 < M := by grind
      have := mul_lt_r p0 this
      grind
    · exact i2 e2 d hd
theorem most_at (z : Nat → Rat) : ∀ n, 0 < n → ∃ m, m < n ∧ ∀ j, j < n → z j ≤ z m
  | 0, h => by omega
  | 1, _ => ⟨0, by omega, fun j hj => by
    have : j = 0 := by omega
    subst this
    exact Rat.le_refl⟩
  | n + 2, _ => by
    obtain ⟨m, hm, h⟩ := most_at z (n + 1) (by omega)
    by_cases c : z m ≤ z (n + 1)
    · refine ⟨n + 1, by omega, fun j hj => ?_⟩
      by_cases e : j = n + 1
      · subst e; exact Rat.le_refl
      · have := h j (by omega); grind
    · refine ⟨m, by omega, fun j hj => ?_⟩
      by_cases e : j = n + 1
      · subst e; grind
      · exact h j (by omega)
def Near (c : List Plc) (G : List Nat) (p : Nat) : Prop := ∃ q, q ∈ G ∧ Rch (ctg c) p q
/-- what is no more than its mean wherever it is above nought, and not above nought at goals, is nowhere above nought -/
theorem drain_le {c : List Plc} (A : CW c) {G : List Nat} {z : Nat → Rat} (hz : ∀ p, p < c.length → z p ≤ 0 ∨ (Near c G p ∧ p ∉ G ∧ z p ≤ ev (cAt c p).br z)) : ∀ p, p < c.length → z p ≤ 0 := fun p hp => by
  obtain ⟨m, hm, hmax⟩ := most_at z c.length (by omega)
  refine Classical.byContradiction fun hn => ?_
  have pos : 0 < z m := by
    have := hmax p hp
    grind
  have step : ∀ q, q < c.length → z q = z m → Near c G q ∧ q ∉ G ∧ ∀ t ∈ ctg c q, z t = z m := fun q hq e => by
    rcases hz q hq with h | ⟨h1, h2, h3⟩
    · exfalso; grind
    · refine ⟨h1, h2, fun t ht => ?_⟩
      unfold ctg at ht
      obtain ⟨b, hb, rfl⟩ := List.mem_map.mp ht
      rcases (A q hq).br with e0 | ⟨e1, e2⟩
      · rw [e0] at hb; cases hb
      · obtain ⟨_, k⟩ := ev_le_max (bs := (cAt c q).br) (z := z) (M := z m) (fun b hb => (e1 b hb).1) fun b hb => hmax b.2 (e1 b hb).2
        rw [e2] at k
        exact k (by grind) b hb
  obtain ⟨⟨g, hg, r⟩, _, _⟩ := step m hm rfl
  have all : ∀ q, Rch (ctg c) m q → q < c.length ∧ z q = z m := fun q r => by
    induction r with
    | refl => exact ⟨hm, rfl⟩
    | step _ h2 ih => exact ⟨A.tlt _ ih.1 _ h2, (step _ ih.1 ih.2).2.2 _ h2⟩
  obtain ⟨g1, g2⟩ := all g r
  exact (step g g1 g2).2.1 hg
theorem ev_neg (bs : List (Rat × Nat)) (x : Nat → Rat) : ev bs (fun i => - x i) = - ev bs x := by
  induction bs with
  | nil => rw [ev_nil, ev_nil]; grind
  | cons b r ih => rw [ev_cons, ev_cons, ih]; grind
theorem drain {c : List Plc} (A : CW c) {G : List Nat} {z : Nat → Rat} (hz : ∀ p, p < c.length → z p = 0 ∨ (Near c G p ∧ p ∉ G ∧ z p = ev (cAt c p).br z)) : ∀ p, p < c.length → z p = 0 := fun p hp => by
  have a := drain_le A (G := G) (z := z) (fun p hp => (hz p hp).elim (fun h => .inl (by rw [h]; exact Rat.le_refl)) fun h => .inr ⟨h.1, h.2.1, by have := h.2.2; grind⟩) p hp
  have b := drain_le A (G := G) (z := fun i => - z i) (fun p hp => (hz p hp).elim (fun h => .inl (by show - z p ≤ 0; rw [h]; grind)) fun h => .inr ⟨h.1, h.2.1, by
    have e := ev_neg (cAt c p).br z
    show - z p ≤ _
    rw [e]
    have := h.2.2
    grind⟩) p hp
  have b : - z p ≤ 0 := b
  grind
structure IsCh (c : List Plc) (G : List Nat) (x : Nat → Rat) : Prop where
  goal : ∀ p, p < c.length → p ∈ G → x p = 1
  far : ∀ p, p < c.length → ¬ Near c G p → x p = 0
  mean : ∀ p, p < c.length → p ∉ G → x p = ev (cAt c p).br x
theorem ev_const {bs : List (Rat × Nat)} (k : Rat) (x : Nat → Rat) : ev bs (fun i => x i - k) = ev bs x - sumQ (bs.map (·.1)) * k := by
  induction bs with
  | nil =>
    rw [ev_nil, ev_nil]
    show (0 : Rat) = 0 - sumQ [] * k
    rw [sumQ_nil]; grind
  | cons b r ih => rw [ev_cons, ev_cons, List.map_cons, sumQ_cons, ih]; grind
section
variable {c : List Plc} {G : List Nat} {x y : Nat → Rat}
theorem IsCh.unique (A : CW c) (hx : IsCh c G x) (hy : IsCh c G y) : ∀ p, p < c.length → x p = y p := fun p hp => by
  have := drain A (G := G) (z := fun i => x i - y i) (fun p hp => by
    by_cases hg : p ∈ G
    · left
      show x p - y p = 0
      rw [hx.goal p hp hg, hy.goal p hp hg]
      grind
    · by_cases hn : Near c G p
      · refine .inr ⟨hn, hg, ?_⟩
        have e := ev_sub (cAt c p).br x y
        show x p - y p = _
        rw [e, ← hx.mean p hp hg, ← hy.mean p hp hg]
      · left
        show x p - y p = 0
        rw [hx.far p hp hn, hy.far p hp hn]
        grind) p hp
  have this : x p - y p = 0 := this
  grind
theorem IsCh.bounds (A : CW c) (hx : IsCh c G x) : ∀ p, p < c.length → 0 ≤ x p ∧ x p ≤ 1 := fun p hp => by
  have a := drain_le A (G := G) (z := fun i => - x i) (fun p hp => by
    by_cases hg : p ∈ G
    · left
      show - x p ≤ 0
      rw [hx.goal p hp hg]
      decide
    · by_cases hn : Near c G p
      · refine .inr ⟨hn, hg, ?_⟩
        have e := ev_neg (cAt c p).br x
        show - x p ≤ _
        rw [e, ← hx.mean p hp hg]
        exact Rat.le_refl
      · left
        show - x p ≤ 0
        rw [hx.far p hp hn]
        decide) p hp
  have b := drain_le A (G := G) (z := fun i => x i - 1) (fun p hp => by
    by_cases hg : p ∈ G
    · left
      show x p - 1 ≤ 0
      rw [hx.goal p hp hg]
      grind
    · by_cases hn : Near c G p
      · refine .inr ⟨hn, hg, ?_⟩
        have e := ev_const (bs := (cAt c p).br) 1 x
        show x p - 1 ≤ _
        rw [e, ← hx.mean p hp hg]
        have := (A p hp).nn.2
        grind
      · left
        show x p - 1 ≤ 0
        rw [hx.far p hp hn]
        grind) p hp
  have a : - x p ≤ 0 := a
  have b : x p - 1 ≤ 0 := b
  constructor <;> grind
/-- nought leads to nought, 1 leads to 1 -/
theorem IsCh.zero (A : CW c) (hx : IsCh c G x) {p : Nat} (hp : p < c.length) (h0 : x p = 0) : ∀ t ∈ ctg c p, x t = 0 := fun t ht => by
  have hg : p ∉ G := fun z => by
    have := hx.goal p hp z
    rw [h0] at this
    exact absurd this (by decide)
  have m := hx.mean p hp hg
  rw [h0] at m
  unfold ctg at ht
  obtain ⟨b, hb, rfl⟩ := List.mem_map.mp ht
  rcases (A p hp).br with e0 | ⟨e1, e2⟩
  · rw [e0] at hb; cases hb
  · obtain ⟨_, k⟩ := ev_le_max (bs := (cAt c p).br) (z := fun i => - x i) (M := 0) (fun b hb => (e1 b hb).1) fun b hb => by
      have := (hx.bounds A b.2 (e1 b hb).2).1
      show - x b.2 ≤ 0
      grind
    have e := ev_neg (cAt c p).br x
    have := k (by rw [e, ← m]; grind) b hb
    have this : - x b.2 = 0 := this
    grind
theorem IsCh.one (A : CW c) (hx : IsCh c G x) {p : Nat} (hp : p < c.length) (hg : p ∉ G) (h1 : x p = 1) : ∀ t ∈ ctg c p, x t = 1 := fun t ht => by
  have m := hx.mean p hp hg
  rw [h1] at m
  unfold ctg at ht
  obtain ⟨b, hb, rfl⟩ := List.mem_map.mp ht
  rcases (A p hp).br with e0 | ⟨e1, e2⟩
  · rw [e0] at hb; cases hb
  · obtain ⟨_, k⟩ := ev_le_max (bs := (cAt c p).br) (z := x) (M := 1) (fun b hb => (e1 b hb).1) fun b hb => (hx.bounds A b.2 (e1 b hb).2).2
    exact k (by rw [e2, ← m]; grind) b hb
end
end PL
namespace PL
open PySem PySem.Spec PyProof.Rows L2 DK
/-! ## conditions, runs -/
def Plc.isFin : Plc → Bool
  | .fin => true
  | _ => false
def Plc.isLose : Plc → Bool
  | .lose => true
  | _ => false
def finP (c : List Plc) : List Nat := (List.range c.length).filter fun p => (cAt c p).isFin
def loseP (c : List Plc) : List Nat := (List.range c.length).filter fun p => (cAt c p).isLose
def endP (c : List Plc) : List Nat := (List.range c.length).filter fun p => (cAt c p).br.isEmpty
theorem finP_mem {c : List Plc} {p : Nat} : p ∈ finP c ↔ p < c.length ∧ (cAt c p).isFin = true := by unfold finP; rw [List.mem_filter, List.mem_range]
theorem loseP_mem {c : List Plc} {p : Nat} : p ∈ loseP c ↔ p < c.length ∧ (cAt c p).isLose = true := by unfold loseP; rw [List.mem_filter, List.mem_range]
theorem endP_mem {c : List Plc} {p : Nat} : p ∈ endP c ↔ p < c.length ∧ (cAt c p).br = [] := by unfold endP; rw [List.mem_filter, List.mem_range, List.isEmpty_iff]
/-- a chain as k72 draws it -/
structure CD (c : List Plc) : Prop where
  w : CW c
  e : ∀ p, p < c.length → (cAt c p).br = [] → (cAt c p).isFin = true ∨ (cAt c p).isLose = true
theorem fin_br {x : Plc} (h : x.isFin = true) : x.br = [] ∧ x.isLose = false := by
  cases x <;> first | exact ⟨rfl, rfl⟩ | cases h
theorem lose_br {x : Plc} (h : x.isLose = true) : x.br = [] ∧ x.isFin = false := by
  cases x <;> first | exact ⟨rfl, rfl⟩ | cases h
theorem ev_add2 (bs : List (Rat × Nat)) (x y : Nat → Rat) : ev bs (fun i => x i + y i) = ev bs x + ev bs y := by
  induction bs with
  | nil => rw [ev_nil, ev_nil, ev_nil]; grind
  | cons b r ih => rw [ev_cons, ev_cons, ev_cons, ih]; grind
/-- finish and lose together are all ends -/
theorem three_one {c : List Plc} (C : CD c) {f l e : Nat → Rat} (hf : IsCh c (finP c) f) (hl : IsCh c (loseP c) l) (he : IsCh c (endP c) e) : ∀ p, p < c.length → f p + l p = e p := by
  have key : IsCh c (endP c) fun i => f i + l i := by
    refine ⟨fun p hp hg => ?_, fun p hp hn => ?_, fun p hp hg => ?_⟩
    · have b := (endP_mem.mp hg).2
      rcases C.e p hp b with h | h
      · rw [hf.goal p hp (finP_mem.mpr ⟨hp, h⟩), hl.mean p hp (fun z => by
          have := (loseP_mem.mp z).2
          rw [(fin_br h).2] at this
          cases this), b, ev_nil]
        grind
      · rw [hl.goal p hp (loseP_mem.mpr ⟨hp, h⟩), hf.mean p hp (fun z => by
          have := (finP_mem.mp z).2
          rw [(lose_br h).2] at this
          cases this), b, ev_nil]
        grind
    · rw [hf.far p hp fun ⟨q, h1, h2⟩ => hn ⟨q, endP_mem.mpr ⟨(finP_mem.mp h1).1, (fin_br (finP_mem.mp h1).2).1⟩, h2⟩,
        hl.far p hp fun ⟨q, h1, h2⟩ => hn ⟨q, endP_mem.mpr ⟨(loseP_mem.mp h1).1, (lose_br (loseP_mem.mp h1).2).1⟩, h2⟩]
      grind
    · rw [ev_add2, ← hf.mean p hp fun z => hg (endP_mem.mpr ⟨hp, (fin_br (finP_mem.mp z).2).1⟩), ← hl.mean p hp fun z => hg (endP_mem.mpr ⟨hp, (lose_br (loseP_mem.mp z).2).1⟩)]
  exact key.unique C.w he
inductive Cnd where
  | fin
  | lose
  | never (S : List Nat)
def Cnd.enc : Cnd → PD
  | .fin => .tuple [.str "finish"]
  | .lose => .tuple [.str "lose"]
  | .never S => .tuple [.str "never", nats S]
theorem cnd_fin : Cnd.enc .fin = .tuple [.str "finish"] := rfl
theorem cnd_lose : Cnd.enc .lose = .tuple [.str "lose"] := rfl
theorem cnd_never {S : List Nat} : Cnd.enc (.never S) = .tuple [.str "never", nats S] := rfl
/-- the chances of a condition -/
def IsHeld (c : List Plc) : Cnd → (Nat → Rat) → Prop
  | .fin, y => IsCh c (finP c) y
  | .lose, y => IsCh c (loseP c) y
  | .never S, y => IsCh c S fun p => 1 - y p
structure IsRun (c : List Plc) (r : List Nat) : Prop where
  ne : 0 < r.length
  lt : ∀ p ∈ r, p < c.length
  go : ∀ i, i + 1 < r.length → r.getD (i + 1) 0 ∈ ctg c (r.getD i 0)
theorem IsRun.at {c : List Plc} {r : List Nat} (h : IsRun c r) {i : Nat} (hi : i < r.length) : r.getD i 0 < c.length := by
  rw [getD_of hi]
  exact h.lt _ (List.getElem_mem hi)
/-- a nought on the run makes its last one nought -/
theorem held_zero {c : List Plc} (C : CD c) {cd : Cnd} {y : Nat → Rat} (h : IsHeld c cd y) {r : List Nat} (R : IsRun c r) (hS : ∀ S, cd = .never S → (∀ p ∈ r, p ∉ S) ∨ S = endP c) :
    ∀ (m i : Nat), i + m + 1 = r.length → y (r.getD i 0) = 0 → y (r.getD (r.length - 1) 0) = 0
  | 0, i, hi, h0 => by
    have : r.length - 1 = i := by omega
    rw [this]
    exact h0
  | m + 1, i, hi, h0 => by
    refine held_zero C h R hS m (i + 1) (by omega) ?_
    have hp := R.at (show i < r.length by omega)
    have ht := R.go i (by omega)
    cases cd with
    | fin => exact IsCh.zero C.w h hp h0 _ ht
    | lose => exact IsCh.zero C.w h hp h0 _ ht
    | never S =>
      have hi2 : i < r.length := by omega
      have h : IsCh c S fun p => 1 - y p := h
      have ns : r.getD i 0 ∉ S := fun z => by
        rcases hS S rfl with k | k
        · exact k _ (by rw [getD_of hi2]; exact List.getElem_mem hi2) z
        · rw [k] at z
          have := (endP_mem.mp z).2
          unfold ctg at ht
          rw [this] at ht
          cases ht
      have := IsCh.one C.w h hp ns (by show 1 - y _ = 1; rw [h0]; grind) _ ht
      have this : 1 - y (r.getD (i + 1) 0) = 1 := this
      grind
theorem held_bounds {c : List Plc} (C : CD c) {cd : Cnd} {y : Nat → Rat} (h : IsHeld c cd y) : ∀ p, p < c.length → 0 ≤ y p ∧ y p ≤ 1 := fun p hp => by
  cases cd with
  | fin => exact IsCh.bounds C.w h p hp
  | lose => exact IsCh.bounds C.w h p hp
  | never S =>
    have := IsCh.bounds C.w h p hp
    have this : 0 ≤ 1 - y p ∧ 1 - y p ≤ 1 := this
    constructor <;> grind
/-- the run's chance, after i steps -/
def stp (c : List Plc) (p t : Nat) : Rat := intoB (cAt c p).br [t]
def rcp (c : List Plc) (r : List Nat) : Nat → Rat
  | 0 => 1
  | i + 1 => rcp c r i * stp c (r.getD i 0) (r.getD (i + 1) 0)
theorem stp_sz {c : List Plc} (A : CW c) {p t : Nat} (hp : p < c.length) : Sz 5 (stp c p t) ∧ 0 ≤ stp c p t := by
  obtain ⟨n1, n2⟩ := (A p hp).nn
  obtain ⟨D, d1, d2, d3⟩ := (A p hp).den
  obtain ⟨v, hv⟩ := intoB_D (D := D) (G := [t]) d3
  obtain ⟨b1, b2⟩ := intoB_nn (G := [t]) n1
  have := v_bound d1 (q := intoB (cAt c p).br [t]) (by grind) (by grind) hv
  obtain ⟨a, b⟩ := rat_bound (by omega) hv
  exact ⟨⟨by unfold stp; omega, by unfold stp; omega⟩, b1⟩
theorem rcp_sz {c : List Plc} (A : CW c) {r : List Nat} (R : IsRun c r) : ∀ i, i < r.length → Sz (1 + 5 * i) (rcp c r i) ∧ 0 ≤ rcp c r i
  | 0, _ => ⟨sz_one, by show (0 : Rat) ≤ 1; decide⟩
  | i + 1, hi => by
    obtain ⟨h1, h2⟩ := rcp_sz A R i (by omega)
    obtain ⟨s1, s2⟩ := stp_sz A (t := r.getD (i + 1) 0) (R.at (show i < r.length by omega))
    exact ⟨(mul_sz h1 s1).mono (by omega), Rat.mul_nonneg h2 s2⟩
/-- the part of a condition -/
def partV (c : List Plc) (r : List Nat) (y : Nat → Rat) : Rat := if r.any (fun p => decide (y p = 0)) = true then 0 else rcp c r (r.length - 1) * y (r.getD (r.length - 1) 0)
theorem partV_eq {c : List Plc} (C : CD c) {cd : Cnd} {y : Nat → Rat} (h : IsHeld c cd y) {r : List Nat} (R : IsRun c r) (hS : ∀ S, cd = .never S → (∀ p ∈ r, p ∉ S) ∨ S = endP c) : partV c r y = rcp c r (r.length - 1) * y (r.getD (r.length - 1) 0) := by
  unfold partV
  split
  · rename_i z
    obtain ⟨p, hp, h0⟩ := List.any_eq_true.mp z
    obtain ⟨i, hi, rfl⟩ := List.mem_iff_getElem.mp hp
    have h0 := of_decide_eq_true h0
    rw [held_zero C h R hS (r.length - 1 - i) i (by omega) (by rw [getD_of hi]; exact h0)]
    grind
  · rfl
end PL
namespace PL
open PySem PySem.Spec PyProof.Rows L2 DK
/-- a comprehension whose condition and elements change the state -/
theorem ok_compIC {α β : Type} {S : Stt} {vs : List Nat} {tgt : PD → Stt → Option Stt} {cond : EvB} {elt : Ev} {Q : List PD → Stt → Prop} {enc : α → PD} {en : β → PD} {l : List β} (I : Nat → List α → Stt → Prop) (h0 : I 0 [] S)
    (hs : ∀ (i : Nat) (hi : i < l.length) (m : List α) (S : Stt), I i m S → Ok (tgt (en l[i]) S) fun S1 => O2 (cond S1) fun b S2 => (b = true → O2 (elt S2) fun z S3 => ∃ x, z = enc x ∧ I (i + 1) (m ++ [x]) (wipeS S3 vs)) ∧ (b = false → I (i + 1) m (wipeS S2 vs)))
    (q : ∀ m S, I l.length m S → Q (m.map enc) S) : O2 (compL vs tgt cond elt (l.map en) S []) Q := by
  have go : ∀ (n i : Nat) (m : List α) (S : Stt), i + n = l.length → I i m S → ∃ m' S', compL vs tgt cond elt ((l.drop i).map en) S (m.map enc) = some (m'.map enc, S') ∧ I l.length m' S' := by
    intro n
    induction n with
    | zero =>
      intro i m S hi h
      rw [List.drop_eq_nil_of_le (by omega)]
      exact ⟨m, S, rfl, by rw [← hi]; exact h⟩
    | succ n ih =>
      intro i m S hi h
      obtain ⟨S1, e1, b, S2, e2, ht, hf⟩ := hs i (by omega) m S h
      rw [List.drop_eq_getElem_cons (by omega), List.map_cons]
      cases b with
      | true =>
        obtain ⟨z, S3, e3, x, rfl, h'⟩ := ht rfl
        obtain ⟨m', S', e4, h4⟩ := ih (i + 1) (m ++ [x]) (wipeS S3 vs) (by omega) h'
        refine ⟨m', S', ?_, h4⟩
        unfold compL
        rw [e1]
        dsimp only
        rw [e2]
        dsimp only
        rw [e3]
        dsimp only
        rw [List.map_append] at e4
        exact e4
      | false =>
        obtain ⟨m', S', e4, h4⟩ := ih (i + 1) m (wipeS S2 vs) (by omega) (hf rfl)
        refine ⟨m', S', ?_, h4⟩
        unfold compL
        rw [e1]
        dsimp only
        rw [e2]
        exact e4
  obtain ⟨m', S', e, h⟩ := go l.length 0 [] S (by omega) h0
  exact ⟨_, _, e, q m' S' h⟩
theorem ok_compICR {α : Type} {S : Stt} {vs : List Nat} {tgt : PD → Stt → Option Stt} {cond : EvB} {elt : Ev} {Q : List PD → Stt → Prop} {enc : α → PD} {n : Nat} (I : Nat → List α → Stt → Prop) (h0 : I 0 [] S)
    (hs : ∀ (i : Nat) (hi : i < n) (m : List α) (S : Stt), I i m S → Ok (tgt (.int (i : Int)) S) fun S1 => O2 (cond S1) fun b S2 => (b = true → O2 (elt S2) fun z S3 => ∃ x, z = enc x ∧ I (i + 1) (m ++ [x]) (wipeS S3 vs)) ∧ (b = false → I (i + 1) m (wipeS S2 vs)))
    (q : ∀ m S, I n m S → Q (m.map enc) S) : O2 (compL vs tgt cond elt (rng 0 n) S []) Q := by
  rw [rng0]
  refine ok_compIC (en := fun (i : Nat) => PyData.int (i : Int)) (l := List.range n) I h0 (fun i hi m S h => ?_) fun m S h => q m S (by rwa [List.length_range] at h)
  rw [List.length_range] at hi
  rw [List.getElem_range]
  exact hs i hi m S h
end PL
namespace Lw
open PySem PySem.Spec PyProof.Rows L2 DK
def d_number : EvSt :=
  sSeq (sIf (eB (eOp gLt (eNm 1) (eC (.int 0))))
  (sPar 0 1 (aCons (eUn gNeg (eNm 0)) (aCons (eUn gNeg (eNm 1)) (aNil))))
  (sNil)) <|
  sSeq (sSet 2 (eCall gGcd (aCons (eNm 0) (aCons (eNm 1) (aNil))))) <|
  sRet (eTup (aCons (eOp gDiv (eNm 0) (eNm 2)) (aCons (eOp gDiv (eNm 1) (eNm 2)) (aNil))))
def f_number := defP 3 2 d_number
def d_times : EvSt :=
  sRet (eCall f_number (aCons (eOp gMul (eOp gIx (eNm 0) (eC (.int 0))) (eOp gIx (eNm 1) (eC (.int 0)))) (aCons (eOp gMul (eOp gIx (eNm 0) (eC (.int 1))) (eOp gIx (eNm 1) (eC (.int 1)))) (aNil))))
def f_times := defP 2 2 d_times
def d_targets : EvSt :=
  sSeq (sSet 2 (eOp gIx (eNm 0) (eNm 1))) <|
  sSeq (sIf (eB (eOp gEq (eOp gIx (eNm 2) (eC (.int 0))) (eC (.str "draw"))))
  (sRetF (fLc (iLst (eOp gIx (eNm 2) (eC (.int 1)))) [3, 4] (tTp 2 (tsCons (tNm 3) (tsCons (tNm 4) (tsNil)))) (bTrue) (eNm 4)))
  (sNil)) <|
  sSeq (sIf (bOr (eB (eOp gEq (eOp gIx (eNm 2) (eC (.int 0))) (eC (.str "ours")))) (eB (eOp gEq (eOp gIx (eNm 2) (eC (.int 0))) (eC (.str "theirs")))))
  (sRetF (fCall gList (aCons (eOp gIx (eNm 2) (eC (.int 1))) (aNil))))
  (sNil)) <|
  sSeq (sIf (eB (eOp gEq (eOp gIx (eNm 2) (eC (.int 0))) (eC (.str "reward"))))
  (sRetF (fLst (aCons (eOp gIx (eNm 2) (eC (.int 2))) (aNil))))
  (sNil)) <|
  sRetF (fLst (aNil))
def f_targets := defF 5 2 d_targets
def d_first_wrong : EvSt :=
  sSeq (sFor (iEnumD (aCons (eNm 1) (aNil))) [2, 3] (tTp 2 (tsCons (tNm 2) (tsCons (tNm 3) (tsNil))))
  (sIf (eB (eOp gEq (eNm 2) (eC (.int 0))))
  (sIf (bNot (eB (eChain gLe gLt (eC (.int 0)) (eNm 3) (eCall gLen (aCons (eNm 0) (aNil))))))
  (sRet (eC (.int 0)))
  (sNil))
  (sIf (eB (eOp (gIn true) (eNm 3) (eF (fCall f_targets (aCons (eNm 0) (aCons (eOp gIx (eNm 1) (eOp gSub (eNm 2) (eC (.int 1)))) (aNil)))))))
  (sRet (eNm 2))
  (sNil)))) <|
  sRet (eC .none)
def f_first_wrong := defP 4 2 d_first_wrong
def d_plus : EvSt :=
  sRet (eCall f_number (aCons (eOp gAdd (eOp gMul (eOp gIx (eNm 0) (eC (.int 0))) (eOp gIx (eNm 1) (eC (.int 1)))) (eOp gMul (eOp gIx (eNm 1) (eC (.int 0))) (eOp gIx (eNm 0) (eC (.int 1))))) (aCons (eOp gMul (eOp gIx (eNm 0) (eC (.int 1))) (eOp gIx (eNm 1) (eC (.int 1)))) (aNil))))
def f_plus := defP 2 2 d_plus
def d_chances_to : EvSt :=
  sSeq (sSet 2 (eOp gIx (eNm 0) (eNm 1))) <|
  sSeq (sIf (eB (eOp gEq (eOp gIx (eNm 2) (eC (.int 0))) (eC (.str "draw"))))
  (sRetF (fCall gList (aCons (eOp gIx (eNm 2) (eC (.int 1))) (aNil))))
  (sNil)) <|
  sSeq (sIf (eB (eOp gEq (eOp gIx (eNm 2) (eC (.int 0))) (eC (.str "reward"))))
  (sRetF (fLst (aCons (eTup (aCons (eC (.tuple [.int 1, .int 1])) (aCons (eOp gIx (eNm 2) (eC (.int 2))) (aNil)))) (aNil))))
  (sNil)) <|
  sRetF (fLst (aCons (eTup (aCons (eC (.tuple [.int 1, .int 1])) (aCons (eNm 1) (aNil)))) (aNil)))
def f_chances_to := defF 3 2 d_chances_to
def d_step_chance : EvSt :=
  sSeq (sSet 3 (eC (.tuple [.int 0, .int 1]))) <|
  sSeq (sFor (fCall f_chances_to (aCons (eNm 0) (aCons (eNm 1) (aNil)))) [4, 5] (tTp 2 (tsCons (tNm 4) (tsCons (tNm 5) (tsNil))))
  (sIf (eB (eOp gEq (eNm 5) (eNm 2)))
  (sSet 3 (eCall f_plus (aCons (eNm 3) (aCons (eNm 4) (aNil)))))
  (sNil))) <|
  sRet (eNm 3)
def f_step_chance := defP 6 3 d_step_chance
def d_chance_of : EvSt :=
  sSeq (sSet 2 (eCall f_first_wrong (aCons (eNm 0) (aCons (eNm 1) (aNil))))) <|
  sSeq (sIf (eB (eOp (gIs true) (eNm 2) (eC .none)))
  (sNever)
  (sNil)) <|
  sSeq (sSet 3 (eC (.tuple [.int 1, .int 1]))) <|
  sSeq (sFor (iZipD (aCons (eNm 1) (aCons (eSl (eNm 1) (oSo (eC (.int 1))) (oNo)) (aNil)))) [4, 5] (tTp 2 (tsCons (tNm 4) (tsCons (tNm 5) (tsNil))))
  (sSet 3 (eCall f_times (aCons (eNm 3) (aCons (eCall f_step_chance (aCons (eNm 0) (aCons (eNm 4) (aCons (eNm 5) (aNil))))) (aNil)))))) <|
  sRet (eNm 3)
def f_chance_of := defP 6 2 d_chance_of
def d_minus : EvSt :=
  sRet (eCall f_number (aCons (eOp gSub (eOp gMul (eOp gIx (eNm 0) (eC (.int 0))) (eOp gIx (eNm 1) (eC (.int 1)))) (eOp gMul (eOp gIx (eNm 1) (eC (.int 0))) (eOp gIx (eNm 0) (eC (.int 1))))) (aCons (eOp gMul (eOp gIx (eNm 0) (eC (.int 1))) (eOp gIx (eNm 1) (eC (.int 1)))) (aNil))))
def f_minus := defP 2 2 d_minus
def d_places_of : EvSt :=
  sRetF (fLc (iEnumD (aCons (eNm 0) (aNil))) [2, 3] (tTp 2 (tsCons (tNm 2) (tsCons (tNm 3) (tsNil)))) (eB (eOp gEq (eOp gIx (eNm 3) (eC (.int 0))) (eNm 1))) (eNm 2))
def f_places_of := defF 4 2 d_places_of
def f_reached := fReached f_targets
def d_all_reached : EvSt :=
  sRetF (fLc (iRng1 (aCons (eCall gLen (aCons (eNm 0) (aNil))) (aNil))) [1] (tNm 1) (bTrue) (eF (fCall f_reached (aCons (eNm 0) (aCons (eNm 1) (aNil))))))
def f_all_reached := defF 2 1 d_all_reached
def d_divided : EvSt :=
  sRet (eCall f_number (aCons (eOp gMul (eOp gIx (eNm 0) (eC (.int 0))) (eOp gIx (eNm 1) (eC (.int 1)))) (aCons (eOp gMul (eOp gIx (eNm 0) (eC (.int 1))) (eOp gIx (eNm 1) (eC (.int 0)))) (aNil))))
def f_divided := defP 2 2 d_divided
def d_scaled : EvSt :=
  sRet (eTup (aCons (eF (fLc (iLst (eOp gIx (eNm 0) (eC (.int 0)))) [2] (tNm 2) (bTrue) (eCall f_times (aCons (eNm 1) (aCons (eNm 2) (aNil)))))) (aCons (eCall f_times (aCons (eNm 1) (aCons (eOp gIx (eNm 0) (eC (.int 1))) (aNil)))) (aCons (eF (fLc (iLst (eOp gIx (eNm 0) (eC (.int 2)))) [2] (tNm 2) (bTrue) (eCall f_times (aCons (eNm 1) (aCons (eNm 2) (aNil)))))) (aNil)))))
def f_scaled := defP 3 2 d_scaled
def d_without : EvSt :=
  sSeq (sIf (eB (eOp gEq (eOp gIx (eOp gIx (eNm 0) (eC (.int 0))) (eNm 1)) (eC (.tuple [.int 0, .int 1]))))
  (sRet (eNm 0))
  (sNil)) <|
  sSeq (sSet 3 (eCall f_scaled (aCons (eNm 2) (aCons (eOp gIx (eOp gIx (eNm 0) (eC (.int 0))) (eNm 1)) (aNil))))) <|
  sSeq (sThen 4 (sSetF 4 (fLc (iZipD (aCons (eOp gIx (eNm 0) (eC (.int 0))) (aCons (eOp gIx (eNm 3) (eC (.int 0))) (aNil)))) [6, 7] (tTp 2 (tsCons (tNm 6) (tsCons (tNm 7) (tsNil)))) (bTrue) (eCall f_minus (aCons (eNm 6) (aCons (eNm 7) (aNil))))))) <|
  sSeq (sThen 5 (sSetF 5 (fLc (iZipD (aCons (eOp gIx (eNm 0) (eC (.int 2))) (aCons (eOp gIx (eNm 3) (eC (.int 2))) (aNil)))) [6, 7] (tTp 2 (tsCons (tNm 6) (tsCons (tNm 7) (tsNil)))) (bTrue) (eCall f_minus (aCons (eNm 6) (aCons (eNm 7) (aNil))))))) <|
  sRet (eTup (aCons (eNm 4) (aCons (eCall f_minus (aCons (eOp gIx (eNm 0) (eC (.int 1))) (aCons (eOp gIx (eNm 3) (eC (.int 1))) (aNil)))) (aCons (eNm 5) (aNil)))))
def f_without := defP 8 3 d_without
def d_reduced : EvSt :=
  sSeq (sSetF 2 (fLst (aNil))) <|
  sSeq (sFor (iEnumD (aCons (eNm 1) (aNil))) [3, 4, 5] (tTp 2 (tsCons (tNm 3) (tsCons (tTp 2 (tsCons (tNm 4) (tsCons (tNm 5) (tsNil)))) (tsNil))))
  (sApp 2 (eTup (aCons (eF (fCall gList (aCons (eNm 4) (aNil)))) (aCons (eNm 5) (aCons (eF (fLc (iRng1 (aCons (eCall gLen (aCons (eNm 1) (aNil))) (aNil))) [9] (tNm 9) (bTrue) (eIf (eB (eOp gEq (eNm 9) (eNm 3))) (eC (.tuple [.int 1, .int 1])) (eC (.tuple [.int 0, .int 1]))))) (aNil))))))) <|
  sSeq (sSet 6 (eF (fLst (aNil)))) <|
  sSeq (sFrz 2 (sFor (iRng1 (aCons (eNm 0) (aNil))) [3] (tNm 3)
  (sSeq (sThen 7 (sSetF 7 (fLc (iEnumD (aCons (eNm 2) (aNil))) [9, 8] (tTp 2 (tsCons (tNm 9) (tsCons (tNm 8) (tsNil)))) (eB (eOp gNe (eOp gIx (eOp gIx (eNm 8) (eC (.int 0))) (eNm 3)) (eC (.tuple [.int 0, .int 1])))) (eNm 9)))) <|
  sIf (eTru (eNm 7))
  (sSeq (sSet 8 (eOp gIx (eNm 2) (eOp gIx (eNm 7) (eC (.int 0))))) <|
  sSeq (sSet 8 (eCall f_scaled (aCons (eNm 8) (aCons (eCall f_divided (aCons (eC (.tuple [.int 1, .int 1])) (aCons (eOp gIx (eOp gIx (eNm 8) (eC (.int 0))) (eNm 3)) (aNil)))) (aNil))))) <|
  sSeq (sSet 2 (eOp gAdd (eSl (eNm 2) (oNo) (oSo (eOp gIx (eNm 7) (eC (.int 0))))) (eSl (eNm 2) (oSo (eOp gAdd (eOp gIx (eNm 7) (eC (.int 0))) (eC (.int 1)))) (oNo)))) <|
  sSeq (sThen 2 (sSetF 2 (fLc (iLst (eNm 2)) [10] (tNm 10) (bTrue) (eCall f_without (aCons (eNm 10) (aCons (eNm 3) (aCons (eNm 8) (aNil)))))))) <|
  sSet 6 (eOp gAdd (eF (fLc (iLst (eNm 6)) [11, 10] (tTp 2 (tsCons (tNm 11) (tsCons (tNm 10) (tsNil)))) (bTrue) (eTup (aCons (eNm 11) (aCons (eCall f_without (aCons (eNm 10) (aCons (eNm 3) (aCons (eNm 8) (aNil))))) (aNil)))))) (eF (fLst (aCons (eTup (aCons (eNm 3) (aCons (eNm 8) (aNil)))) (aNil))))))
  (sNil)))) <|
  sRet (eTup (aCons (eNm 6) (aCons (eNm 2) (aNil))))
def f_reduced := defP 12 2 d_reduced
def d_solution_of : EvSt :=
  sSeq (sSetF 2 (fLc (iRng1 (aCons (eNm 0) (aNil))) [3] (tNm 3) (bTrue) (eC (.tuple [.int 0, .int 1])))) <|
  sSeq (sFor (iLst (eNm 1)) [3, 4] (tTp 2 (tsCons (tNm 3) (tsCons (tNm 4) (tsNil))))
  (sSto 2 (eOp gIx (eNm 4) (eC (.int 1))) (eNm 3))) <|
  sRetOw 2
def f_solution_of := defF 5 2 d_solution_of
def d_only_solution : EvSt :=
  sSeq (sAsg (eCall f_reduced (aCons (eNm 0) (aCons (eNm 1) (aNil)))) [2, 3] (tTp 2 (tsCons (tNm 2) (tsCons (tNm 3) (tsNil))))) <|
  sSeq (sIf (bOr (eB (eOp gLt (eCall gLen (aCons (eNm 2) (aNil))) (eNm 0))) (eTru (eCall gAny (aCons (eF (fLc (iLst (eNm 3)) [4] (tNm 4) (bTrue) (eOp gNe (eOp gIx (eNm 4) (eC (.int 1))) (eC (.tuple [.int 0, .int 1]))))) (aNil)))))
  (sNever)
  (sNil)) <|
  sRetF (fCall f_solution_of (aCons (eNm 0) (aCons (eNm 2) (aNil))))
def f_only_solution := defF 5 2 d_only_solution
def d_branches : EvSt :=
  sSeq (sIf (eB (eOp gEq (eOp gIx (eOp gIx (eNm 0) (eNm 1)) (eC (.int 0))) (eC (.str "draw"))))
  (sRetF (fCall gList (aCons (eOp gIx (eOp gIx (eNm 0) (eNm 1)) (eC (.int 1))) (aNil))))
  (sNil)) <|
  sSeq (sIf (eB (eOp gEq (eOp gIx (eOp gIx (eNm 0) (eNm 1)) (eC (.int 0))) (eC (.str "reward"))))
  (sRetF (fLst (aCons (eTup (aCons (eC (.tuple [.int 1, .int 1])) (aCons (eOp gIx (eOp gIx (eNm 0) (eNm 1)) (eC (.int 2))) (aNil)))) (aNil))))
  (sNil)) <|
  sRetF (fLst (aNil))
def f_branches := defF 2 2 d_branches
def d_means : EvSt :=
  sSeq (sSetF 4 (fLst (aNil))) <|
  sSeq (sFor (iLst (eNm 1)) [5] (tNm 5)
  (sSeq (sSetF 6 (fLc (iLst (eNm 1)) [11] (tNm 11) (bTrue) (eIf (eB (eOp gEq (eNm 11) (eNm 5))) (eC (.tuple [.int 1, .int 1])) (eC (.tuple [.int 0, .int 1]))))) <|
  sSeq (sSet 7 (eOp gIx (eNm 2) (eNm 5))) <|
  sSeq (sFor (fCall f_branches (aCons (eNm 0) (aCons (eNm 5) (aNil)))) [8, 9] (tTp 2 (tsCons (tNm 8) (tsCons (tNm 9) (tsNil))))
  (sIf (eB (eOp (gIn false) (eNm 9) (eNm 1)))
  (sSeq (sSet 10 (eOp gIndex (eNm 1) (eNm 9))) <|
  sSto 6 (eCall f_minus (aCons (eIxO 6 (eNm 10)) (aCons (eNm 8) (aNil)))) (eNm 10))
  (sSet 7 (eCall f_plus (aCons (eNm 7) (aCons (eCall f_times (aCons (eNm 8) (aCons (eOp gIx (eNm 3) (eNm 9)) (aNil)))) (aNil))))))) <|
  sFrz 6 (sApp 4 (eTup (aCons (eNm 6) (aCons (eNm 7) (aNil))))))) <|
  sRetF (fCallM f_only_solution (mE (eCall gLen (aCons (eNm 1) (aNil))) (mN 4 (mNil))))
def f_means := defF 12 4 d_means
def d_chances : EvSt :=
  sSeq (sSet 2 (eF (fCall f_all_reached (aCons (eNm 0) (aNil))))) <|
  sSeq (sSetF 3 (fLc (iRng1 (aCons (eCall gLen (aCons (eNm 0) (aNil))) (aNil))) [7] (tNm 7) (bTrue) (eIf (eB (eOp (gIn false) (eNm 7) (eNm 1))) (eC (.tuple [.int 1, .int 1])) (eC (.tuple [.int 0, .int 1]))))) <|
  sSeq (sThen 4 (sSetF 4 (fLc (iRng1 (aCons (eCall gLen (aCons (eNm 0) (aNil))) (aNil))) [7] (tNm 7) (eTru (eCall gAny (aCons (eF (fLc (iLst (eNm 1)) [9] (tNm 9) (bTrue) (eOp (gIn false) (eNm 9) (eOp gIx (eNm 2) (eNm 7))))) (aNil)))) (eNm 7)))) <|
  sSeq (sThen 5 (sSetF 5 (fLc (iLst (eNm 4)) [7] (tNm 7) (eB (eOp (gIn true) (eNm 7) (eNm 1))) (eNm 7)))) <|
  sSeq (sSet 6 (eF (fCallM f_means (mE (eNm 0) (mE (eNm 5) (mE (eF (fLc (iLst (eNm 0)) [7] (tNm 7) (bTrue) (eC (.tuple [.int 0, .int 1])))) (mN 3 (mNil)))))))) <|
  sSeq (sFor (iZipD (aCons (eNm 5) (aCons (eNm 6) (aNil)))) [7, 8] (tTp 2 (tsCons (tNm 7) (tsCons (tNm 8) (tsNil))))
  (sSto 3 (eNm 8) (eNm 7))) <|
  sRetOw 3
def f_chances := defF 10 2 d_chances
def d_chances_of : EvSt :=
  sSeq (sIf (eB (eOp gEq (eOp gIx (eNm 1) (eC (.int 0))) (eC (.str "never"))))
  (sRetF (fLc (fCall f_chances (aCons (eNm 0) (aCons (eOp gIx (eNm 1) (eC (.int 1))) (aNil)))) [2] (tNm 2) (bTrue) (eCall f_minus (aCons (eC (.tuple [.int 1, .int 1])) (aCons (eNm 2) (aNil))))))
  (sNil)) <|
  sRetF (fCall f_chances (aCons (eNm 0) (aCons (eF (fCall f_places_of (aCons (eNm 0) (aCons (eOp gIx (eNm 1) (eC (.int 0))) (aNil))))) (aNil))))
def f_chances_of := defF 3 2 d_chances_of
def d__law_draw : EvSt :=
  sSeq (sIf (eB (eOp gLt (eIxO 0 (eC (.int 2))) (eNm 1)))
  (sSeq (sSet 2 (eC (.int 0))) <|
  sSeq (sIf (eB (eOp gLt (eIxO 0 (eC (.int 1))) (eCall gLen (aCons (eIxO 0 (eC (.int 0))) (aNil)))))
  (sSet 2 (eOp gIx (eIxO 0 (eC (.int 0))) (eIxO 0 (eC (.int 1)))))
  (sNil)) <|
  sSeq (sSto 0 (eOp gAdd (eIxO 0 (eC (.int 1))) (eC (.int 1))) (eC (.int 1))) <|
  sSeq (sSto 0 (eNm 2) (eC (.int 2))) <|
  sIf (eB (eOp gLt (eNm 2) (eOp gPow (eC (.int 10)) (eC (.int 18)))))
  (sSeq (sSet 3 (eOp gMod (eCall gInt (aCons (eOp gAdd (eOp gMul (eNm 2) (eC (.int 48271))) (eOp gMul (eIxO 0 (eC (.int 1))) (eC (.int 69621)))) (aNil))) (eC (.int 2147483647)))) <|
  sSeq (sSet 4 (eOp gMod (eCall gInt (aCons (eOp gAdd (eOp gAdd (eOp gMul (eNm 3) (eC (.int 40692))) (eOp gMul (eNm 2) (eC (.int 7)))) (eC (.int 5))) (aNil))) (eC (.int 2147483399)))) <|
  sSto 0 (eOp gAdd (eOp gAdd (eOp gMul (eNm 4) (eC (.int 2147483563))) (eNm 3)) (eOp gPow (eC (.int 10)) (eC (.int 18)))) (eC (.int 2)))
  (sNil))
  (sNil)) <|
  sSeq (sSet 5 (eOp gMod (eCall gInt (aCons (eIxO 0 (eC (.int 2))) (aNil))) (eNm 1))) <|
  sSeq (sSto 0 (eOp gDiv (eCall gInt (aCons (eIxO 0 (eC (.int 2))) (aNil))) (eNm 1)) (eC (.int 2))) <|
  sRet (eNm 5)
def f__law_draw := defI 6 2 d__law_draw
def d__law_number : EvSt :=
  sSeq (sIf (eB (eOp gLt (eNm 1) (eC (.int 0))))
  (sPar 0 1 (aCons (eOp gSub (eC (.int 0)) (eNm 0)) (aCons (eOp gSub (eC (.int 0)) (eNm 1)) (aNil))))
  (sNil)) <|
  sSeq (sPar 2 3 (aCons (eCall gAbs (aCons (eNm 0) (aNil))) (aCons (eNm 1) (aNil)))) <|
  sSeq (sWhile (eB (eOp gNe (eNm 3) (eC (.int 0))))
  (sPar 2 3 (aCons (eNm 3) (aCons (eOp gMod (eCall gInt (aCons (eNm 2) (aNil))) (eNm 3)) (aNil))))) <|
  sRet (eTup (aCons (eOp gDiv (eNm 0) (eNm 2)) (aCons (eOp gDiv (eNm 1) (eNm 2)) (aNil))))
def f__law_number := defP 4 2 d__law_number
def d__law_plus : EvSt :=
  sRet (eCall f__law_number (aCons (eOp gAdd (eOp gMul (eOp gIx (eNm 0) (eC (.int 0))) (eOp gIx (eNm 1) (eC (.int 1)))) (eOp gMul (eOp gIx (eNm 1) (eC (.int 0))) (eOp gIx (eNm 0) (eC (.int 1))))) (aCons (eOp gMul (eOp gIx (eNm 0) (eC (.int 1))) (eOp gIx (eNm 1) (eC (.int 1)))) (aNil))))
def f__law_plus := defP 2 2 d__law_plus
def d__law_times : EvSt :=
  sRet (eCall f__law_number (aCons (eOp gMul (eOp gIx (eNm 0) (eC (.int 0))) (eOp gIx (eNm 1) (eC (.int 0)))) (aCons (eOp gMul (eOp gIx (eNm 0) (eC (.int 1))) (eOp gIx (eNm 1) (eC (.int 1)))) (aNil))))
def f__law_times := defP 2 2 d__law_times
def d__law_less : EvSt :=
  sRet (eOp gLt (eOp gMul (eOp gIx (eNm 0) (eC (.int 0))) (eOp gIx (eNm 1) (eC (.int 1)))) (eOp gMul (eOp gIx (eNm 1) (eC (.int 0))) (eOp gIx (eNm 0) (eC (.int 1)))))
def f__law_less := defP 2 2 d__law_less
def d__law_shares : EvSt :=
  sSeq (sSet 2 (eF (fLc (iRng1 (aCons (eNm 1) (aNil))) [3] (tNm 3) (bTrue) (eOp gAdd (eC (.int 1)) (eCallI f__law_draw 0 (aCons (eC (.int 3)) (aNil))))))) <|
  sRetF (fLc (iLst (eNm 2)) [4] (tNm 4) (bTrue) (eCall f__law_number (aCons (eNm 4) (aCons (eCall gSum (aCons (eNm 2) (aNil))) (aNil)))))
def f__law_shares := defIF 5 2 d__law_shares
def d__law_place : EvSt :=
  sSeq (sIf (eB (eOp gEq (eNm 1) (eC (.str "draw"))))
  (sSeq (sSet 3 (eF (fCallI f__law_shares 0 (aCons (eOp gIx (eF (fLst (aCons (eC (.int 1)) (aCons (eC (.int 2)) (aCons (eC (.int 2)) (aCons (eC (.int 3)) (aCons (eC (.int 2)) (aCons (eC (.int 6)) (aNil))))))))) (eCallI f__law_draw 0 (aCons (eC (.int 6)) (aNil)))) (aNil))))) <|
  sRet (eTup (aCons (eC (.str "draw")) (aCons (eF (fLc (iLst (eNm 3)) [5] (tNm 5) (bTrue) (eTup (aCons (eNm 5) (aCons (eCallI f__law_draw 0 (aCons (eNm 2) (aNil))) (aNil)))))) (aNil)))))
  (sNil)) <|
  sSeq (sIf (bOr (eB (eOp gEq (eNm 1) (eC (.str "ours")))) (eB (eOp gEq (eNm 1) (eC (.str "theirs")))))
  (sRet (eTup (aCons (eNm 1) (aCons (eF (fLc (iRng1 (aCons (eOp gIx (eF (fLst (aCons (eC (.int 1)) (aCons (eC (.int 2)) (aCons (eC (.int 2)) (aCons (eC (.int 3)) (aCons (eC (.int 2)) (aCons (eC (.int 5)) (aNil))))))))) (eCallI f__law_draw 0 (aCons (eC (.int 6)) (aNil)))) (aNil))) [6] (tNm 6) (bTrue) (eCallI f__law_draw 0 (aCons (eNm 2) (aNil))))) (aNil)))))
  (sNil)) <|
  sSeq (sIf (eB (eOp gEq (eNm 1) (eC (.str "reward"))))
  (sSeq (sSet 4 (eCall f__law_number (aCons (eCallI f__law_draw 0 (aCons (eC (.int 5)) (aNil))) (aCons (eOp gAdd (eC (.int 1)) (eCallI f__law_draw 0 (aCons (eC (.int 3)) (aNil)))) (aNil))))) <|
  sRet (eTup (aCons (eC (.str "reward")) (aCons (eNm 4) (aCons (eCallI f__law_draw 0 (aCons (eNm 2) (aNil))) (aNil))))))
  (sNil)) <|
  sRet (eTup (aCons (eNm 1) (aNil)))
def f__law_place := defI 7 3 d__law_place
def d__law_game : EvSt :=
  sSeq (sSet 3 (eOp gAdd (eC (.int 1)) (eCallI f__law_draw 0 (aCons (eNm 1) (aNil))))) <|
  sSeq (sIf (eB (eOp gEq (eCallI f__law_draw 0 (aCons (eC (.int 16)) (aNil))) (eC (.int 0))))
  (sSet 3 (eOp gAdd (eNm 1) (eC (.int 5))))
  (sNil)) <|
  sSeq (sSetF 4 (fLc (iRng1 (aCons (eNm 3) (aNil))) [5] (tNm 5) (bTrue) (eCallI f__law_place 0 (aCons (eOp gIx (eNm 2) (eCallI f__law_draw 0 (aCons (eCall gLen (aCons (eNm 2) (aNil))) (aNil)))) (aCons (eNm 3) (aNil)))))) <|
  sSeq (sIf (eB (eOp gGt (eCallI f__law_draw 0 (aCons (eC (.int 3)) (aNil))) (eC (.int 0))))
  (sSto 4 (eTup (aCons (eC (.str "finish")) (aNil))) (eOp gSub (eNm 3) (eC (.int 1))))
  (sNil)) <|
  sRetOw 4
def f__law_game := defIF 6 3 d__law_game
def d__law_targets : EvSt :=
  sSeq (sIf (eB (eOp gEq (eOp gIx (eNm 0) (eC (.int 0))) (eC (.str "draw"))))
  (sRetF (fLc (iLst (eOp gIx (eNm 0) (eC (.int 1)))) [1] (tNm 1) (bTrue) (eOp gIx (eNm 1) (eC (.int 1)))))
  (sNil)) <|
  sSeq (sIf (eB (eOp gEq (eOp gIx (eNm 0) (eC (.int 0))) (eC (.str "reward"))))
  (sRetF (fLst (aCons (eOp gIx (eNm 0) (eC (.int 2))) (aNil))))
  (sNil)) <|
  sSeq (sIf (bOr (eB (eOp gEq (eOp gIx (eNm 0) (eC (.int 0))) (eC (.str "ours")))) (eB (eOp gEq (eOp gIx (eNm 0) (eC (.int 0))) (eC (.str "theirs")))))
  (sRetF (fCall gList (aCons (eOp gIx (eNm 0) (eC (.int 1))) (aNil))))
  (sNil)) <|
  sRetF (fLst (aNil))
def f__law_targets := defF 2 1 d__law_targets
def d__law_walk : EvSt :=
  sSeq (sSetF 3 (fLst (aCons (eNm 2) (aNil)))) <|
  sSeq (sFor (iRng1 (aCons (eCallI f__law_draw 0 (aCons (eC (.int 5)) (aNil))) (aNil))) [4] (tNm 4)
  (sSeq (sSet 5 (eF (fCall f__law_targets (aCons (eOp gIx (eNm 1) (eIxO 3 (eOp gSub (eCallM gLen (mN 3 (mNil))) (eC (.int 1))))) (aNil))))) <|
  sIf (eB (eOp gGt (eCall gLen (aCons (eNm 5) (aNil))) (eC (.int 0))))
  (sApp 3 (eOp gIx (eNm 5) (eCallI f__law_draw 0 (aCons (eCall gLen (aCons (eNm 5) (aNil))) (aNil)))))
  (sNil))) <|
  sRetOw 3
def f__law_walk := defIF 6 3 d__law_walk
def d__law_step : EvSt :=
  sSeq (sIf (eB (eOp gNe (eOp gIx (eNm 0) (eC (.int 0))) (eC (.str "draw"))))
  (sRet (eTup (aCons (eC (.int 1)) (aCons (eC (.int 1)) (aNil)))))
  (sNil)) <|
  sSeq (sSet 2 (eTup (aCons (eC (.int 0)) (aCons (eC (.int 1)) (aNil))))) <|
  sSeq (sFor (iLst (eOp gIx (eNm 0) (eC (.int 1)))) [3, 4] (tTp 2 (tsCons (tNm 3) (tsCons (tNm 4) (tsNil))))
  (sIf (eB (eOp gEq (eNm 4) (eNm 1)))
  (sSet 2 (eCall f__law_plus (aCons (eNm 2) (aCons (eNm 3) (aNil)))))
  (sNil))) <|
  sRet (eNm 2)
def f__law_step := defP 5 2 d__law_step
def d__law_chance : EvSt :=
  sSeq (sSet 2 (eTup (aCons (eC (.int 1)) (aCons (eC (.int 1)) (aNil))))) <|
  sSeq (sFor (iRng2 (aCons (eC (.int 1)) (aCons (eCall gLen (aCons (eNm 1) (aNil))) (aNil)))) [3] (tNm 3)
  (sSet 2 (eCall f__law_times (aCons (eNm 2) (aCons (eCall f__law_step (aCons (eOp gIx (eNm 0) (eOp gIx (eNm 1) (eOp gSub (eNm 3) (eC (.int 1))))) (aCons (eOp gIx (eNm 1) (eNm 3)) (aNil)))) (aNil)))))) <|
  sRet (eNm 2)
def f__law_chance := defP 4 2 d__law_chance
def d_check_held : EvSt :=
  sSeq (sSet 3 (eF (fCall f_chances_of (aCons (eNm 0) (aCons (eNm 2) (aNil)))))) <|
  sSeq (sIf (eB (eOp gEq (eOp gIx (eNm 3) (eNm 1)) (eC (.tuple [.int 0, .int 1]))))
  (sNever)
  (sNil)) <|
  sRet (eNm 3)
def f_check_held := defP 4 3 d_check_held
def d_run_chance_given : EvSt :=
  sSeq (sSet 3 (eCall f_chance_of (aCons (eNm 0) (aCons (eNm 1) (aNil))))) <|
  sSeq (sSet 4 (eCall f_check_held (aCons (eNm 0) (aCons (eOp gIx (eNm 1) (eC (.int 0))) (aCons (eNm 2) (aNil)))))) <|
  sSeq (sIf (eTru (eCall gAny (aCons (eF (fLc (iLst (eNm 1)) [5] (tNm 5) (bTrue) (eOp gEq (eOp gIx (eNm 4) (eNm 5)) (eC (.tuple [.int 0, .int 1]))))) (aNil))))
  (sRet (eC (.tuple [.int 0, .int 1])))
  (sNil)) <|
  sRet (eCall f_divided (aCons (eCall f_times (aCons (eNm 3) (aCons (eOp gIx (eNm 4) (eOp gIx (eNm 1) (eUn gNeg (eC (.int 1))))) (aNil)))) (aCons (eOp gIx (eNm 4) (eOp gIx (eNm 1) (eC (.int 0)))) (aNil))))
def f_run_chance_given := defP 6 3 d_run_chance_given
def d__law_part : EvSt :=
  sSeq (sSet 3 (eF (fCall f_chances_of (aCons (eNm 0) (aCons (eNm 2) (aNil)))))) <|
  sSeq (sIf (eB (eOp gEq (eOp gIx (eNm 3) (eOp gIx (eNm 1) (eC (.int 0)))) (eTup (aCons (eC (.int 0)) (aCons (eC (.int 1)) (aNil))))))
  (sRet (eTup (aCons (eC (.int 0)) (aCons (eC (.int 1)) (aNil)))))
  (sNil)) <|
  sRet (eCall f__law_times (aCons (eOp gIx (eNm 3) (eOp gIx (eNm 1) (eC (.int 0)))) (aCons (eCall f_run_chance_given (aApp (lenA 2 (aCons (eNm 0) (aCons (eNm 1) (aNil)))) (lenA 1 (aCons (eNm 2) (aNil))))) (aNil))))
def f__law_part := defP 4 3 d__law_part
def d_law : EvSt :=
  sSeq (sSetF 1 (fLst (aCons (eF (fScr 0)) (aCons (eC (.int 0)) (aCons (eC (.int 0)) (aNil)))))) <|
  sSeq (sSet 2 (eF (fCallI f__law_game 1 (aCons (eC (.int 5)) (aCons (eF (fLst (aCons (eC (.str "draw")) (aCons (eC (.str "draw")) (aCons (eC (.str "draw")) (aCons (eC (.str "reward")) (aCons (eC (.str "finish")) (aCons (eC (.str "lose")) (aNil))))))))) (aNil)))))) <|
  sSeq (sThen 3 (sSetF 3 (fLc (iRng1 (aCons (eCall gLen (aCons (eNm 2) (aNil))) (aNil))) [5] (tNm 5) (eB (eOp gEq (eCall gLen (aCons (eF (fCall f__law_targets (aCons (eOp gIx (eNm 2) (eNm 5)) (aNil)))) (aNil))) (eC (.int 0)))) (eNm 5)))) <|
  sSeq (sSet 4 (eF (fLst (aCons (eTup (aCons (eC (.str "finish")) (aNil))) (aCons (eTup (aCons (eC (.str "lose")) (aNil))) (aCons (eTup (aCons (eC (.str "never")) (aCons (eNm 3) (aNil)))) (aNil))))))) <|
  sSeq (sFor (iRng1 (aCons (eCall gLen (aCons (eNm 2) (aNil))) (aNil))) [5] (tNm 5)
  (sSeq (sSet 6 (eTup (aCons (eC (.int 0)) (aCons (eC (.int 1)) (aNil))))) <|
  sSeq (sFor (iLst (eNm 4)) [7] (tNm 7)
  (sSet 6 (eCall f__law_plus (aCons (eNm 6) (aCons (eOp gIx (eF (fCall f_chances_of (aCons (eNm 2) (aCons (eNm 7) (aNil))))) (eNm 5)) (aNil)))))) <|
  sIf (eB (eOp gNe (eNm 6) (eTup (aCons (eC (.int 1)) (aCons (eC (.int 1)) (aNil))))))
  (sRet (eC (.bool false)))
  (sNil))) <|
  sSeq (sSet 8 (eF (fCallI f__law_walk 1 (aCons (eNm 2) (aCons (eCallI f__law_draw 1 (aCons (eCall gLen (aCons (eNm 2) (aNil))) (aNil))) (aNil)))))) <|
  sSeq (sSet 6 (eTup (aCons (eC (.int 0)) (aCons (eC (.int 1)) (aNil))))) <|
  sSeq (sFor (iLst (eNm 4)) [7] (tNm 7)
  (sSet 6 (eCall f__law_plus (aCons (eNm 6) (aCons (eCall f__law_part (aCons (eNm 2) (aCons (eNm 8) (aCons (eNm 7) (aNil))))) (aNil)))))) <|
  sSeq (sSet 9 (eCall f__law_chance (aCons (eNm 2) (aCons (eNm 8) (aNil))))) <|
  sSeq (sIf (bOr (eB (eOp gNe (eNm 6) (eNm 9))) (eB (eOp gNe (eCall f_chance_of (aCons (eNm 2) (aCons (eNm 8) (aNil)))) (eNm 9))))
  (sRet (eC (.bool false)))
  (sNil)) <|
  sSeq (sSet 10 (eF (fLc (iRng1 (aCons (eCall gLen (aCons (eNm 2) (aNil))) (aNil))) [5] (tNm 5) (eB (eOp gEq (eCallI f__law_draw 1 (aCons (eC (.int 4)) (aNil))) (eC (.int 0)))) (eNm 5)))) <|
  sSeq (sSet 11 (eCall f__law_part (aCons (eNm 2) (aCons (eNm 8) (aCons (eTup (aCons (eC (.str "never")) (aCons (eNm 10) (aNil)))) (aNil)))))) <|
  sSeq (sSet 12 (eF (fCall f_chances_of (aCons (eNm 2) (aCons (eTup (aCons (eC (.str "never")) (aCons (eNm 10) (aNil)))) (aNil)))))) <|
  sSeq (sSet 13 (eCall f__law_times (aCons (eNm 9) (aCons (eOp gIx (eNm 12) (eOp gIx (eNm 8) (eOp gSub (eCall gLen (aCons (eNm 8) (aNil))) (eC (.int 1))))) (aNil))))) <|
  sSeq (sIf (eTru (eCall gAny (aCons (eF (fLc (iLst (eNm 8)) [5] (tNm 5) (bTrue) (eOp (gIn false) (eNm 5) (eNm 10)))) (aNil))))
  (sSet 13 (eTup (aCons (eC (.int 0)) (aCons (eC (.int 1)) (aNil)))))
  (sNil)) <|
  sRet (eAnd (eOp gEq (eNm 11) (eNm 13)) (eNot (eCall f__law_less (aCons (eNm 9) (aCons (eNm 11) (aNil))))))
def f_law := defS 14 1 d_law
end Lw
namespace Lw
open PySem PySem.Spec PyProof.Rows L2 DK PL
local macro_rules | `(tactic| close_w) => `(tactic| (try simp only [PL.q_nm, PL.q_c, PL.q_nil, PL.q_cons, PL.q_tup, PL.q_F, PL.q_lst, PL.q_op, PL.q_un, PL.q_call, PL.q_fcall, PL.q_B, PL.q_tru, PL.q_bT, PL.q_and, PL.q_or, PL.q_not, PL.q_eand, PL.q_eor, PL.q_enot, PL.q_if, PL.q_chain, PL.q_ixO, PL.q_sl, PL.q_oNo, PL.q_oSo, PL.q_rev, PL.q_ty, PL.q_mnil, PL.q_mE, PL.q_mN, PL.q_adNil, PL.q_adV, PL.q_adN, PL.q_callM, PL.q_fcallM, PL.q_copy, PL.q_opN, PL.q_rep, PL.q_rgL, PL.q_iLst, PL.q_iTup, PL.q_iScr, PL.q_rng1, PL.q_lc, PL.q_lc2, PL.q_slK, PL.o_sortedN, PL.o_sortedC, PL.o_isN, PL.o_isB, PL.q_indexO, PL.q_enumD, PL.p_nstF, PL.p_push, PL.p_cel, PL.p_retN, PL.Ns_nst, PL.o_index, PL.isOn_fv, PL.isOn_no, PL.isOn_sh, PL.isOn_ow, PL.isOn_scr, PL.isOn_raw, PL.isOn_nst, PL.fr_raw, PL.fr_nst, PL.isOw_raw, PL.isOw_nst,
  PL.p_seq, PL.p_nil, PL.p_bk, PL.p_ct, PL.p_never, PL.p_frz, PL.p_expr, PL.p_ret, PL.p_retF, PL.p_retOw, PL.p_set, PL.p_setF, PL.p_if, PL.p_app, PL.p_ext, PL.p_clr, PL.p_sto, PL.p_par, PL.p_asg, PL.p_move, PL.p_aug, PL.p_thenF, PL.p_for, PL.t_nm, PL.t_nil, PL.t_cons, PL.t_tup, PL.sK_nx, PL.sK_rt, PL.sK_rtF, PL.sK_bk, PL.sK_ct, PL.lpK_nx, PL.lpK_ct, PL.lpK_bk, PL.lpK_rt, PL.lpK_rtF, PL.kP_rt, PL.kP_rtF, PL.kP_nx, PL.kF_rtF, PL.w_P, PL.w_F, PL.w_S,
  PL.o_add, PL.o_cat, PL.o_sub, PL.o_mul, PL.o_rep, PL.o_div, PL.o_mod, PL.o_pow, PL.o_neg, PL.o_lt, PL.o_le, PL.o_gt, PL.o_ge, PL.o_eqI, PL.o_eqB, PL.o_eqS, PL.o_inL, PL.o_inT, PL.o_ixL, PL.o_ixT, PL.atI_nat, PL.atI_lit, PL.atI_last, PL.o_lenL, PL.o_lenT, PL.o_abs, PL.o_int, PL.o_intB, PL.o_gcd, PL.o_max, PL.o_min, PL.o_slL, PL.o_slT, PL.enc_fin, PL.enc_lose, PL.enc_rew, PL.enc_draw, PL.q_callS, PL.q_callI, PL.q_fcallI, PL.q_scr, PL.app_map, PL.o_sumN, PL.flat_int, PL.flat_bool, PL.drop_map, PL.take_map, PL.o_sum, PL.o_all, PL.o_any, PL.o_listL, PL.o_listT, PL.o_sorted, PL.o_rev, PL.o_isi, PL.r_b, PL.r_i, PL.r_l, PL.r_t,
  PL.Ok_some, PL.Sh_sh, PL.Ow_ow, PL.Sc_sc, PL.Nd, PL.Br_true, PL.Br_false, PL.Br_dec, PL.Br_not, PL.asB_b, PL.asL_l, PL.asI_i, PL.asT_l,
  ini, PL.lg_nil, PL.lg_cons, PL.rel_zero, PL.rel_succ, PL.fr_sh, PL.fr_no, PL.fr_ow, PL.fr_scr, PL.fr_fv, PL.isOw_fv, PL.isOw_no, PL.isOw_sh, PL.isOw_ow, PL.isOw_scr, wipeS, unw, noOw, List.length_cons, List.length_nil, List.getElem?_cons_zero, List.getElem?_cons_succ, List.set_cons_zero, List.set_cons_succ, List.map_cons, List.map_nil, List.replicate_succ, List.replicate_zero, List.cons_append, List.nil_append, Nat.reduceAdd, Nat.reduceSub, Nat.reduceLeDiff, Nat.reduceEqDiff, Nat.reduceLT, Int.reduceNeg, Bool.false_bne, Bool.true_bne, Bool.not_true, Bool.not_false, reduceIte, true_and, and_true, Nat.zero_add, ne_eq, not_false_eq_true, not_true_eq_false, reduceCtorEq, decide_true, decide_false, Bool.false_eq_true, List.getD_cons_zero, List.getD_cons_succ, List.all_cons, List.all_nil, Bool.and_true, Bool.and_self, PL.str_inj, String.reduceEq, PL.cut_hi, PL.cut_lo, PL.cut_lohi, PL.cut_hiL, PL.cut_loL, PL.cut_lohiL, List.take_succ_cons, List.take_zero, List.drop_succ_cons, List.drop_zero, eq_self, implies_true, PL.n_add, PL.n_addL, PL.n_addR, PL.n_mul, PL.n_mulL, PL.n_mulR, PL.n_mod, PL.n_modR, PL.n_div, PL.n_divR, PL.n_eq, PL.n_eqR, PL.n_lt, PL.n_ltR, PL.n_ltL, PL.n_le, PL.n_leR, PL.n_leL, PL.toNat_lit, PL.rng_len, PL.okR_nat, PL.okR_lit, Int.toNat_natCast, List.length_map, List.length_range, List.length_replicate, Int.reduceAdd, Int.reduceMul, Int.reduceSub, ite_true, ite_false]))
local macro_rules | `(tactic| wrow_close) => `(tactic| (try simp only [PL.cnd_fin, PL.cnd_lose, PL.cnd_never, PL.q_enotT, PL.sd_t, PL.sd_f, PL.w_I, PL.w_IF, PL.kI_rt, PL.kI_rtF, PL.kIF_rtF, PL.stoV_ok, PL.p_sto2, PL.q_aApp, PL.q_lenA, PL.gp_fin, PL.gp_lose, PL.gp_rew, PL.gp_draw, PL.gp_ours, PL.gp_theirs, PL.p_nst1, PL.q_rng2, PL.q_zip, PL.zipD_num, PL.p_pushM, PL.p_setN, PL.q_fshow, PL.q_bshow, PL.w_toF, PL.w_N, PL.kN_nx, PL.frz_zero, PL.frz_succ, PL.fz_fv, PL.fz_ow, PL.fz_nst, PL.fz_sh, PL.fz_no, PL.frzL_nil, PL.frzL_cons, PL.free_nil, PL.free_cons, PL.q_nm, PL.q_c, PL.q_nil, PL.q_cons, PL.q_tup, PL.q_F, PL.q_lst, PL.q_op, PL.q_un, PL.q_call, PL.q_fcall, PL.q_B, PL.q_tru, PL.q_bT, PL.q_and, PL.q_or, PL.q_not, PL.q_eand, PL.q_eor, PL.q_enot, PL.q_if, PL.q_chain, PL.q_ixO, PL.q_sl, PL.q_oNo, PL.q_oSo, PL.q_rev, PL.q_ty, PL.q_mnil, PL.q_mE, PL.q_mN, PL.q_adNil, PL.q_adV, PL.q_adN, PL.q_callM, PL.q_fcallM, PL.q_copy, PL.q_opN, PL.q_rep, PL.q_rgL, PL.q_iLst, PL.q_iTup, PL.q_iScr, PL.q_rng1, PL.q_lc, PL.q_lc2, PL.q_slK, PL.o_sortedN, PL.o_sortedC, PL.o_isN, PL.o_isB, PL.q_indexO, PL.q_enumD, PL.p_nstF, PL.p_push, PL.p_cel, PL.p_retN, PL.Ns_nst, PL.o_index, PL.isOn_fv, PL.isOn_no, PL.isOn_sh, PL.isOn_ow, PL.isOn_scr, PL.isOn_raw, PL.isOn_nst, PL.fr_raw, PL.fr_nst, PL.isOw_raw, PL.isOw_nst,
  PL.p_seq, PL.p_nil, PL.p_bk, PL.p_ct, PL.p_never, PL.p_frz, PL.p_expr, PL.p_ret, PL.p_retF, PL.p_retOw, PL.p_set, PL.p_setF, PL.p_if, PL.p_app, PL.p_ext, PL.p_clr, PL.p_sto, PL.p_par, PL.p_asg, PL.p_move, PL.p_aug, PL.p_thenF, PL.p_for, PL.t_nm, PL.t_nil, PL.t_cons, PL.t_tup, PL.sK_nx, PL.sK_rt, PL.sK_rtF, PL.sK_bk, PL.sK_ct, PL.lpK_nx, PL.lpK_ct, PL.lpK_bk, PL.lpK_rt, PL.lpK_rtF, PL.kP_rt, PL.kP_rtF, PL.kP_nx, PL.kF_rtF, PL.w_P, PL.w_F, PL.w_S,
  PL.o_add, PL.o_cat, PL.o_sub, PL.o_mul, PL.o_rep, PL.o_div, PL.o_mod, PL.o_pow, PL.o_neg, PL.o_lt, PL.o_le, PL.o_gt, PL.o_ge, PL.o_eqI, PL.o_eqB, PL.o_eqS, PL.o_inL, PL.o_inT, PL.o_ixL, PL.o_ixT, PL.atI_nat, PL.atI_lit, PL.atI_last, PL.o_lenL, PL.o_lenT, PL.o_abs, PL.o_int, PL.o_intB, PL.o_gcd, PL.o_max, PL.o_min, PL.o_slL, PL.o_slT, PL.enc_fin, PL.enc_lose, PL.enc_rew, PL.enc_draw, PL.q_callS, PL.q_callI, PL.q_fcallI, PL.q_scr, PL.app_map, PL.o_sumN, PL.flat_int, PL.flat_bool, PL.drop_map, PL.take_map, PL.o_sum, PL.o_all, PL.o_any, PL.o_listL, PL.o_listT, PL.o_sorted, PL.o_rev, PL.o_isi, PL.r_b, PL.r_i, PL.r_l, PL.r_t,
  PL.Ok_some, PL.Sh_sh, PL.Ow_ow, PL.Sc_sc, PL.Nd, PL.Br_true, PL.Br_false, PL.Br_dec, PL.Br_not, PL.asB_b, PL.asL_l, PL.asI_i, PL.asT_l,
  ini, PL.lg_nil, PL.lg_cons, PL.rel_zero, PL.rel_succ, PL.fr_sh, PL.fr_no, PL.fr_ow, PL.fr_scr, PL.fr_fv, PL.isOw_fv, PL.isOw_no, PL.isOw_sh, PL.isOw_ow, PL.isOw_scr, wipeS, unw, noOw, List.length_cons, List.length_nil, List.getElem?_cons_zero, List.getElem?_cons_succ, List.set_cons_zero, List.set_cons_succ, List.map_cons, List.map_nil, List.replicate_succ, List.replicate_zero, List.cons_append, List.nil_append, Nat.reduceAdd, Nat.reduceSub, Nat.reduceLeDiff, Nat.reduceEqDiff, Nat.reduceLT, Int.reduceNeg, Bool.false_bne, Bool.true_bne, Bool.not_true, Bool.not_false, reduceIte, true_and, and_true, Nat.zero_add, ne_eq, not_false_eq_true, not_true_eq_false, reduceCtorEq, decide_true, decide_false, Bool.false_eq_true, List.getD_cons_zero, List.getD_cons_succ, List.all_cons, List.all_nil, Bool.and_true, Bool.and_self, PL.str_inj, String.reduceEq, PL.cut_hi, PL.cut_lo, PL.cut_lohi, PL.cut_hiL, PL.cut_loL, PL.cut_lohiL, List.take_succ_cons, List.take_zero, List.drop_succ_cons, List.drop_zero, eq_self, implies_true, PL.n_add, PL.n_addL, PL.n_addR, PL.n_mul, PL.n_mulL, PL.n_mulR, PL.n_mod, PL.n_modR, PL.n_div, PL.n_divR, PL.n_eq, PL.n_eqR, PL.n_lt, PL.n_ltR, PL.n_ltL, PL.n_le, PL.n_leR, PL.n_leL, PL.toNat_lit, PL.rng_len, PL.okR_nat, PL.okR_lit, Int.toNat_natCast, List.length_map, List.length_range, List.length_replicate, Int.reduceAdd, Int.reduceMul, Int.reduceSub, ite_true, ite_false]))
theorem w_number {n d : Int} {k : Nat} (hd : d ≠ 0) (hn : n.natAbs < 2 ^ k) (hs : d.natAbs < 2 ^ k) (hk : k < 13400) {Q : PD → Prop} (h : Q (num (Rat.divInt n d))) : Ok (f_number [.int n, .int d]) Q := by
  unfold f_number d_number
  close_w
  have ln := log2_le hn
  have ld := log2_le hs
  refine ⟨fun z => ?_, fun z => ?_⟩
  · have g := gcd_log (n := -n) (d := -d) (k := k) (by omega) (by omega)
    have e := lowest (n := -n) (d := -d) (by omega)
    rw [← neg_divInt] at h
    refine ⟨⟨by omega, .inr (by rw [Int.natAbs_neg]; omega)⟩, ⟨by omega, .inr (by rw [Int.natAbs_neg]; omega)⟩, ?_⟩
    rw [← e.1, ← e.2]
    exact h
  · have g := gcd_log (n := n) (d := d) (k := k) (by omega) (by omega)
    have e := lowest (n := n) (d := d) (by omega)
    refine ⟨⟨by omega, .inr (by omega)⟩, ⟨by omega, .inr (by omega)⟩, ?_⟩
    rw [← e.1, ← e.2]
    exact h
theorem pow_up {a b k : Nat} (h : a < 2 ^ b) (hb : b ≤ k) : a < 2 ^ k := Nat.lt_of_lt_of_le h (Nat.pow_le_pow_right (by decide) hb)
theorem neg_nums (q : Rat) : (-q).num = -q.num ∧ (-q).den = q.den := ⟨rfl, rfl⟩
theorem w_plus {p q : Rat} {k m : Nat} (hp : Sz k p) (hq : Sz m q) (hk : k + m < 13398) {Q : PD → Prop} (h : Q (num (p + q))) : Ok (f_plus [num p, num q]) Q := by
  unfold f_plus d_plus num
  close_w
  refine ⟨okMul_of hp.1 (natCast_lt hq.2) (by omega), okMul_of hq.1 (natCast_lt hp.2) (by omega), okMul_of (natCast_lt hp.2) (natCast_lt hq.2) (by omega), ?_⟩
  have h1 := den_pos p
  have h2 := den_pos q
  have h3 : (p.den : Int) * q.den > 0 := Int.mul_pos (by omega) (by omega)
  refine w_number (k := k + m + 1) (by omega) (natAbs_add_lt (natAbs_mul_lt hp.1 (natCast_lt hq.2)) (by rw [Nat.add_comm]; exact natAbs_mul_lt hq.1 (natCast_lt hp.2))) (pow_up (natAbs_mul_lt (natCast_lt hp.2) (natCast_lt hq.2)) (by omega)) (by omega) ?_
  rw [add_divInt]
  exact h
theorem w_minus {p q : Rat} {k m : Nat} (hp : Sz k p) (hq : Sz m q) (hk : k + m < 13398) {Q : PD → Prop} (h : Q (num (p - q))) : Ok (f_minus [num p, num q]) Q := by
  unfold f_minus d_minus num
  close_w
  refine ⟨okMul_of hp.1 (natCast_lt hq.2) (by omega), okMul_of hq.1 (natCast_lt hp.2) (by omega), okMul_of (natCast_lt hp.2) (natCast_lt hq.2) (by omega), ?_⟩
  have h1 := den_pos p
  have h2 := den_pos q
  have h3 : (p.den : Int) * q.den > 0 := Int.mul_pos (by omega) (by omega)
  have e1 : p.num * (q.den : Int) - q.num * (p.den : Int) = p.num * ((-q).den : Int) + (-q).num * (p.den : Int) := by
    rw [(neg_nums q).1, (neg_nums q).2, Int.neg_mul]
    omega
  have e2 : (p.den : Int) * (q.den : Int) = (p.den : Int) * ((-q).den : Int) := by rw [(neg_nums q).2]
  have b2 : (-(q.num * (p.den : Int))).natAbs < 2 ^ (k + m) := by
    rw [Int.natAbs_neg, Nat.add_comm]
    exact natAbs_mul_lt hq.1 (natCast_lt hp.2)
  refine w_number (k := k + m + 1) (by omega) (by rw [Int.sub_eq_add_neg]; exact natAbs_add_lt (natAbs_mul_lt hp.1 (natCast_lt hq.2)) b2) (pow_up (natAbs_mul_lt (natCast_lt hp.2) (natCast_lt hq.2)) (by omega)) (by omega) ?_
  rw [e1, e2, add_divInt]
  rw [show p + -q = p - q by grind]
  exact h
theorem w_times {p q : Rat} {k m : Nat} (hp : Sz k p) (hq : Sz m q) (hk : k + m < 13400) {Q : PD → Prop} (h : Q (num (p * q))) : Ok (f_times [num p, num q]) Q := by
  unfold f_times d_times num
  close_w
  refine ⟨okMul_of hp.1 hq.1 (by omega), okMul_of (natCast_lt hp.2) (natCast_lt hq.2) (by omega), ?_⟩
  have h1 := den_pos p
  have h2 := den_pos q
  have h3 : (p.den : Int) * q.den > 0 := Int.mul_pos (by omega) (by omega)
  refine w_number (k := k + m) (by omega) (natAbs_mul_lt hp.1 hq.1) (natAbs_mul_lt (natCast_lt hp.2) (natCast_lt hq.2)) (by omega) ?_
  rw [mul_divInt]
  exact h
theorem div_divInt (p q : Rat) (hq : q ≠ 0) : Rat.divInt (p.num * (q.den : Int)) ((p.den : Int) * q.num) = p / q := by
  have hn : (q.num : Rat) ≠ 0 := int_ne (fun z => hq (Rat.num_eq_zero.mp z))
  have hd : ((p.den : Int) : Rat) ≠ 0 := int_ne (by have := p.den_nz; omega)
  have hd2 : ((q.den : Int) : Rat) ≠ 0 := int_ne (by have := q.den_nz; omega)
  have e1 := num_eq p
  have e2 := num_eq q
  rw [Rat.divInt_eq_div, Rat.intCast_mul, Rat.intCast_mul, e1]
  rw [e2] at hn ⊢
  grind
theorem w_divided {p q : Rat} {k m : Nat} (hp : Sz k p) (hq : Sz m q) (h0 : q ≠ 0) (hk : k + m < 13400) {Q : PD → Prop} (h : Q (num (p / q))) : Ok (f_divided [num p, num q]) Q := by
  unfold f_divided d_divided num
  close_w
  refine ⟨okMul_of hp.1 (natCast_lt hq.2) (by omega), okMul_of (natCast_lt hp.2) hq.1 (by omega), ?_⟩
  have h1 := den_pos p
  have hn : q.num ≠ 0 := fun z => h0 (Rat.num_eq_zero.mp z)
  refine w_number (k := k + m) (Int.mul_ne_zero (by omega) hn) (natAbs_mul_lt hp.1 (natCast_lt hq.2)) (natAbs_mul_lt (natCast_lt hp.2) hq.1) (by omega) ?_
  rw [div_divInt p q h0]
  exact h
def encLn (l : Ln) : PD := .tuple [.list (l.f.map num), num l.b, .list (l.m.map num)]
theorem all_f {l : Ln} {q : Rat} (h : q ∈ l.f) : q ∈ l.all := List.mem_append_left _ h
theorem all_b {l : Ln} : l.b ∈ l.all := List.mem_append_right _ List.mem_cons_self
theorem all_m {l : Ln} {q : Rat} (h : q ∈ l.m) : q ∈ l.all := List.mem_append_right _ (List.mem_cons_of_mem _ h)
theorem w_scaled {l : Ln} {c : Rat} {k m : Nat} (hf : l.f.length ≤ 1000) (hm : l.m.length ≤ 1000) (hl : ∀ q ∈ l.all, Sz k q) (hc : Sz m c) (hk : m + k < 13400) {Q : PD → Prop} (h : Q (encLn (l.scale c))) : Ok (f_scaled [encLn l, num c]) Q := by
  unfold f_scaled d_scaled encLn
  close_w
  refine ⟨by omega, ?_⟩
  refine ok_comp1 (fun q => num (c * q)) (fun q hq => ?_) ?_
  · close_w
    refine w_times hc (hl q (all_f hq)) hk ?_
    close_w
  close_w
  refine w_times hc (hl _ all_b) hk ?_
  close_w
  refine ⟨by omega, ?_⟩
  refine ok_comp1 (fun q => num (c * q)) (fun q hq => ?_) ?_
  · close_w
    refine w_times hc (hl q (all_m hq)) hk ?_
    close_w
  close_w
  have e : encLn (l.scale c) = PyData.tuple [PyData.list (l.f.map fun q => num (c * q)), num (c * l.b), PyData.list (l.m.map fun q => num (c * q))] := by
    unfold encLn Ln.scale
    rw [List.map_map, List.map_map]
    rfl
  rw [e] at h
  exact h
theorem zip_less {c : Rat} : ∀ (a b : List Rat), (List.zip a (b.map (c * ·))).map (fun p => num (p.1 - p.2)) = (List.zipWith (fun x y => x - c * y) a b).map num
  | [], _ => rfl
  | _ :: _, [] => rfl
  | x :: a, y :: b => by
    show num (x - c * y) :: _ = num (x - c * y) :: _
    rw [← zip_less (c := c) a b]
    rfl
theorem w_without {l o : Ln} {j : Nat} {k : Nat} (hj : j < l.f.length) (hf : l.f.length ≤ 1000) (hm : l.m.length ≤ 1000) (ho : o.f.length ≤ 1000) (ho2 : o.m.length ≤ 1000) (hl : ∀ q ∈ l.all, Sz k q) (hs : ∀ q ∈ o.all, Sz k q) (hk : 3 * k < 13398) {Q : PD → Prop} (h : Q (encLn (l.out j o))) : Ok (f_without [encLn l, .int (j : Int), encLn o]) Q := by
  have hc : l.f.getD j 0 ∈ l.f := by rw [List.getD_eq_getElem?_getD, List.getElem?_eq_getElem hj]; exact List.getElem_mem hj
  have ec : (l.f.map num)[j]? = some (num (l.f.getD j 0)) := by rw [List.getElem?_map, List.getElem?_eq_getElem hj, List.getD_eq_getElem?_getD, List.getElem?_eq_getElem hj]; rfl
  have e0 : PyData.tuple [.int 0, .int 1] = num 0 := rfl
  unfold f_without d_without
  rw [show encLn l = .tuple [.list (l.f.map num), num l.b, .list (l.m.map num)] from rfl]
  wrow_close
  rw [ec, e0]
  wrow_close
  refine (o_eqNum (n := false)).mpr ?_
  wrow_close
  refine ⟨fun z => ?_, fun z => ?_⟩
  · unfold Ln.out at h
    rw [if_pos z] at h
    exact h
  · rw [ec]
    wrow_close
    refine w_scaled ho ho2 hs (hl _ (all_f hc)) (by omega) ?_
    have cs := hl _ (all_f hc)
    unfold Ln.out at h
    rw [if_neg z] at h
    generalize l.f.getD j 0 = c at hc cs h
    rw [show encLn (o.scale c) = .tuple [.list (((o.f.map (c * ·))).map num), num (c * o.b), .list ((o.m.map (c * ·)).map num)] from rfl]
    have key : ∀ {a b : List Rat} {p : Rat × Rat}, (∀ q ∈ a, q ∈ l.all) → (∀ q ∈ b, q ∈ o.all) → p ∈ List.zip a (b.map (c * ·)) → Sz k p.1 ∧ Sz (k + k) p.2 := fun ha hb hp => by
      obtain ⟨h1, h2⟩ := List.of_mem_zip (a := _) (b := _) hp
      obtain ⟨q, hq, e⟩ := List.mem_map.mp h2
      exact ⟨hl _ (ha _ h1), by rw [← e]; exact mul_sz cs (hs _ (hb _ hq))⟩
    wrow_close
    have zl : ∀ a b : List Rat, (List.zip a b).length ≤ a.length := fun a b => by rw [List.length_zip]; exact Nat.min_le_left _ _
    refine ⟨by have := zl l.f (o.f.map (c * ·)); omega, ?_⟩
    refine ok_comp1 (fun p => num (p.1 - p.2)) (fun p hp => ?_) ?_
    · obtain ⟨k1, k2⟩ := key (fun q hq => all_f hq) (fun q hq => all_f hq) hp
      unfold encP
      wrow_close
      refine w_minus k1 k2 (by omega) ?_
      wrow_close
    rw [zip_less]
    wrow_close
    refine ⟨by have := zl l.m (o.m.map (c * ·)); omega, ?_⟩
    refine ok_comp1 (fun p => num (p.1 - p.2)) (fun p hp => ?_) ?_
    · obtain ⟨k1, k2⟩ := key (fun q hq => all_m hq) (fun q hq => all_m hq) hp
      unfold encP
      wrow_close
      refine w_minus k1 k2 (by omega) ?_
      wrow_close
    rw [zip_less]
    wrow_close
    refine w_minus (hl _ all_b) (mul_sz cs (hs _ all_b)) (by omega) ?_
    wrow_close
    exact h
theorem w_targets {g : List GP} {p : Nat} (hp : p < g.length) (hx : (gAt g p).tg.length ≤ 1000) {Q : List PD → Prop} (h : Q (encK (gAt g p).tg)) : Ok (f_targets [encG g, .int (p : Int)]) Q := by
  unfold f_targets d_targets
  have e := g_at hp
  generalize gAt g p = x at e h hx
  cases x with
  | fin => wrow_close; (repeat (simp only [e]; wrow_close)); exact h
  | lose => wrow_close; (repeat (simp only [e]; wrow_close)); exact h
  | rew r t => wrow_close; (repeat (simp only [e]; wrow_close)); exact h
  | own s ts => cases s <;> (wrow_close; (repeat (simp only [e]; wrow_close)); exact h)
  | draw bs =>
    have hx : bs.length ≤ 1000 := by simpa [GP.tg] using hx
    wrow_close
    (repeat (simp only [e]; wrow_close))
    refine ⟨by omega, ?_⟩
    refine ok_comp1 (fun b => PyData.int (b.2 : Int)) (fun b hb => ?_) ?_
    · unfold encB
      wrow_close
    · wrow_close
      have e2 : bs.map (fun b => PyData.int (b.2 : Int)) = encK (GP.draw bs).tg := by simp [encK, GP.tg]
      rw [e2]
      exact h
theorem w_targetsC {c : List Plc} {p : Nat} (hp : p < c.length) (hx : (cAt c p).br.length ≤ 1000) : f_targets [encC c, .int (p : Int)] = some (encK (ctg c p)) := by
  have e : gAt (c.map GP.of) p = GP.of (cAt c p) := by
    unfold gAt cAt
    rw [List.getD_eq_getElem?_getD, List.getD_eq_getElem?_getD, List.getElem?_map, List.getElem?_eq_getElem hp]
    rfl
  have := w_targets (g := c.map GP.of) (p := p) (by rwa [List.length_map]) (by rw [e, of_tg, List.length_map]; exact hx) (Q := (· = encK (ctg c p))) (by rw [e, of_tg]; rfl)
  rw [encG_of] at this
  exact this.eq
def inLn (n j : Nat) (r : List Rat × Rat) : Ln := ⟨r.1, r.2, (List.range n).map fun k => if k = j then 1 else 0⟩
def encRow2 (r : List Rat × Rat) : PD := .tuple [.list (r.1.map num), num r.2]
def encSv (p : Nat × Ln) : PD := .tuple [.int (p.1 : Int), encLn p.2]
def inLns (rows : List (List Rat × Rat)) : List Ln := rows.mapIdx fun j r => inLn rows.length j r
theorem inv_sz {p : Rat} {k : Nat} (h : Sz k p) (h0 : p ≠ 0) : Sz k (1 / p) := by
  rw [← div_divInt 1 p h0]
  have e1 : (1 : Rat).num * (p.den : Int) = (p.den : Int) := Int.one_mul _
  have e2 : ((1 : Rat).den : Int) * p.num = p.num := Int.one_mul _
  rw [e1, e2]
  exact divInt_sz (fun z => h0 (Rat.num_eq_zero.mp z)) (natCast_lt h.2) h.1
theorem Ln.out_mlen {j : Nat} {o l : Ln} (hl : l.m.length = o.m.length) : (l.out j o).m.length = l.m.length := by
  unfold Ln.out
  split
  · rfl
  · unfold Ln.sub
    simp [hl]
theorem inLns_len {rows : List (List Rat × Rat)} : (inLns rows).length = rows.length := by unfold inLns; simp
theorem zip_snoc {sv : List Ln} {c : Nat} {o : Ln} {f : Ln → Ln} (h : sv.length = c) : (List.zip (List.range (c + 1)) (sv.map f ++ [o])).map encSv = (List.zip (List.range c) sv).map (fun p => encSv (p.1, f p.2)) ++ [encSv (c, o)] := by
  rw [List.range_succ, List.zip_append (by simp [h]), List.map_append, List.zip_map_right, List.map_map]
  rfl
theorem w_reduced {n k X0 : Nat} {rows : List (List Rat × Rat)} {Q : PD → Prop} (hn : rows.length = n) (hr : n ≤ 990) (hf : ∀ r ∈ rows, r.1.length = n) (t : Tight n (inLns rows)) (h0 : 1 ≤ X0) (hX : ∀ c, c < n → XX X0 c < 2 ^ k) (hk : 3 * k < 13398) (hk1 : 1 ≤ k) (hs : Szs X0 (inLns rows))
    (h : ∀ sv : List Ln, sv.length = n → Szs (XX X0 n) sv → (∀ x, (∀ l ∈ inLns rows, l.at x 1) ↔ ∀ j, j < n → x j = (sv.getD j ⟨[], 0, []⟩).b) → Q (.tuple [.list ((List.zip (List.range n) sv).map encSv), .list []])) : Ok (f_reduced [.int (n : Int), .list (rows.map encRow2)]) Q := by
  unfold f_reduced d_reduced
  wrow_close
  refine ok_forE (fun i S => ∃ x y z : Option PD, S = [.sh (.int (n : Int)), .sh (.list (rows.map encRow2)), .ow (((inLns rows).take i).map encLn), fv x, fv y, fv z, .no, .no, .no, .no, .no, .no]) ⟨none, none, none, rfl⟩ (fun i hi S hS => ?_) (fun S hS => ?_)
  · obtain ⟨x, y, z, rfl⟩ := hS
    have hi' : i < rows.length := by simpa using hi
    have eg : (List.map encRow2 rows)[i] = .tuple [.list (rows[i].1.map num), num rows[i].2] := by rw [List.getElem_map]; rfl
    wrow_close
    rw [eg]
    wrow_close
    refine ⟨by omega, by omega, ?_⟩
    refine ok_comp1R (fun k => num (if k = i then 1 else 0)) (fun k hk => ?_) ?_
    · wrow_close
      by_cases hki : k = i
      · subst hki
        refine ⟨fun _ => ?_, fun z => absurd rfl z⟩
        wrow_close
        rfl
      · refine ⟨fun z => absurd z hki, fun _ => ?_⟩
        wrow_close
        rw [if_neg hki]
        rfl
    · wrow_close
      have li : (inLns rows).length = rows.length := by unfold inLns; simp
      refine ⟨by rw [List.length_take]; omega, some (.int (i : Int)), some (.list (rows[i].1.map num)), some (num rows[i].2), ?_⟩
      have el : (inLns rows)[i]? = some (inLn rows.length i rows[i]) := by unfold inLns; rw [List.getElem?_mapIdx, List.getElem?_eq_getElem hi']; rfl
      rw [List.take_add_one, el, List.map_append]
      have ee : encLn (inLn rows.length i rows[i]) = .tuple [.list (rows[i].1.map num), num rows[i].2, .list ((List.range rows.length).map fun k => num (if k = i then 1 else 0))] := by
        unfold encLn inLn
        rw [List.map_map]
        rfl
      show _ = [_, _, Sl.ow (_ ++ [encLn (inLn rows.length i rows[i])]), _, _, _, _, _, _, _, _, _]
      rw [ee]
      rfl
  · obtain ⟨x, y, z, rfl⟩ := hS
    wrow_close
    refine ⟨by omega, ?_⟩
    rw [List.take_of_length_le (by unfold inLns; simp)]
    refine ok_forR (fun c S => ∃ (x y z u v : Option PD) (sv wt : List Ln), S = [.sh (.int (n : Int)), .sh (.list (rows.map encRow2)), .sh (.list (wt.map encLn)), fv x, fv y, fv z, .sh (.list ((List.zip (List.range c) sv).map encSv)), fv u, fv v, .no, .no, .no] ∧ GJ n (inLns rows) c sv wt ∧ Szs (XX X0 c) (sv ++ wt) ∧ ∀ l ∈ sv ++ wt, l.m.length = n) ?_ (fun c hc S hS => ?_) (fun S hS => ?_)
    · exact ⟨x, y, z, none, none, [], inLns rows, rfl, GJ.start fun l hl => by
        unfold inLns at hl
        obtain ⟨j, hj, e⟩ := List.mem_mapIdx.mp hl
        rw [← e]
        exact hf _ (List.getElem_mem hj), by rw [List.nil_append]; exact hs, fun l hl => by
        unfold inLns at hl
        obtain ⟨j, hj, e⟩ := List.mem_mapIdx.mp hl
        rw [← e]
        show ((List.range rows.length).map _).length = n
        rw [List.length_map, List.length_range, hn]⟩
    · obtain ⟨x, y, z, u, v, sv, wt, rfl, g, sz, ml⟩ := hS
      have X1 : 1 ≤ XX X0 c := (XX_mono h0 (Nat.le_refl c)).2
      have lw : wt.length ≤ n := by have := g.cnt; rw [inLns_len] at this; omega
      have lin : ∀ l ∈ sv ++ wt, l.f.length = n := g.len
      have lm : ∀ l ∈ sv ++ wt, l.m.length ≤ 1000 := fun l hl => by rw [ml l hl]; omega
      have szk : ∀ l ∈ sv ++ wt, ∀ q ∈ l.all, Sz k q := fun l hl q hq => (sz l hl).sz (hX c hc) hq
      wrow_close
      refine ⟨by rw [enumD_length, List.length_map]; omega, ?_⟩
      refine ok_compE (fun k => decide ((wt.getD k ⟨[], 0, []⟩).f.getD c 0 ≠ 0)) (fun k => .int (k : Int)) (fun i hi => ?_) ?_
      · have hi' : i < wt.length := by simpa using hi
        have eg : (wt.map encLn)[i] = .tuple [.list (wt[i].f.map num), num wt[i].b, .list (wt[i].m.map num)] := by rw [List.getElem_map]; rfl
        wrow_close
        rw [eg, show (PyData.tuple [.int 0, .int 1]) = num 0 from rfl]
        have hc2 : c < wt[i].f.length := by rw [lin _ (List.mem_append_right _ (List.getElem_mem hi'))]; exact hc
        have ec : (wt[i].f.map num)[c]? = some (num (wt[i].f.getD c 0)) := by rw [List.getElem?_map, List.getElem?_eq_getElem hc2, List.getD_eq_getElem?_getD, List.getElem?_eq_getElem hc2]; rfl
        have ed : wt.getD i ⟨[], 0, []⟩ = wt[i] := by rw [List.getD_eq_getElem?_getD, List.getElem?_eq_getElem hi']; rfl
        wrow_close
        rw [ec]
        wrow_close
        refine (o_eqNum (n := true)).mpr ?_
        wrow_close
        rw [ed, decide_not]
      wrow_close
      generalize ehv : List.filter (fun k => decide ¬(wt.getD k ⟨[], 0, []⟩).f.getD c 0 = 0) (List.range wt.length) = hv
      cases hv with
      | nil =>
        exfalso
        obtain ⟨l, hl, ne⟩ := g.pivot t hc
        obtain ⟨i, hi, e⟩ := List.mem_iff_getElem.mp hl
        have : i ∈ List.filter (fun k => decide ¬(wt.getD k ⟨[], 0, []⟩).f.getD c 0 = 0) (List.range wt.length) := by
          have eg : wt.getD i ⟨[], 0, []⟩ = l := by rw [List.getD_eq_getElem?_getD, List.getElem?_eq_getElem hi, ← e]; rfl
          rw [List.mem_filter, eg]
          exact ⟨List.mem_range.mpr hi, decide_eq_true ne⟩
        rw [ehv] at this
        cases this
      | cons i0 tl =>
        have hm : i0 ∈ List.filter (fun k => decide ¬(wt.getD k ⟨[], 0, []⟩).f.getD c 0 = 0) (List.range wt.length) := by rw [ehv]; exact List.mem_cons_self
        obtain ⟨hi, ne⟩ := List.mem_filter.mp hm
        have hi : i0 < wt.length := List.mem_range.mp hi
        have ed : wt.getD i0 ⟨[], 0, []⟩ = wt[i0] := by rw [List.getD_eq_getElem?_getD, List.getElem?_eq_getElem hi]; rfl
        rw [decide_eq_true_eq, ed] at ne
        have hlm : wt[i0] ∈ sv ++ wt := List.mem_append_right _ (List.getElem_mem hi)
        have ew : (wt.map encLn)[i0]? = some (encLn wt[i0]) := by rw [List.getElem?_map, List.getElem?_eq_getElem hi]; rfl
        have eo : ∀ x, x ∈ wt ↔ x = wt[i0] ∨ x ∈ wt.take i0 ++ wt.drop (i0 + 1) := fun x => by
          conv => lhs; rw [← List.take_append_drop i0 wt, List.drop_eq_getElem_cons hi]
          simp only [List.mem_append, List.mem_cons]
          constructor
          · rintro (h | h | h)
            · exact .inr (.inl h)
            · exact .inl h
            · exact .inr (.inr h)
          · rintro (h | h | h)
            · exact .inr (.inl h)
            · exact .inl h
            · exact .inr (.inr h)
        have el : (wt.take i0 ++ wt.drop (i0 + 1)).length + 1 = wt.length := by
          rw [List.length_append, List.length_take, List.length_drop]
          omega
        have gs := g.step hc ne eo el
        generalize wt[i0] = l at ne hlm ew eo gs
        have hc2 : c < l.f.length := by rw [lin _ hlm]; exact hc
        have ec : (l.f.map num)[c]? = some (num (l.f.getD c 0)) := by rw [List.getElem?_map, List.getElem?_eq_getElem hc2, List.getD_eq_getElem?_getD, List.getElem?_eq_getElem hc2]; rfl
        have hcm : l.f.getD c 0 ∈ l.all := all_f (by rw [List.getD_eq_getElem?_getD, List.getElem?_eq_getElem hc2]; exact List.getElem_mem hc2)
        rw [List.map_cons, List.isEmpty_cons]
        wrow_close
        rw [ew, show encLn l = .tuple [.list (l.f.map num), num l.b, .list (l.m.map num)] from rfl, show (PyData.tuple [.int 1, .int 1]) = num 1 from rfl]
        wrow_close
        rw [ec]
        wrow_close
        have os := scale_sz (sz l hlm) hc2 ne
        refine w_divided sz_one (szk l hlm _ hcm) ne (by omega) ?_
        wrow_close
        refine w_scaled (by rw [lin l hlm]; omega) (lm l hlm) (szk l hlm) (inv_sz (szk l hlm _ hcm) ne) (by omega) ?_
        generalize eoo : l.scale (1 / l.f.getD c 0) = o at os gs
        have hof : o.f.length = n := by rw [← eoo]; show (l.f.map _).length = n; rw [List.length_map]; exact lin l hlm
        have hom : o.m.length ≤ 1000 := by rw [← eoo]; show (l.m.map _).length ≤ 1000; rw [List.length_map]; exact lm l hlm
        have osk : ∀ q ∈ o.all, Sz k q := fun q hq => os.sz (hX c hc) hq
        wrow_close
        have homn : o.m.length = n := by rw [← eoo]; show (l.m.map _).length = n; rw [List.length_map]; exact ml l hlm
        have out1 : ∀ x ∈ sv ++ wt, Rw (XX X0 (c + 1)) (x.out c o).all := fun x hx => out_sz (sz x hx) os X1 (by rw [lin x hx]; exact hc)
        have sub : ∀ x ∈ wt.take i0 ++ wt.drop (i0 + 1), x ∈ sv ++ wt := fun x hx => List.mem_append_right _ ((eo x).mpr (.inr hx))
        refine ⟨by rw [List.length_append] at el; omega, ?_⟩
        wrow_close
        refine ⟨by omega, ?_⟩
        refine ok_comp1 (fun x => encLn (x.out c o)) (fun x hx => ?_) ?_
        · have hx := sub x hx
          wrow_close
          refine w_without (by rw [lin x hx]; exact hc) (by rw [lin x hx]; omega) (lm x hx) (by omega) hom (szk x hx) osk hk ?_
          wrow_close
        wrow_close
        rw [List.length_zip, List.length_range, g.piv, Nat.min_self]
        refine ⟨by omega, ?_⟩
        refine ok_comp1 (fun p => encSv (p.1, p.2.out c o)) (fun p hp => ?_) ?_
        · have hx : p.2 ∈ sv ++ wt := List.mem_append_left _ (List.of_mem_zip (show (p.1, p.2) ∈ _ from hp)).2
          unfold encSv
          wrow_close
          refine w_without (by rw [lin _ hx]; exact hc) (by rw [lin _ hx]; omega) (lm _ hx) (by omega) hom (szk _ hx) osk hk ?_
          wrow_close
        wrow_close
        refine ⟨by rw [List.length_zip, List.length_range, g.piv, Nat.min_self]; omega, some (.int (c : Int)), y, z, some (.list (PyData.int (i0 : Int) :: tl.map fun (k : Nat) => PyData.int (k : Int))), some (encLn o), _, _, ?_, gs, ?_, ?_⟩
        · rw [zip_snoc g.piv, List.map_map]
          rfl
        · intro x hx
          rw [List.mem_append, List.mem_append] at hx
          rcases hx with (hx | hx) | hx
          · obtain ⟨w, hw, rfl⟩ := List.mem_map.mp hx
            exact out1 w (List.mem_append_left _ hw)
          · rw [List.mem_singleton.mp hx]
            exact os.mono (XX_mono h0 (by omega)).1
          · obtain ⟨w, hw, rfl⟩ := List.mem_map.mp hx
            exact out1 w (sub w hw)
        · intro x hx
          rw [List.mem_append, List.mem_append] at hx
          rcases hx with (hx | hx) | hx
          · obtain ⟨w, hw, rfl⟩ := List.mem_map.mp hx
            have := ml w (List.mem_append_left _ hw)
            rw [Ln.out_mlen (by omega), this]
          · rw [List.mem_singleton.mp hx, homn]
          · obtain ⟨w, hw, rfl⟩ := List.mem_map.mp hx
            have := ml w (sub w hw)
            rw [Ln.out_mlen (by omega), this]
    · obtain ⟨x, y, z, u, v, sv, wt, rfl, g, sz, ml⟩ := hS
      wrow_close
      obtain ⟨hw, hx⟩ := g.done (by rw [inLns_len]; exact hn)
      subst hw
      rw [List.append_nil] at sz
      exact h sv g.piv sz hx
/-- the lists of what is reached -/
structure Ways (c : List Plc) (W : List (List Nat)) : Prop where
  len : W.length = c.length
  asc : ∀ p, p < c.length → (W.getD p []).Pairwise (· < ·)
  mem : ∀ p, p < c.length → ∀ q, q ∈ W.getD p [] ↔ Rch (ctg c) p q
theorem w_all_reached {c : List Plc} (hn : c.length ≤ 59) (hb : ∀ p, p < c.length → (cAt c p).br.length ≤ 1000) (lt : ∀ p, p < c.length → ∀ t ∈ ctg c p, t < c.length) {Q : List PD → Prop} (h : ∀ W, Ways c W → Q (W.map nats)) : Ok (f_all_reached [encC c]) Q := by
  unfold f_all_reached d_all_reached
  wrow_close
  refine ⟨by omega, by omega, ?_⟩
  refine ok_compX (enc := nats) (fun p r => r.Pairwise (· < ·) ∧ ∀ q, q ∈ r ↔ Rch (ctg c) p q) (fun i hi => ?_) fun W hl hW => ?_
  · wrow_close
    refine w_reach (n := c.length) hn (fun p hp => w_targetsC hp (hb p hp)) lt hi fun r h1 h2 => ?_
    wrow_close
    exact ⟨r, rfl, h1, h2⟩
  · wrow_close
    refine h W ⟨hl, fun p hp => ?_, fun p hp => ?_⟩
    · have hp : p < W.length := by omega
      rw [getD_of hp]
      exact (hW p _ (List.getElem?_eq_getElem hp)).1
    · have hp : p < W.length := by omega
      rw [getD_of hp]
      exact (hW p _ (List.getElem?_eq_getElem hp)).2
theorem Ways.at {c : List Plc} {W : List (List Nat)} (w : Ways c W) {p : Nat} (hp : p < c.length) : (W.map nats)[p]? = some (nats (W.getD p [])) := by
  have hp : p < W.length := by rw [w.len]; exact hp
  rw [List.getElem?_map, List.getElem?_eq_getElem hp, getD_of hp]
  rfl
theorem Ways.lt {c : List Plc} {W : List (List Nat)} (w : Ways c W) (lt : ∀ p, p < c.length → ∀ t ∈ ctg c p, t < c.length) {p : Nat} (hp : p < c.length) : ∀ q ∈ W.getD p [], q < c.length := fun q hq => ((w.mem p hp q).mp hq).lt lt hp
theorem Ways.wl {c : List Plc} {W : List (List Nat)} (w : Ways c W) (lt : ∀ p, p < c.length → ∀ t ∈ ctg c p, t < c.length) {p : Nat} (hp : p < c.length) : (W.getD p []).length ≤ c.length :=
  nodup_lt ((w.asc p hp).imp fun {a b} h => by omega) (w.lt lt hp)
theorem o_lst {xs : List PD} {K : PD → Prop} : Ok (some (PyData.list xs)) K ↔ K (.list xs) := Ok_some
theorem w_solution_of {n : Nat} {sv : List Ln} (hs : sv.length = n) (hn : n ≤ 1000) {Q : List PD → Prop} (h : Q ((sv.map (·.b)).map num)) : Ok (f_solution_of [.int (n : Int), .list ((List.zip (List.range n) sv).map encSv)]) Q := by
  unfold f_solution_of d_solution_of
  wrow_close
  refine ⟨by omega, by omega, ?_⟩
  refine ok_comp1R (fun _ => num 0) (fun k hk => ?_) ?_
  · wrow_close
    rfl
  wrow_close
  have zl : (List.zip (List.range n) sv).length = n := by rw [List.length_zip, List.length_range, hs, Nat.min_self]
  refine ok_for (enc := encSv) (l := List.zip (List.range n) sv) (fun i S => ∃ x y : Option PD, S = [.sh (.int (n : Int)), .sh (.list ((List.zip (List.range n) sv).map encSv)), .ow ((((sv.take i).map (·.b)).map num) ++ List.replicate (n - i) (num 0)), fv x, fv y]) ⟨none, none, ?_⟩ (fun i hi S hS => ?_) (fun S hS => ?_)
  · rw [List.take_zero, Nat.sub_zero]
    show _ = [_, _, Sl.ow ([] ++ _), _, _]
    rw [List.nil_append, List.map_const', List.length_range]
    rfl
  · obtain ⟨x, y, rfl⟩ := hS
    have hi : i < n := by rwa [zl] at hi
    have ez : (List.zip (List.range n) sv)[i]'(by rw [zl]; exact hi) = (i, sv[i]'(by omega)) := by
      rw [List.getElem_zip, List.getElem_range]
    rw [ez]
    have e0 : ∀ l : Ln, encSv (i, l) = .tuple [.int (i : Int), .tuple [.list (l.f.map num), num l.b, .list (l.m.map num)]] := fun l => rfl
    rw [e0]
    wrow_close
    have ll : ((((sv.take i).map (·.b)).map num) ++ List.replicate (n - i) (num 0)).length = n := by
      rw [List.length_append, List.length_map, List.length_map, List.length_take, List.length_replicate]
      omega
    rw [ll]
    refine Ok_of (ixN_nat hi) ?_
    refine ⟨some (.int (i : Int)), some (encLn (sv[i]'(by omega))), ?_⟩
    have tl : ((((sv.take i).map (·.b)).map num)).length = i := by
      rw [List.length_map, List.length_map, List.length_take]
      omega
    have er : List.replicate (n - i) (num 0) = num 0 :: List.replicate (n - (i + 1)) (num 0) := by
      rw [← List.replicate_succ]
      congr 1
      omega
    have eb : sv[i]? = some (sv[i]'(by omega)) := List.getElem?_eq_getElem (by omega)
    have : ((((sv.take i).map (·.b)).map num) ++ List.replicate (n - i) (num 0)).set i (num (sv[i]'(by omega)).b) = (((sv.take (i + 1)).map (·.b)).map num) ++ List.replicate (n - (i + 1)) (num 0) := by
      rw [er, List.set_append_right _ _ (by omega), tl, Nat.sub_self, List.set_cons_zero, List.take_add_one, eb, List.map_append, List.map_append, List.append_assoc]
      rfl
    rw [this]
    rfl
  · obtain ⟨x, y, rfl⟩ := hS
    wrow_close
    rw [zl, Nat.sub_self, List.replicate_zero, List.append_nil, List.take_of_length_le (by omega)]
    exact h
theorem flatL_num : ∀ ys : List Rat, flatL (ys.map num) = true
  | [] => rfl
  | y :: ys => by
    show (flat (num y) && flatL (ys.map num)) = true
    rw [flatL_num ys]
    rfl
theorem w_only_solution {n k m X0 : Nat} {rows : List (List Rat × Rat)} {Q : List PD → Prop} (hn : rows.length = n) (hm : XX X0 n < 2 ^ m) (hr : n ≤ 990) (hf : ∀ r ∈ rows, r.1.length = n) (t : Tight n (inLns rows)) (h0 : 1 ≤ X0) (hX : ∀ c, c < n → XX X0 c < 2 ^ k) (hk : 3 * k < 13398) (hk1 : 1 ≤ k) (hs : Szs X0 (inLns rows))
    (h : ∀ ys : List Rat, ys.length = n → (∀ y ∈ ys, Sz m y) → (∀ x, (∀ l ∈ inLns rows, l.at x 1) ↔ ∀ j, j < n → x j = ys.getD j 0) → Q (ys.map num)) : Ok (f_only_solution [.int (n : Int), .list (rows.map encRow2)]) Q := by
  unfold f_only_solution d_only_solution
  wrow_close
  refine w_reduced hn hr hf t h0 hX hk hk1 hs fun sv h1 h2 h3 => ?_
  have zl : (List.zip (List.range n) sv).length = n := by rw [List.length_zip, List.length_range, h1, Nat.min_self]
  wrow_close
  rw [zl]
  refine ⟨fun z => absurd z (Nat.lt_irrefl n), fun _ => ?_⟩
  wrow_close
  refine ok_comp1 (enc := fun x : PD => x) (l := ([] : List PD)) (fun _ => .bool false) (fun x hx => by cases hx) ?_
  wrow_close
  refine Ok_of (show gAny [.list []] = some (.bool false) from rfl) ?_
  wrow_close
  refine w_solution_of h1 (by omega) ?_
  wrow_close
  refine h _ (by rw [List.length_map]; exact h1) (fun y hy => ?_) fun x => ?_
  · obtain ⟨l, hl, rfl⟩ := List.mem_map.mp hy
    exact (h2 l hl).sz hm all_b
  · rw [h3 x]
    refine forall_congr' fun j => forall_congr' fun hj => ?_
    have e : (sv.map (·.b)).getD j 0 = (sv.getD j ⟨[], 0, []⟩).b := by
      rw [getD_of (by rw [List.length_map, h1]; exact hj), getD_of (by rw [h1]; exact hj), List.getElem_map]
    rw [e]
theorem w_branches {c : List Plc} {p : Nat} {x : Plc} (hp : c[p]? = some x) {Q : List PD → Prop} (h : Q (x.br.map encB)) : Ok (f_branches [encC c, .int (p : Int)]) Q := by
  unfold f_branches d_branches
  have e : (c.map Plc.enc)[p]? = some x.enc := by rw [List.getElem?_map, hp]; rfl
  cases x <;> (close_w; (repeat (simp only [e]; close_w)); exact h)
theorem w__law_number {n d : Int} {k : Nat} (hd : d ≠ 0) (hn : n.natAbs < 2 ^ k) (hs : d.natAbs < 2 ^ k) (hk : k < 13400) {Q : PD → Prop} (h : Q (num (Rat.divInt n d))) : Ok (f__law_number [.int n, .int d]) Q := by
  unfold f__law_number d__law_number
  have go : ∀ (n d : Int) (Sx Sy : Option PD), 0 < d → n.natAbs < 2 ^ k → d.natAbs < 2 ^ k → Q (num (Rat.divInt n d)) →
      Ok (sWhile (eB (eOp gNe (eNm 3) (eC (.int 0))))
  (sPar 2 3 (aCons (eNm 3) (aCons (eOp gMod (eCall gInt (aCons (eNm 2) (aNil))) (eNm 3)) (aNil)))) [.sh (.int n), .sh (.int d), .sh (.int (n.natAbs : Int)), .sh (.int d)]) (sK (sRet (eTup (aCons (eOp gDiv (eNm 0) (eNm 2)) (aCons (eOp gDiv (eNm 1) (eNm 2)) (aNil))))) (kP Q)) := fun n d Sx Sy hd hn hs h => by
    have ln := log2_le hn
    have ld := log2_le hs
    have g := gcd_log (n := n) (d := d) (k := k) hd hs
    have e := lowest (n := n) (d := d) hd
    have sm : 2 * k + 2 < most := by
      unfold most
      have : (26802 : Nat) < 2 ^ 200 := by decide +kernel
      omega
    refine ok_while (fun m S => ∃ (x y i : Nat), S = [.sh (.int n), .sh (.int d), .sh (.int (x : Int)), .sh (.int (y : Int))] ∧ Eu n.natAbs d.natAbs i x y ∧ m + i = 2 * k + 2) sm ⟨n.natAbs, d.natAbs, 0, ?_, .zero _ _, rfl⟩ (fun m S hS => ?_)
    · have : ((d.natAbs : Nat) : Int) = d := by omega
      rw [this]
    · obtain ⟨x, y, i, rfl, eu, hm⟩ := hS
      have eg := eu.g
      wrow_close
      refine ⟨fun hy => ?_, fun hy => ?_⟩
      · have y0 : y ≠ 0 := by simpa using hy
        have : m ≠ 0 := fun z => by
          have : n.natAbs * d.natAbs < 2 ^ (k + k) := by
            rw [Nat.pow_add]
            exact Nat.mul_lt_mul'' hn hs
          exact y0 (eu.last this (by omega))
        wrow_close
        exact ⟨by omega, by omega, y, x % y, i + 1, rfl, eu.step (by omega), by omega⟩
      · have y0 : y = 0 := by simpa using hy
        subst y0
        rw [Nat.gcd_zero_right] at eg
        subst eg
        wrow_close
        refine ⟨⟨by omega, .inr (by omega)⟩, ⟨by omega, .inr (by omega)⟩, ?_⟩
        rw [← e.1, ← e.2]
        exact h
  wrow_close
  refine ⟨fun z => ?_, fun z => ?_⟩
  · wrow_close
    rw [← neg_divInt] at h
    rw [Int.zero_sub, Int.zero_sub]
    exact go (-n) (-d) none none (by omega) (by omega) (by omega) h
  · wrow_close
    exact go n d none none (by omega) hn hs h
def ubr (U : List Nat) (bs : List (Rat × Nat)) : List (Rat × Nat) := (bs.filter fun b => decide (b.2 ∈ U)).map fun b => (b.1, U.idxOf b.2)
/-- the branches that do not lead to the unknown places -/
def obr (U : List Nat) (bs : List (Rat × Nat)) : List (Rat × Nat) := bs.filter fun b => !decide (b.2 ∈ U)
def mrow (c : List Plc) (U : List Nat) (G K : Nat → Rat) (p : Nat) : List Rat × Rat := (takeF (unitF U.length (U.idxOf p)) (ubr U (cAt c p).br), G p + ev (obr U (cAt c p).br) K)
theorem idx_find {U : List Nat} {t : Nat} (h : t ∈ U) : (encK U).findIdx? (fun z => PyData.eqv z (.int (t : Int))) = some (U.idxOf t) := by
  unfold encK
  rw [List.findIdx?_map, List.findIdx?_eq_some_iff_getElem]
  have hi := List.idxOf_lt_length_iff.mpr h
  refine ⟨hi, ?_, fun j hj => ?_⟩
  · show PyData.eqv (.int ((U[U.idxOf t] : Nat) : Int)) (.int (t : Int)) = true
    rw [eqv_int, List.getElem_idxOf hi]
    simp
  · show ¬ PyData.eqv (.int ((U[j] : Nat) : Int)) (.int (t : Int)) = true
    rw [eqv_int]
    have := List.not_of_lt_findIdx (p := (· == t)) (xs := U) (i := j) hj
    intro z
    have z := of_decide_eq_true z
    have e : U[j] = t := by omega
    rw [e] at this
    simp at this
theorem ubr_lt {U : List Nat} {bs : List (Rat × Nat)} : ∀ b ∈ ubr U bs, b.2 < U.length := fun b hb => by
  unfold ubr at hb
  obtain ⟨d, hd, rfl⟩ := List.mem_map.mp hb
  exact List.idxOf_lt_length_iff.mpr (of_decide_eq_true (List.mem_filter.mp hd).2)
theorem ubr_snoc {U : List Nat} {bs : List (Rat × Nat)} {b : Rat × Nat} : ubr U (bs ++ [b]) = ubr U bs ++ (if b.2 ∈ U then [(b.1, U.idxOf b.2)] else []) := by
  unfold ubr
  rw [List.filter_append, List.map_append]
  congr 1
  by_cases h : b.2 ∈ U
  · rw [if_pos h]
    simp [h]
  · rw [if_neg h]
    simp [h]
theorem obr_snoc {U : List Nat} {bs : List (Rat × Nat)} {b : Rat × Nat} : obr U (bs ++ [b]) = obr U bs ++ (if b.2 ∈ U then [] else [b]) := by
  unfold obr
  rw [List.filter_append]
  congr 1
  by_cases h : b.2 ∈ U
  · rw [if_pos h]
    simp [h]
  · rw [if_neg h]
    simp [h]
theorem ev_append {bs es : List (Rat × Nat)} {x : Nat → Rat} : ev (bs ++ es) x = ev bs x + ev es x := by
  unfold ev
  rw [List.map_append, sumQ_append]
theorem takeF_snoc {f : List Rat} {bs : List (Rat × Nat)} {b : Rat × Nat} : takeF f (bs ++ [b]) = (takeF f bs).set b.2 ((takeF f bs).getD b.2 0 - b.1) := by
  unfold takeF
  rw [List.foldl_append]
  rfl
theorem sum_filter_le {bs : List (Rat × Nat)} {p : Rat × Nat → Bool} (h : ∀ b ∈ bs, 0 ≤ b.1) : sumQ ((bs.filter p).map (·.1)) ≤ sumQ (bs.map (·.1)) := by
  induction bs with
  | nil => exact Rat.le_refl
  | cons b r ih =>
    have i1 := ih fun d hd => h d (List.mem_cons_of_mem _ hd)
    have i2 := h b List.mem_cons_self
    rw [List.filter_cons]
    split
    · rw [List.map_cons, List.map_cons, sumQ_cons, sumQ_cons]
      grind
    · rw [List.map_cons, sumQ_cons]
      grind
theorem ubr_sum {U : List Nat} {bs : List (Rat × Nat)} : (ubr U bs).map (·.1) = (bs.filter fun b => decide (b.2 ∈ U)).map (·.1) := by
  unfold ubr
  rw [List.map_map]
  rfl
theorem ubr_mem {U : List Nat} {bs : List (Rat × Nat)} {b : Rat × Nat} (h : b ∈ ubr U bs) : ∃ d ∈ bs, d.1 = b.1 := by
  unfold ubr at h
  obtain ⟨d, hd, rfl⟩ := List.mem_map.mp h
  exact ⟨d, (List.mem_filter.mp hd).1, rfl⟩
theorem sz5 {q : Rat} {D v : Int} (d1 : 0 < D) (d2 : D ≤ 18) (h : v.natAbs ≤ 18) (e : q * (D : Rat) = (v : Rat)) : Sz 5 q := by
  obtain ⟨a, b⟩ := rat_bound (by omega) e
  exact ⟨by omega, by omega⟩
theorem br_le_one {bs : List (Rat × Nat)} (n1 : ∀ b ∈ bs, 0 ≤ b.1) (n2 : sumQ (bs.map (·.1)) ≤ 1) : ∀ b ∈ bs, b.1 ≤ 1 := fun b hb => by
  have : b.1 ≤ sumQ (bs.map (·.1)) := by
    obtain ⟨s, t, e⟩ := List.append_of_mem hb
    rw [e, List.map_append, sumQ_append, List.map_cons, sumQ_cons]
    have s1 := sumQ_nn (bs := s) fun d hd => n1 d (by rw [e]; exact List.mem_append_left _ hd)
    have s2 := sumQ_nn (bs := t) fun d hd => n1 d (by rw [e]; exact List.mem_append_right _ (List.mem_cons_of_mem _ hd))
    grind
  grind
theorem take_sum_le {bs : List (Rat × Nat)} (n1 : ∀ b ∈ bs, 0 ≤ b.1) (l : Nat) : sumQ ((bs.take l).map (·.1)) ≤ sumQ (bs.map (·.1)) := by
  conv => rhs; rw [← List.take_append_drop l bs, List.map_append, sumQ_append]
  have := sumQ_nn (bs := bs.drop l) fun b hb => n1 b (List.mem_of_mem_drop hb)
  grind
/-- a row's numbers over D: the chances with the gain, or the known numbers 0 and 1 -/
structure MOk (c : List Plc) (U : List Nat) (G K : Nat → Rat) (p : Nat) : Prop where
  pw : PW c.length (cAt c p)
  den : ∃ D : Int, 0 < D ∧ D ≤ 18 ∧ (∀ b ∈ (cAt c p).br, ∃ v : Int, b.1 * (D : Rat) = (v : Rat)) ∧ ∀ l, ∃ v : Int, v.natAbs ≤ 18 ∧ (G p + ev (obr U ((cAt c p).br.take l)) K) * (D : Rat) = (v : Rat)
  kz : ∀ b ∈ (cAt c p).br, b.2 ∉ U → Sz 5 (K b.2)
theorem mrow_rw {c : List Plc} {U : List Nat} {G K : Nat → Rat} {p : Nat} (h : MOk c U G K p) : ∃ D : Int, 0 < D ∧ D ≤ 18 ∧ (∀ l, ∀ q ∈ takeF (unitF U.length (U.idxOf p)) (ubr U ((cAt c p).br.take l)), ∃ v : Int, v.natAbs ≤ 18 ∧ q * (D : Rat) = (v : Rat)) ∧ (∀ b ∈ (cAt c p).br, ∃ v : Int, v.natAbs ≤ 18 ∧ b.1 * (D : Rat) = (v : Rat)) ∧ ∀ l, ∃ v : Int, v.natAbs ≤ 18 ∧ (G p + ev (obr U ((cAt c p).br.take l)) K) * (D : Rat) = (v : Rat) := by
  obtain ⟨n1, n2⟩ := h.pw.nn
  obtain ⟨D, d1, d2, d3, d4⟩ := h.den
  refine ⟨D, d1, d2, fun l q hq => ?_, fun b hb => ?_, d4⟩
  · have hs : sumQ ((ubr U ((cAt c p).br.take l)).map (·.1)) ≤ 1 := by
      rw [ubr_sum]
      have a1 := sum_filter_le (bs := (cAt c p).br.take l) (p := fun b => decide (b.2 ∈ U)) fun b hb => n1 b (List.mem_of_mem_take hb)
      have a2 := take_sum_le n1 l
      grind
    obtain ⟨v, w1, w2⟩ := take_rw d1 unitF_01 (fun b hb => by
      obtain ⟨d, hd, e⟩ := ubr_mem hb
      have hd := List.mem_of_mem_take hd
      refine ⟨by rw [← e]; exact n1 d hd, by rw [unitF_len]; exact ubr_lt b hb, by rw [← e]; exact d3 d hd⟩) hs q hq
    exact ⟨v, by omega, w2⟩
  · obtain ⟨v, hv⟩ := d3 b hb
    have := v_bound d1 (br_le_one n1 n2 b hb) (by have := n1 b hb; grind) hv
    exact ⟨v, by omega, hv⟩
/-- numbers of the places, from those of the unknown ones, else those told -/
def spread (U : List Nat) (ys : List Rat) (K : Nat → Rat) (q : Nat) : Rat := if q ∈ U then ys.getD (U.idxOf q) 0 else K q
theorem evc (bs : List (Rat × Nat)) (x y : Nat → Rat) (hb : ∀ b ∈ bs, x b.2 = y b.2) : ev bs x = ev bs y := by
  induction bs with
  | nil => rfl
  | cons b r ih => rw [ev_cons, ev_cons, hb b List.mem_cons_self, ih fun d hd => hb d (List.mem_cons_of_mem _ hd)]
theorem ev_split {U : List Nat} {x : Nat → Rat} {K : Nat → Rat} : ∀ bs : List (Rat × Nat), ev (ubr U bs) x + ev (obr U bs) K = ev bs fun q => if q ∈ U then x (U.idxOf q) else K q
  | [] => by
    show ev [] x + ev [] K = ev [] _
    rw [ev_nil, ev_nil, ev_nil]; grind
  | b :: bs => by
    have ih := ev_split (U := U) (x := x) (K := K) bs
    by_cases hb : b.2 ∈ U
    · have e1 : ubr U (b :: bs) = (b.1, U.idxOf b.2) :: ubr U bs := by unfold ubr; rw [List.filter_cons_of_pos (by simpa using hb)]; rfl
      have e2 : obr U (b :: bs) = obr U bs := by unfold obr; rw [List.filter_cons_of_neg (by simpa using hb)]
      rw [e1, e2, ev_cons, ev_cons, ← ih, if_pos hb]
      grind
    · have e1 : ubr U (b :: bs) = ubr U bs := by unfold ubr; rw [List.filter_cons_of_neg (by simpa using hb)]
      have e2 : obr U (b :: bs) = b :: obr U bs := by unfold obr; rw [List.filter_cons_of_pos (by simpa using hb)]
      rw [e1, e2, ev_cons, ev_cons, ← ih, if_neg hb]
      grind
theorem mrow_at {c : List Plc} {U : List Nat} {G K : Nat → Rat} {p m j : Nat} {x : Nat → Rat} {β : Rat} (hp : p ∈ U) : (inLn m j (mrow c U G K p)).at (fun i => x i) β ↔ x (U.idxOf p) = β * (G p + ev (obr U (cAt c p).br) K) + ev (ubr U (cAt c p).br) x := by
  unfold Ln.at inLn mrow
  dsimp only
  rw [dt_take _ _ _ (fun b hb => by rw [unitF_len]; exact ubr_lt b hb), dt_unit (List.idxOf_lt_length_iff.mpr hp)]
  constructor
  · intro z; grind
  · intro z; grind
/-- only nought on the unknown places is its own mean there, with nought elsewhere -/
def Drains (c : List Plc) (U : List Nat) : Prop := ∀ z : Nat → Rat, (∀ q, q ∉ U → z q = 0) → (∀ p ∈ U, z p = ev (cAt c p).br z) → ∀ p ∈ U, z p = 0
theorem w_means {c : List Plc} {U : List Nat} {gs ks : List Rat} {G K : Nat → Rat} {km : Nat} (hm : XX 18 U.length < 2 ^ km) (dr : Drains c U) (nd : U.Nodup) (hU : ∀ p ∈ U, p < c.length) (hl : U.length ≤ 10) (hc : c.length ≤ 1000)
    (hg : ∀ p, p < c.length → gs[p]? = some (G p)) (hk : ∀ p, p < c.length → ks[p]? = some (K p)) (ok : ∀ p ∈ U, MOk c U G K p) {Q : List PD → Prop}
    (h : ∀ ys : List Rat, ys.length = U.length → (∀ y ∈ ys, Sz km y) → (∀ p ∈ U, spread U ys K p = G p + ev (cAt c p).br (spread U ys K)) → Q (ys.map num)) : Ok (f_means [encC c, nats U, .list (gs.map num), .list (ks.map num)]) Q := by
  unfold f_means d_means
  wrow_close
  refine ok_for (enc := fun (i : Nat) => PyData.int (i : Int)) (l := U) (fun i S => ∃ a b d e f g : Option PD, S = [.sh (encC c), .sh (nats U), .sh (.list (gs.map num)), .sh (.list (ks.map num)), .ow (((U.take i).map (mrow c U G K)).map encRow2), fv a, fv b, fv d, fv e, fv f, fv g, .no]) ⟨none, none, none, none, none, none, rfl⟩ (fun i hi S hS => ?_) (fun S hS => ?_)
  · obtain ⟨a, b, d, e, f, g, rfl⟩ := hS
    have hpm : U[i] ∈ U := List.getElem_mem hi
    have hpn := hU _ hpm
    have etk : (U.take (i + 1)).map (mrow c U G K) = (U.take i).map (mrow c U G K) ++ [mrow c U G K U[i]] := by
      rw [List.take_succ_eq_append_getElem hi, List.map_append]
      rfl
    generalize U[i] = p at hpm hpn etk
    have hx := cAt_of hpn
    have M := ok p hpm
    obtain ⟨D, d1, d2, s1, s2, s4⟩ := mrow_rw M
    have bl := M.pw.len
    have bt : ∀ b ∈ (cAt c p).br, b.2 < c.length := fun b hb => by
      rcases M.pw.br with e | e
      · rw [e] at hb; cases hb
      · exact (e.1 b hb).2
    have kz := M.kz
    have eg : (gs.map num)[p]? = some (num (G p)) := by rw [List.getElem?_map, hg p hpn]; rfl
    have hr : mrow c U G K p = (takeF (unitF U.length (U.idxOf p)) (ubr U (cAt c p).br), G p + ev (obr U (cAt c p).br) K) := rfl
    clear M
    generalize cAt c p = x at hx s1 s2 s4 bl bt hr kz
    wrow_close
    refine ⟨by omega, ?_⟩
    refine ok_comp1 (fun (o : Nat) => num (if o = p then 1 else 0)) (fun o ho => ?_) ?_
    · wrow_close
      by_cases hk : o = p
      · subst hk
        refine ⟨fun _ => ?_, fun z => absurd rfl z⟩
        wrow_close
        rfl
      · refine ⟨fun z => absurd z hk, fun _ => ?_⟩
        wrow_close
        rw [if_neg hk]
        rfl
    have eu : U.map (fun (o : Nat) => num (if o = p then 1 else 0)) = (unitF U.length (U.idxOf p)).map num := by
      unfold unitF
      rw [List.map_map]
      refine List.ext_getElem? fun j => ?_
      rw [List.getElem?_map, List.getElem?_map]
      by_cases hj : j < U.length
      · rw [List.getElem?_eq_getElem hj, List.getElem?_range hj]
        have ee : (U[j] = p) ↔ j = U.idxOf p := by
          constructor
          · intro z
            rw [← z, List.Nodup.idxOf_getElem nd]
          · intro z
            subst z
            exact List.getElem_idxOf _
        show some (num (if U[j] = p then 1 else 0)) = some (num (if j = U.idxOf p then 1 else 0))
        by_cases z : U[j] = p
        · rw [if_pos z, if_pos (ee.mp z)]
        · rw [if_neg z, if_neg fun w => z (ee.mpr w)]
      · rw [List.getElem?_eq_none (by omega), List.getElem?_eq_none (by simp; omega)]
        rfl
    rw [eu]
    wrow_close
    rw [eg]
    wrow_close
    refine w_branches hx ?_
    refine ok_for (enc := encB) (l := x.br) (fun j S => ∃ e f g : Option PD, S = [.sh (encC c), .sh (nats U), .sh (.list (gs.map num)), .sh (.list (ks.map num)), .ow (((U.take i).map (mrow c U G K)).map encRow2), .sh (.int (p : Int)), .ow ((takeF (unitF U.length (U.idxOf p)) (ubr U (x.br.take j))).map num), .sh (num (G p + ev (obr U (x.br.take j)) K)), fv e, fv f, fv g, .no]) ⟨e, f, g, ?_⟩ (fun j hj S hS => ?_) (fun S hS => ?_)
    · have : G p + ev (obr U (x.br.take 0)) K = G p := by
        rw [List.take_zero]
        show G p + ev [] K = G p
        rw [ev_nil]; grind
      rw [this]
      rfl
    · obtain ⟨e, f, g, rfl⟩ := hS
      have hbm : x.br[j] ∈ x.br := List.getElem_mem hj
      have etj : ubr U (x.br.take (j + 1)) = ubr U (x.br.take j) ++ (if x.br[j].2 ∈ U then [(x.br[j].1, U.idxOf x.br[j].2)] else []) := by
        rw [List.take_succ_eq_append_getElem hj, ubr_snoc]
      have etk2 : obr U (x.br.take (j + 1)) = obr U (x.br.take j) ++ (if x.br[j].2 ∈ U then [] else [x.br[j]]) := by
        rw [List.take_succ_eq_append_getElem hj, obr_snoc]
      generalize x.br[j] = bb at hbm etj etk2
      have s3 := s1 j
      have fl : (takeF (unitF U.length (U.idxOf p)) (ubr U (x.br.take j))).length = U.length := by rw [takeF_len, unitF_len]
      have eb : encB bb = .tuple [num bb.1, .int (bb.2 : Int)] := rfl
      rw [eb]
      obtain ⟨w, w1, w2⟩ := s2 bb hbm
      have sb := sz5 d1 d2 w1 w2
      obtain ⟨w', w1', w2'⟩ := s4 j
      have sg := sz5 d1 d2 w1' w2'
      have tn := bt bb hbm
      generalize ef : takeF (unitF U.length (U.idxOf p)) (ubr U (x.br.take j)) = F at s3 fl
      wrow_close
      refine ⟨⟨rfl, shp_nats⟩, ?_⟩
      rw [any_eqv]
      wrow_close
      by_cases ht : bb.2 ∈ U
      · refine ⟨fun _ => ?_, fun z => absurd ht z⟩
        have ix := List.idxOf_lt_length_iff.mpr ht
        wrow_close
        refine ⟨⟨shp_nats, rfl⟩, ?_⟩
        rw [show U.map (fun (i : Nat) => PyData.int (i : Int)) = encK U from rfl, idx_find ht]
        wrow_close
        have ea : (F.map num)[U.idxOf bb.2]? = some (num (F.getD (U.idxOf bb.2) 0)) := by
          rw [List.getElem?_map, List.getElem?_eq_getElem (by omega), getD_of (by omega)]
          rfl
        rw [ea]
        wrow_close
        obtain ⟨u, u1, u2⟩ := s3 (F.getD (U.idxOf bb.2) 0) (by rw [getD_of (by omega)]; exact List.getElem_mem _)
        refine w_minus (sz5 d1 d2 u1 u2) sb (by decide) ?_
        wrow_close
        rw [fl]
        refine Ok_of (ixN_nat ix) ?_
        refine ⟨some (num bb.1), some (.int (bb.2 : Int)), some (.int (U.idxOf bb.2 : Nat)), ?_⟩
        rw [etj, etk2, if_pos ht, if_pos ht, List.append_nil, takeF_snoc, ef, List.map_set]
        rfl
      · refine ⟨fun z => absurd z ht, fun _ => ?_⟩
        have sk := kz bb hbm ht
        wrow_close
        have ek : (ks.map num)[bb.2]? = some (num (K bb.2)) := by rw [List.getElem?_map, hk _ tn]; rfl
        rw [ek]
        wrow_close
        refine w_times sb sk (by decide) ?_
        wrow_close
        refine w_plus sg (mul_sz sb sk) (by decide) ?_
        wrow_close
        refine ⟨some (num bb.1), some (.int (bb.2 : Int)), g, ?_⟩
        have z0 : G p + ev (obr U (x.br.take j)) K + bb.1 * K bb.2 = G p + ev (obr U (x.br.take j) ++ [bb]) K := by
          rw [ev_append, ev_cons, ev_nil]
          grind
        rw [etj, etk2, if_neg ht, if_neg ht, List.append_nil, ef, z0]
        rfl
    · obtain ⟨e, f, g, rfl⟩ := hS
      rw [List.take_of_length_le (Nat.le_refl _)]
      wrow_close
      refine ⟨by rw [List.length_take]; omega, some (.int (p : Int)), some (.list (((takeF (unitF U.length (U.idxOf p)) (ubr U x.br)).map num))), some (num (G p + ev (obr U x.br) K)), e, f, g, ?_⟩
      rw [etk, List.map_append, hr]
      rfl
  · obtain ⟨a, b, d, e, f, g, rfl⟩ := hS
    rw [List.take_of_length_le (Nat.le_refl _)]
    wrow_close
    have lm : ((U.map (mrow c U G K))).length = U.length := List.length_map _
    have szs : Szs 18 (inLns (U.map (mrow c U G K))) := fun l hl => by
      unfold inLns at hl
      obtain ⟨j, hj, rfl⟩ := List.mem_mapIdx.mp hl
      have hj2 : j < U.length := by rwa [lm] at hj
      have hpm : U[j] ∈ U := List.getElem_mem hj2
      rw [List.getElem_map]
      generalize U[j] = p at hpm
      obtain ⟨D, d1, d2, s1, s2, s4⟩ := mrow_rw (ok p hpm)
      have s1 := s1 (cAt c p).br.length
      obtain ⟨v, v1, v2⟩ := s4 (cAt c p).br.length
      rw [List.take_length] at s1 v2
      refine ⟨D, by omega, by omega, fun q hq => ?_⟩
      unfold Ln.all inLn mrow at hq
      rcases List.mem_append.mp hq with hq | hq
      · exact s1 q hq
      · rcases List.mem_cons.mp hq with hq | hq
        · exact ⟨v, v1, by rw [hq]; exact v2⟩
        · obtain ⟨k, _, rfl⟩ := List.mem_map.mp hq
          by_cases hk : k = j
          · rw [if_pos hk]
            exact ⟨D, by omega, Rat.one_mul _⟩
          · rw [if_neg hk]
            exact ⟨0, by decide, Rat.zero_mul _⟩
    have hat : ∀ x β, (∀ l ∈ inLns (U.map (mrow c U G K)), l.at x β) ↔ ∀ p ∈ U, x (U.idxOf p) = β * (G p + ev (obr U (cAt c p).br) K) + ev (ubr U (cAt c p).br) x := fun x β => by
      unfold inLns
      constructor
      · intro z p hp
        have hi := List.idxOf_lt_length_iff.mpr hp
        have := z (inLn (U.map (mrow c U G K)).length (U.idxOf p) (mrow c U G K p)) (List.mem_mapIdx.mpr ⟨U.idxOf p, by rw [lm]; exact hi, by rw [List.getElem_map, List.getElem_idxOf hi]⟩)
        exact (mrow_at hp).mp this
      · intro z l hl
        obtain ⟨j, hj, rfl⟩ := List.mem_mapIdx.mp hl
        rw [List.getElem_map]
        exact (mrow_at (List.getElem_mem _)).mpr (z _ (List.getElem_mem _))
    have tight : Tight U.length (inLns (U.map (mrow c U G K))) := fun x hx i hi => by
      have hx := (hat x 0).mp hx
      have hz := dr (fun q => if q ∈ U then x (U.idxOf q) else 0) (fun q hq => if_neg hq) (fun p hp => by
        have e := ev_split (U := U) (x := x) (K := fun _ => 0) (cAt c p).br
        have z0 : ev (obr U (cAt c p).br) (fun _ => 0) = 0 := by
          have : ∀ bs : List (Rat × Nat), ev bs (fun _ => 0) = 0 := fun bs => by
            induction bs with
            | nil => rfl
            | cons b r ih => rw [ev_cons, ih]; grind
          exact this _
        rw [if_pos hp, ← e, z0, hx p hp]
        grind) U[i] (List.getElem_mem hi)
      rw [if_pos (List.getElem_mem hi), List.Nodup.idxOf_getElem nd] at hz
      exact hz
    refine w_only_solution (X0 := 18) (k := 2647) (m := km) lm hm (by omega) (fun r hr => ?_) tight (by decide) (fun j hj => ?_) (by decide) (by decide) szs fun ys h1 h2 h3 => ?_
    · obtain ⟨p, hp, rfl⟩ := List.mem_map.mp hr
      show (takeF _ _).length = _
      rw [takeF_len, unitF_len]
    · have : XX 18 9 < 2 ^ 2647 := by decide +kernel
      exact Nat.lt_of_le_of_lt (XX_mono (by decide) (by omega)).1 this
    · wrow_close
      refine ⟨flatL_num ys, ?_⟩
      refine h ys h1 h2 fun p hp => ?_
      have := (hat _ 1).mp ((h3 fun j => ys.getD j 0).mpr fun j _ => rfl) p hp
      have e := ev_split (U := U) (x := fun j => ys.getD j 0) (K := K) (cAt c p).br
      have e2 : spread U ys K p = ys.getD (U.idxOf p) 0 := if_pos hp
      rw [e2, this]
      show _ = G p + ev (cAt c p).br fun q => if q ∈ U then ys.getD (U.idxOf q) 0 else K q
      rw [← e]
      grind
theorem ev01 {bs : List (Rat × Nat)} {K : Nat → Rat} (n1 : ∀ b ∈ bs, 0 ≤ b.1) (hK : ∀ q, K q = 0 ∨ K q = 1) : 0 ≤ ev bs K ∧ ev bs K ≤ sumQ (bs.map (·.1)) := by
  induction bs with
  | nil =>
    rw [ev_nil]
    exact ⟨Rat.le_refl, by show (0 : Rat) ≤ sumQ []; rw [sumQ_nil]; exact Rat.le_refl⟩
  | cons b r ih =>
    obtain ⟨i1, i2⟩ := ih fun d hd => n1 d (List.mem_cons_of_mem _ hd)
    have b0 := n1 b List.mem_cons_self
    rw [ev_cons, List.map_cons, sumQ_cons]
    rcases hK b.2 with e | e
    · rw [e]; constructor <;> grind
    · rw [e]; constructor <;> grind
theorem ev01_D {D : Int} {K : Nat → Rat} (hK : ∀ q, K q = 0 ∨ K q = 1) : ∀ {bs : List (Rat × Nat)}, (∀ b ∈ bs, ∃ v : Int, b.1 * (D : Rat) = (v : Rat)) → ∃ v : Int, ev bs K * (D : Rat) = (v : Rat)
  | [], _ => ⟨0, by rw [ev_nil, Rat.zero_mul]; rfl⟩
  | b :: bs, h => by
    obtain ⟨v, hv⟩ := ev01_D hK fun d hd => h d (List.mem_cons_of_mem _ hd)
    obtain ⟨u, hu⟩ := h b List.mem_cons_self
    rw [ev_cons]
    rcases hK b.2 with e | e
    · exact ⟨v, by rw [e, ← hv]; grind⟩
    · exact ⟨u + v, by rw [e, Rat.intCast_add, ← hu, ← hv]; grind⟩
theorem zipD_U : ∀ (U : List Nat) (ys : List Rat), zipD (encK U) (ys.map num) = (List.zip U ys).map fun z : Nat × Rat => PyData.tuple [.int (z.1 : Int), num z.2]
  | [], _ => rfl
  | _ :: _, [] => rfl
  | x :: xs, y :: ys => by
    have ih := zipD_U xs ys
    unfold zipD at ih ⊢
    show PyData.tuple [.int (x : Int), num y] :: _ = PyData.tuple [.int (x : Int), num y] :: _
    rw [ih]
    rfl
theorem ev_zero {x : Nat → Rat} : ∀ {bs : List (Rat × Nat)}, (∀ b ∈ bs, x b.2 = 0) → ev bs x = 0
  | [], _ => rfl
  | b :: bs, h => by
    rw [ev_cons, h b List.mem_cons_self, ev_zero fun d hd => h d (List.mem_cons_of_mem _ hd)]
    grind
theorem range_set {n p : Nat} {f : Nat → PD} {v : PD} (hp : p < n) : ((List.range n).map f).set p v = (List.range n).map fun q => if q = p then v else f q := by
  refine List.ext_getElem? fun j => ?_
  by_cases hj : j < n
  · by_cases e : j = p
    · subst e
      rw [List.getElem?_set_self (by simp; exact hj), List.getElem?_map, List.getElem?_range hj]
      show _ = some (if j = j then v else f j)
      rw [if_pos rfl]
    · rw [List.getElem?_set_ne (fun z => e z.symm), List.getElem?_map, List.getElem?_map, List.getElem?_range hj]
      show _ = some (if j = p then v else f j)
      rw [if_neg e]
      rfl
  · rw [List.getElem?_eq_none (by simp; omega), List.getElem?_eq_none (by simp; omega)]
theorem any_map {α : Type} {l : List α} {f : α → Bool} : (l.map f).any id = l.any f := by
  rw [List.any_map]; rfl
theorem w_chances {c : List Plc} {G : List Nat} (A : CW c) (hc : c.length ≤ 10) (hG : G.length ≤ 1000) {Q : List PD → Prop}
    (h : ∀ x : Nat → Rat, IsCh c G x → (∀ p, Sz 2647 (x p)) → Q ((List.range c.length).map fun p => num (x p))) : Ok (f_chances [encC c, nats G]) Q := by
  unfold f_chances d_chances
  have lt := A.tlt
  have bl : ∀ p, p < c.length → (cAt c p).br.length ≤ 1000 := fun p hp => by have := (A p hp).len; omega
  let K : Nat → Rat := fun p => if p ∈ G then 1 else 0
  have hK : ∀ q, K q = 0 ∨ K q = 1 := fun q => by
    by_cases z : q ∈ G
    · exact .inr (if_pos z)
    · exact .inl (if_neg z)
  wrow_close
  refine w_all_reached (by omega) bl lt fun W w => ?_
  wrow_close
  refine ⟨by omega, by omega, ?_⟩
  refine ok_comp1R (fun p => num (K p)) (fun p hp => ?_) ?_
  · wrow_close
    refine ⟨⟨rfl, shp_nats⟩, ?_⟩
    rw [any_eqv]
    wrow_close
    by_cases z : p ∈ G
    · refine ⟨fun _ => ?_, fun y => absurd z y⟩
      wrow_close
      rw [show K p = 1 from if_pos z]
      rfl
    · refine ⟨fun y => absurd y z, fun _ => ?_⟩
      wrow_close
      rw [show K p = 0 from if_neg z]
      rfl
  wrow_close
  refine ⟨by omega, by omega, ?_⟩
  refine ok_compR (fun p => G.any fun g => decide (g ∈ W.getD p [])) (fun p => .int (p : Int)) (fun p hp => ?_) ?_
  · wrow_close
    refine ⟨by omega, ?_⟩
    refine ok_comp1 (fun (g : Nat) => PyData.bool (decide (g ∈ W.getD p []))) (fun g hg => ?_) ?_
    · wrow_close
      rw [w.at hp]
      wrow_close
      refine ⟨⟨rfl, shp_nats⟩, ?_⟩
      rw [any_eqv]
    rw [show G.map (fun (g : Nat) => PyData.bool (decide (g ∈ W.getD p []))) = (G.map fun g => decide (g ∈ W.getD p [])).map PyData.bool from by rw [List.map_map]; rfl]
    wrow_close
    rw [any_map]
  generalize eN : (List.range c.length).filter (fun p => G.any fun g => decide (g ∈ W.getD p [])) = N
  have hN : ∀ p, p ∈ N ↔ p < c.length ∧ Near c G p := fun p => by
    rw [← eN, List.mem_filter, List.mem_range, List.any_eq_true]
    constructor
    · rintro ⟨h1, g, h2, h3⟩
      exact ⟨h1, g, h2, (w.mem p h1 g).mp (of_decide_eq_true h3)⟩
    · rintro ⟨h1, g, h2, h3⟩
      exact ⟨h1, g, h2, decide_eq_true ((w.mem p h1 g).mpr h3)⟩
  have ndN : N.Nodup := by rw [← eN]; exact List.nodup_range.filter _
  have lN := nodup_lt ndN fun p hp => ((hN p).mp hp).1
  clear eN
  wrow_close
  refine ⟨by omega, ?_⟩
  refine ok_comp (enc := fun (i : Nat) => PyData.int (i : Int)) (fun p => !decide (p ∈ G)) (fun p => .int (p : Int)) (fun p hp => ?_) ?_
  · wrow_close
    refine ⟨⟨rfl, shp_nats⟩, ?_⟩
    rw [any_eqv]
    wrow_close
  generalize eU : N.filter (fun p => !decide (p ∈ G)) = U
  have hU : ∀ p, p ∈ U ↔ p < c.length ∧ Near c G p ∧ p ∉ G := fun p => by
    rw [← eU, List.mem_filter, hN]
    simp [and_assoc]
  have ndU : U.Nodup := by rw [← eU]; exact ndN.filter _
  have lU : U.length ≤ 9 := by
    cases hUe : U with
    | nil => decide
    | cons p r =>
      have hp : p ∈ U := by rw [hUe]; exact List.mem_cons_self
      obtain ⟨h1, ⟨g, h2, h3⟩, _⟩ := (hU p).mp hp
      have := nodup_lt (n := c.length) (l := g :: U) (List.nodup_cons.mpr ⟨fun z => ((hU g).mp z).2.2 h2, ndU⟩) fun q hq => by
        rcases List.mem_cons.mp hq with rfl | hq
        · exact h3.lt lt h1
        · exact ((hU q).mp hq).1
      rw [← hUe]
      simp only [List.length_cons] at this
      omega
  clear eU
  wrow_close
  refine ⟨by omega, ?_⟩
  refine ok_comp1 (fun _ => num 0) (fun x hx => ?_) ?_
  · wrow_close
    rfl
  have er : c.map (fun _ => num 0) = (List.replicate c.length (0 : Rat)).map num := by rw [List.map_const', List.map_replicate]
  have ek : (List.range c.length).map (fun p => num (K p)) = ((List.range c.length).map K).map num := by rw [List.map_map]; rfl
  rw [er]
  wrow_close
  rw [ek]
  refine w_means (G := fun _ => 0) (K := K) (km := 2647) ?_ (fun z hz1 hz2 p hp => ?_) ndU (fun p hp => ((hU p).mp hp).1) (by omega) (by omega) (fun p hp => ?_) (fun p hp => ?_) (fun p hp => ?_) fun ys hy1 hy2 hy3 => ?_
  · have : XX 18 9 < 2 ^ 2647 := by decide +kernel
    exact Nat.lt_of_le_of_lt (XX_mono (by decide) lU).1 this
  · refine drain A (G := G) (z := z) (fun q hq => ?_) p ((hU p).mp hp).1
    by_cases hq2 : q ∈ U
    · obtain ⟨_, a, b⟩ := (hU q).mp hq2
      exact .inr ⟨a, b, hz2 q hq2⟩
    · exact .inl (hz1 q hq2)
  · rw [List.getElem?_replicate, if_pos hp]
  · rw [List.getElem?_map, List.getElem?_range hp]
    rfl
  · have hp2 := ((hU p).mp hp).1
    obtain ⟨n1, n2⟩ := (A p hp2).nn
    obtain ⟨D, d1, d2, d3⟩ := (A p hp2).den
    refine ⟨A p hp2, ⟨D, d1, d2, d3, fun l => ?_⟩, fun b hb _ => ?_⟩
    · have sub : ∀ b ∈ obr U ((cAt c p).br.take l), b ∈ (cAt c p).br := fun b hb => List.mem_of_mem_take (List.mem_filter.mp hb).1
      obtain ⟨e1, e2⟩ := ev01 (bs := obr U ((cAt c p).br.take l)) (K := K) (fun b hb => n1 b (sub b hb)) hK
      obtain ⟨v, hv⟩ := ev01_D (D := D) hK (bs := obr U ((cAt c p).br.take l)) fun b hb => d3 b (sub b hb)
      have a1 := sum_filter_le (bs := (cAt c p).br.take l) (p := fun b => !decide (b.2 ∈ U)) fun b hb => n1 b (List.mem_of_mem_take hb)
      have a2 := take_sum_le n1 l
      have a3 : sumQ ((obr U ((cAt c p).br.take l)).map (·.1)) ≤ sumQ (((cAt c p).br.take l).map (·.1)) := a1
      have := v_bound d1 (q := ev (obr U ((cAt c p).br.take l)) K) (by grind) (by grind) hv
      refine ⟨v, by omega, ?_⟩
      rw [← hv]
      grind
    · rcases hK b.2 with e | e
      · rw [e]; exact sz_zero.mono (by decide)
      · rw [e]; exact sz_one.mono (by decide)
  · wrow_close
    refine ⟨flatL_num ys, ?_⟩
    rw [zipD_U]
    have zl : (List.zip U ys).length = U.length := by rw [List.length_zip, hy1, Nat.min_self]
    refine ok_for (enc := fun z : Nat × Rat => PyData.tuple [.int (z.1 : Int), num z.2]) (l := List.zip U ys) (fun i S => ∃ a b : Option PD, S = [.sh (encC c), .sh (nats G), .sh (.list (W.map nats)), .ow ((List.range c.length).map fun p => num (if p ∈ U.take i then ys.getD (U.idxOf p) 0 else K p)), .sh (nats N), .sh (nats U), .sh (.list (ys.map num)), fv a, fv b, .no]) ⟨none, none, ?_⟩ (fun i hi S hS => ?_) (fun S hS => ?_)
    · rw [List.take_zero]
      have : (List.range c.length).map (fun p => num (if p ∈ ([] : List Nat) then ys.getD (U.idxOf p) 0 else K p)) = ((List.range c.length).map K).map num := by
        simp only [List.not_mem_nil, if_false]
        rw [List.map_map]
        rfl
      rw [this]
      rfl
    · obtain ⟨a, b, rfl⟩ := hS
      have hi2 : i < U.length := by rwa [zl] at hi
      have ez : (List.zip U ys)[i] = (U[i], ys[i]'(by omega)) := List.getElem_zip
      rw [ez]
      have hp := ((hU _).mp (List.getElem_mem hi2)).1
      wrow_close
      refine Ok_of (ixN_nat hp) ?_
      refine ⟨some (.int (U[i] : Int)), some (num (ys[i]'(by omega))), ?_⟩
      rw [range_set hp]
      have : (fun q => if q = U[i] then num (ys[i]'(by omega)) else num (if q ∈ U.take i then ys.getD (U.idxOf q) 0 else K q)) = fun q => num (if q ∈ U.take (i + 1) then ys.getD (U.idxOf q) 0 else K q) := by
        funext q
        rw [List.take_succ_eq_append_getElem hi2]
        by_cases e : q = U[i]
        · subst e
          rw [if_pos rfl, if_pos (List.mem_append_right _ (List.mem_singleton.mpr rfl)), List.Nodup.idxOf_getElem ndU, getD_of (by omega)]
        · rw [if_neg e]
          congr 1
          have : (q ∈ U.take i ++ [U[i]]) ↔ q ∈ U.take i := ⟨fun z => (List.mem_append.mp z).elim id fun w => absurd (List.mem_singleton.mp w) e, fun z => List.mem_append_left _ z⟩
          by_cases m : q ∈ U.take i
          · rw [if_pos m, if_pos (this.mpr m)]
          · rw [if_neg m, if_neg fun z => m (this.mp z)]
      rw [this]
      rfl
    · obtain ⟨a, b, rfl⟩ := hS
      rw [zl, List.take_of_length_le (Nat.le_refl _)]
      wrow_close
      have far0 : ∀ p, p < c.length → ¬ Near c G p → spread U ys K p = 0 := fun p hp hn => by
        have m : p ∉ U := fun z => hn ((hU p).mp z).2.1
        have g : p ∉ G := fun z => hn ⟨p, z, .refl⟩
        unfold spread
        rw [if_neg m]
        exact if_neg g
      refine h (spread U ys K) ⟨fun p hp hg => ?_, far0, fun p hp hg => ?_⟩ fun p => ?_
      · have m : p ∉ U := fun z => ((hU p).mp z).2.2 hg
        unfold spread
        rw [if_neg m]
        exact if_pos hg
      · by_cases m : p ∈ U
        · rw [hy3 p m]
          grind
        · have hn : ¬ Near c G p := fun z => m ((hU p).mpr ⟨hp, z, hg⟩)
          rw [far0 p hp hn, ev_zero fun b hb => ?_]
          refine far0 b.2 (A.lt hp hb).1 fun ⟨q, hq, r⟩ => hn ⟨q, hq, .head (List.mem_map.mpr ⟨b, hb, rfl⟩) r⟩
      · unfold spread
        split
        · rename_i m
          have := List.idxOf_lt_length_iff.mpr m
          rw [getD_of (by omega)]
          exact hy2 _ (List.getElem_mem _)
        · rcases hK p with e | e
          · rw [e]; exact sz_zero.mono (by decide)
          · rw [e]; exact sz_one.mono (by decide)
theorem w__law_plus {p q : Rat} {k m : Nat} (hp : Sz k p) (hq : Sz m q) (hk : k + m < 13398) {Q : PD → Prop} (h : Q (num (p + q))) : Ok (f__law_plus [num p, num q]) Q := by
  unfold f__law_plus d__law_plus num
  close_w
  refine ⟨okMul_of hp.1 (natCast_lt hq.2) (by omega), okMul_of hq.1 (natCast_lt hp.2) (by omega), okMul_of (natCast_lt hp.2) (natCast_lt hq.2) (by omega), ?_⟩
  have h1 := den_pos p
  have h2 := den_pos q
  have h3 : (p.den : Int) * q.den > 0 := Int.mul_pos (by omega) (by omega)
  refine w__law_number (k := k + m + 1) (by omega) (natAbs_add_lt (natAbs_mul_lt hp.1 (natCast_lt hq.2)) (by rw [Nat.add_comm]; exact natAbs_mul_lt hq.1 (natCast_lt hp.2))) (pow_up (natAbs_mul_lt (natCast_lt hp.2) (natCast_lt hq.2)) (by omega)) (by omega) ?_
  rw [add_divInt]
  exact h
theorem w__law_times {p q : Rat} {k m : Nat} (hp : Sz k p) (hq : Sz m q) (hk : k + m < 13400) {Q : PD → Prop} (h : Q (num (p * q))) : Ok (f__law_times [num p, num q]) Q := by
  unfold f__law_times d__law_times num
  close_w
  refine ⟨okMul_of hp.1 hq.1 (by omega), okMul_of (natCast_lt hp.2) (natCast_lt hq.2) (by omega), ?_⟩
  have h1 := den_pos p
  have h2 := den_pos q
  have h3 : (p.den : Int) * q.den > 0 := Int.mul_pos (by omega) (by omega)
  refine w__law_number (k := k + m) (by omega) (natAbs_mul_lt hp.1 hq.1) (natAbs_mul_lt (natCast_lt hp.2) (natCast_lt hq.2)) (by omega) ?_
  rw [mul_divInt]
  exact h
theorem w_places_of {c : List Plc} (hc : c.length ≤ 1000) {f : Plc → Bool} {s : String} (hf : ∀ x : Plc, ∀ K : PD → Prop, K (.bool (f x)) → Ok (gIx x.enc (.int 0)) fun k => Ok (gEq k (.str s)) K) {Q : List PD → Prop} (h : Q (encK ((List.range c.length).filter fun p => f (cAt c p)))) : Ok (f_places_of [encC c, .str s]) Q := by
  unfold f_places_of d_places_of
  wrow_close
  refine ⟨by rw [enumD_length, List.length_map]; omega, ?_⟩
  refine ok_compE (fun p => f (cAt c p)) (fun p => .int (p : Int)) (fun i hi => ?_) ?_
  · have hi' : i < c.length := by simpa using hi
    have eg : (c.map Plc.enc)[i] = (cAt c i).enc := by
      rw [List.getElem_map]
      have := cAt_of hi'
      rw [List.getElem?_eq_getElem hi'] at this
      injection this with this
      rw [this]
    wrow_close
    rw [eg]
    obtain ⟨k, e1, d, e3, e4⟩ := hf (cAt c i) (fun d => d = .bool (f (cAt c i))) rfl
    refine Ok_of e1 ?_
    wrow_close
    refine Ok_of e3 ?_
    rw [e4]
    wrow_close
  · rw [List.length_map]
    wrow_close
    exact h
theorem is_fin (x : Plc) (K : PD → Prop) (h : K (.bool x.isFin)) : Ok (gIx x.enc (.int 0)) fun k => Ok (gEq k (.str "finish")) K := by
  cases x <;> (wrow_close; exact h)
theorem is_lose (x : Plc) (K : PD → Prop) (h : K (.bool x.isLose)) : Ok (gIx x.enc (.int 0)) fun k => Ok (gEq k (.str "lose")) K := by
  cases x <;> (wrow_close; exact h)
theorem w_chances_of {c : List Plc} (A : CW c) (hc : c.length ≤ 10) {cd : Cnd} (hS : ∀ S, cd = .never S → S.length ≤ 1000) {Q : List PD → Prop}
    (h : ∀ y : Nat → Rat, IsHeld c cd y → (∀ p, Sz 2649 (y p)) → Q ((List.range c.length).map fun p => num (y p))) : Ok (f_chances_of [encC c, cd.enc]) Q := by
  unfold f_chances_of d_chances_of
  cases cd with
  | fin =>
    wrow_close
    refine w_places_of (by omega) is_fin ?_
    wrow_close
    refine w_chances A hc (G := finP c) (Nat.le_trans (List.length_filter_le _ _) (by rw [List.length_range]; omega)) fun x hx sx => ?_
    wrow_close
    exact h x hx fun p => (sx p).mono (by decide)
  | lose =>
    wrow_close
    refine w_places_of (by omega) is_lose ?_
    wrow_close
    refine w_chances A hc (G := loseP c) (Nat.le_trans (List.length_filter_le _ _) (by rw [List.length_range]; omega)) fun x hx sx => ?_
    wrow_close
    exact h x hx fun p => (sx p).mono (by decide)
  | never S =>
    wrow_close
    refine w_chances A hc (hS S rfl) fun x hx sx => ?_
    rw [show (List.range c.length).map (fun p => num (x p)) = ((List.range c.length).map x).map num from by rw [List.map_map]; rfl]
    wrow_close
    refine ⟨by omega, ?_⟩
    refine ok_comp1 (fun q => num (1 - q)) (fun q hq => ?_) ?_
    · obtain ⟨p, _, rfl⟩ := List.mem_map.mp hq
      wrow_close
      refine w_minus (p := 1) sz_one (sx p) (by decide) ?_
      wrow_close
    wrow_close
    have := h (fun p => 1 - x p) (by
      show IsCh c S fun p => 1 - (1 - x p)
      have e : (fun p => 1 - (1 - x p)) = x := by funext p; grind
      rw [e]
      exact hx) fun p => by
        have h1 : (1 : Rat) - x p = 1 + (-1) * x p := by grind
        have h2 := sx p
        have : Sz 2647 (-x p) := ⟨by rw [(neg_nums (x p)).1, Int.natAbs_neg]; exact h2.1, by rw [(neg_nums (x p)).2]; exact h2.2⟩
        have h3 := add_sz sz_one this
        have h4 : (1 : Rat) + -x p = 1 - x p := by grind
        rw [h4] at h3
        exact h3.mono (by decide)
    rw [List.map_map]
    exact this
theorem eqv_nat {a b : Nat} {n : Bool} {K : PD → Prop} : Ok (gEqN n (.int (a : Int)) (.int (b : Int))) K ↔ K (.bool (n != decide (a = b))) := by
  rw [o_eqI]
  have : decide ((a : Int) = (b : Int)) = decide (a = b) := decide_eq_decide.mpr (by omega)
  rw [this]
theorem zip_tail {r : List Nat} : zipD (encK r) ((encK r).drop 1) = (List.range (r.length - 1)).map fun i => PyData.tuple [.int (r.getD i 0 : Nat), .int (r.getD (i + 1) 0 : Nat)] := by
  unfold zipD
  refine List.ext_getElem? fun j => ?_
  by_cases hj : j + 1 < r.length
  · rw [List.getElem?_map, List.getElem?_range (by omega), List.getElem?_zipWith]
    unfold encK
    rw [List.getElem?_drop, List.getElem?_map, List.getElem?_map, List.getElem?_eq_getElem (by omega), Nat.add_comm 1 j, List.getElem?_eq_getElem hj]
    show some (PyData.tuple [.int (r[j] : Nat), .int (r[j + 1] : Nat)]) = some (PyData.tuple [.int (r.getD j 0 : Nat), .int (r.getD (j + 1) 0 : Nat)])
    rw [getD_of (by omega), getD_of hj]
  · rw [List.getElem?_eq_none (by simp; omega), List.getElem?_eq_none (by simp; omega)]
theorem w_first_wrong {c : List Plc} (A : CW c) (hc : c.length ≤ 10) {r : List Nat} (R : IsRun c r) (hr : r.length ≤ 100) {Q : PD → Prop} (h : Q .none) : Ok (f_first_wrong [encC c, nats r]) Q := by
  unfold f_first_wrong d_first_wrong
  have bl : ∀ p, p < c.length → (cAt c p).br.length ≤ 1000 := fun p hp => by have := (A p hp).len; omega
  wrow_close
  refine ok_forE (fun i S => ∃ a b : Option PD, S = [.sh (encC c), .sh (nats r), fv a, fv b]) ⟨none, none, rfl⟩ (fun i hi S hS => ?_) (fun S hS => ?_)
  · obtain ⟨a, b, rfl⟩ := hS
    have hi' : i < r.length := by simpa using hi
    have eg : (r.map fun (i : Nat) => PyData.int (i : Int))[i] = .int (r.getD i 0 : Nat) := by rw [List.getElem_map, getD_of hi']
    rw [eg]
    wrow_close
    refine ⟨fun h0 => ?_, fun h0 => ?_⟩
    · wrow_close
      refine ⟨fun _ => ?_, fun z => absurd (Nat.zero_le _) z⟩
      wrow_close
      refine ⟨fun _ => ?_, fun z => absurd (R.at hi') z⟩
      wrow_close
      exact ⟨some _, some _, rfl⟩
    · have e1 : (i : Int) - 1 = ((i - 1 : Nat) : Int) := by omega
      have hi2 : i - 1 < r.length := by omega
      wrow_close
      rw [e1]
      wrow_close
      rw [nat_at (ds := r) (i - 1) hi2]
      wrow_close
      have hp := R.at hi2
      refine Ok_of (w_targetsC hp (bl _ hp)) ?_
      wrow_close
      refine ⟨⟨rfl, shp_nats⟩, ?_⟩
      rw [any_eqv]
      have mt : r.getD i 0 ∈ ctg c (r.getD (i - 1) 0) := by
        have := R.go (i - 1) (by omega)
        rwa [show i - 1 + 1 = i by omega] at this
      rw [decide_eq_true mt]
      wrow_close
      exact ⟨some _, some _, rfl⟩
  · obtain ⟨a, b, rfl⟩ := hS
    wrow_close
    exact h
theorem w_chances_to {c : List Plc} {p : Nat} (hp : p < c.length) (hb : (cAt c p).br ≠ []) {Q : List PD → Prop} (h : Q ((cAt c p).br.map encB)) : Ok (f_chances_to [encC c, .int (p : Int)]) Q := by
  unfold f_chances_to d_chances_to
  have e : (c.map Plc.enc)[p]? = some (cAt c p).enc := by rw [List.getElem?_map, cAt_of hp]; rfl
  generalize cAt c p = x at e h hb
  cases x with
  | fin => exact absurd rfl hb
  | lose => exact absurd rfl hb
  | rew r t => wrow_close; (repeat (simp only [e]; wrow_close)); exact h
  | draw bs => wrow_close; (repeat (simp only [e]; wrow_close)); exact h
theorem intoB_snoc {bs : List (Rat × Nat)} {b : Rat × Nat} {G : List Nat} : intoB (bs ++ [b]) G = intoB bs G + (if b.2 ∈ G then b.1 else 0) := by
  unfold intoB
  rw [List.filter_append, List.map_append, sumQ_append]
  congr 1
  by_cases h : b.2 ∈ G
  · rw [List.filter_cons_of_pos (by simpa using h), if_pos h]
    show sumQ [b.1] = b.1
    rw [sumQ_cons, sumQ_nil]
    grind
  · rw [List.filter_cons_of_neg (by simpa using h), if_neg h]
    rfl
/-- sums of part of a place's chances -/
theorem part_sz {n : Nat} {x : Plc} (A : PW n x) (l t : Nat) : Sz 5 (intoB (x.br.take l) [t]) := by
  obtain ⟨n1, n2⟩ := A.nn
  obtain ⟨D, d1, d2, d3⟩ := A.den
  obtain ⟨v, hv⟩ := intoB_D (D := D) (G := [t]) (bs := x.br.take l) fun b hb => d3 b (List.mem_of_mem_take hb)
  obtain ⟨b1, b2⟩ := intoB_nn (G := [t]) (bs := x.br.take l) fun b hb => n1 b (List.mem_of_mem_take hb)
  have a2 := take_sum_le n1 l
  have := v_bound d1 (q := intoB (x.br.take l) [t]) (by grind) (by grind) hv
  exact sz5 d1 d2 (by omega) hv
theorem br_sz {n : Nat} {x : Plc} (A : PW n x) {b : Rat × Nat} (hb : b ∈ x.br) : Sz 5 b.1 := by
  obtain ⟨n1, n2⟩ := A.nn
  obtain ⟨D, d1, d2, d3⟩ := A.den
  obtain ⟨v, hv⟩ := d3 b hb
  have := v_bound d1 (br_le_one n1 n2 b hb) (by have := n1 b hb; grind) hv
  exact sz5 d1 d2 (by omega) hv
theorem w_step_chance {c : List Plc} (A : CW c) {p t : Nat} (hp : p < c.length) (hb : (cAt c p).br ≠ []) {Q : PD → Prop} (h : Q (num (stp c p t))) : Ok (f_step_chance [encC c, .int (p : Int), .int (t : Int)]) Q := by
  unfold f_step_chance d_step_chance
  wrow_close
  refine w_chances_to hp hb ?_
  refine ok_for (enc := encB) (l := (cAt c p).br) (fun i S => ∃ a b : Option PD, S = [.sh (encC c), .sh (.int (p : Int)), .sh (.int (t : Int)), .sh (num (intoB ((cAt c p).br.take i) [t])), fv a, fv b]) ⟨none, none, rfl⟩ (fun i hi S hS => ?_) (fun S hS => ?_)
  · obtain ⟨a, b, rfl⟩ := hS
    have hm : (cAt c p).br[i] ∈ (cAt c p).br := List.getElem_mem hi
    have e1 : intoB ((cAt c p).br.take (i + 1)) [t] = intoB ((cAt c p).br.take i) [t] + (if (cAt c p).br[i].2 ∈ [t] then (cAt c p).br[i].1 else 0) := by
      rw [List.take_succ_eq_append_getElem hi, intoB_snoc]
    have s1 := part_sz (A p hp) i t
    have s2 := br_sz (A p hp) hm
    generalize (cAt c p).br[i] = d at e1 s2
    rw [show encB d = .tuple [num d.1, .int (d.2 : Int)] from rfl]
    wrow_close
    refine ⟨fun z => ?_, fun z => ?_⟩
    · wrow_close
      refine w_plus s1 s2 (by decide) ?_
      wrow_close
      rw [if_pos (List.mem_singleton.mpr z)] at e1
      exact ⟨some _, some _, by rw [e1]; rfl⟩
    · wrow_close
      rw [if_neg (fun w => z (List.mem_singleton.mp w))] at e1
      exact ⟨some _, some _, by rw [e1, Rat.add_zero]; rfl⟩
  · obtain ⟨a, b, rfl⟩ := hS
    rw [List.take_of_length_le (Nat.le_refl _)]
    wrow_close
    exact h
theorem run_br {c : List Plc} {r : List Nat} (R : IsRun c r) {i : Nat} (hi : i + 1 < r.length) : (cAt c (r.getD i 0)).br ≠ [] := fun z => by
  have := R.go i hi
  unfold ctg at this
  rw [z] at this
  cases this
theorem w_chance_of {c : List Plc} (A : CW c) (hc : c.length ≤ 10) {r : List Nat} (R : IsRun c r) (hr : r.length ≤ 5) {Q : PD → Prop} (h : Q (num (rcp c r (r.length - 1)))) : Ok (f_chance_of [encC c, nats r]) Q := by
  unfold f_chance_of d_chance_of
  wrow_close
  refine w_first_wrong A hc R (by omega) ?_
  wrow_close
  rw [show isNone .none = true from rfl]
  wrow_close
  rw [show r.map (fun (i : Nat) => PyData.int (i : Int)) = encK r from rfl]
  have ez := zip_tail (r := r)
  have e1 : (encK r).drop 1 = encK (r.drop 1) := List.map_drop.symm
  rw [e1] at ez
  first | rw [ez] | skip
  refine ok_for (enc := fun i : Nat => PyData.tuple [.int (r.getD i 0 : Nat), .int (r.getD (i + 1) 0 : Nat)]) (l := List.range (r.length - 1)) (fun i S => ∃ a b : Option PD, S = [.sh (encC c), .sh (nats r), .sh .none, .sh (num (rcp c r i)), fv a, fv b]) ⟨none, none, rfl⟩ (fun i hi S hS => ?_) (fun S hS => ?_)
  · obtain ⟨a, b, rfl⟩ := hS
    have hi : i + 1 < r.length := by rw [List.length_range] at hi; omega
    rw [List.getElem_range]
    have hp := R.at (show i < r.length by omega)
    wrow_close
    refine w_step_chance A hp (run_br R hi) ?_
    wrow_close
    refine w_times (rcp_sz A R i (by omega)).1 (stp_sz A hp).1 (by omega) ?_
    wrow_close
    exact ⟨some _, some _, rfl⟩
  · obtain ⟨a, b, rfl⟩ := hS
    rw [List.length_range]
    wrow_close
    exact h
/-- what is told of the run, the condition given -/
theorem any_held {r : List Nat} {y : Nat → Rat} : (r.map fun p => PyData.bool (decide (y p = 0))) = (r.map fun p => decide (y p = 0)).map PyData.bool := by rw [List.map_map]; rfl
theorem held_at {n : Nat} {y : Nat → Rat} {p : Nat} (hp : p < n) : ((List.range n).map fun p => num (y p))[p]? = some (num (y p)) := by
  rw [List.getElem?_map, List.getElem?_range hp]
  rfl
theorem w_check_held {c : List Plc} (A : CW c) (hc : c.length ≤ 10) {cd : Cnd} (hS : ∀ S, cd = .never S → S.length ≤ 1000) {p : Nat} (hp : p < c.length) (h0 : ∀ y, IsHeld c cd y → y p ≠ 0) {Q : PD → Prop}
    (h : ∀ y : Nat → Rat, IsHeld c cd y → (∀ p, Sz 2649 (y p)) → Q (.list ((List.range c.length).map fun p => num (y p)))) : Ok (f_check_held [encC c, .int (p : Int), cd.enc]) Q := by
  unfold f_check_held d_check_held
  wrow_close
  refine w_chances_of A hc hS fun y hy sy => ?_
  wrow_close
  rw [held_at hp, show (PyData.tuple [.int 0, .int 1]) = num 0 from rfl]
  wrow_close
  refine (o_eqNum (n := false)).mpr ?_
  wrow_close
  refine ⟨fun z => absurd z (h0 y hy), fun _ => ?_⟩
  wrow_close
  exact h y hy sy
theorem IsHeld.unique {c : List Plc} (A : CW c) {cd : Cnd} {x y : Nat → Rat} (hx : IsHeld c cd x) (hy : IsHeld c cd y) : ∀ p, p < c.length → x p = y p := fun p hp => by
  cases cd with
  | fin => exact IsCh.unique A hx hy p hp
  | lose => exact IsCh.unique A hx hy p hp
  | never S =>
    have := IsCh.unique A (show IsCh c S fun p => 1 - x p from hx) (show IsCh c S fun p => 1 - y p from hy) p hp
    have this : 1 - x p = 1 - y p := this
    grind
theorem any_congr' {r : List Nat} {x y : Nat → Rat} (h : ∀ p ∈ r, x p = y p) : r.any (fun p => decide (x p = 0)) = r.any fun p => decide (y p = 0) := by
  induction r with
  | nil => rfl
  | cons a t ih => rw [List.any_cons, List.any_cons, h a List.mem_cons_self, ih fun p hp => h p (List.mem_cons_of_mem _ hp)]
theorem w_run_chance_given {c : List Plc} (A : CW c) (hc : c.length ≤ 10) {cd : Cnd} (hS : ∀ S, cd = .never S → S.length ≤ 1000) {r : List Nat} (R : IsRun c r) (hr : r.length ≤ 5) {y : Nat → Rat} (hy : IsHeld c cd y) (h0 : y (r.getD 0 0) ≠ 0) {Q : PD → Prop}
    (h : Q (num (partV c r y / y (r.getD 0 0)))) : Ok (f_run_chance_given [encC c, nats r, cd.enc]) Q := by
  unfold f_run_chance_given d_run_chance_given
  have rn := R.ne
  have hp := R.at rn
  wrow_close
  refine w_chance_of A hc R hr ?_
  wrow_close
  rw [show ((r.map fun (i : Nat) => PyData.int (i : Int))[0]?) = some (.int (r.getD 0 0 : Nat)) from nat_at 0 rn]
  wrow_close
  refine w_check_held A hc hS hp (fun x hx => by rw [IsHeld.unique A hx hy _ hp]; exact h0) fun x hx sx => ?_
  have ex : ∀ p ∈ r, x p = y p := fun p hp => IsHeld.unique A hx hy p (R.lt p hp)
  have hl : r.length - 1 < r.length := by omega
  have hm : ∀ i, i < r.length → r.getD i 0 ∈ r := fun i hi => by rw [getD_of hi]; exact List.getElem_mem hi
  have pv : partV c r y = partV c r x := by
    unfold partV
    rw [any_congr' ex, ex _ (hm _ hl)]
  rw [pv, ← ex _ (hm 0 rn)] at h
  rw [← ex _ (hm 0 rn)] at h0
  have em : (List.range c.length).map (fun p => num (x p)) = ((List.range c.length).map x).map num := by rw [List.map_map]; rfl
  wrow_close
  refine ⟨by omega, ?_⟩
  refine ok_comp1 (fun (p : Nat) => PyData.bool (decide (x p = 0))) (fun p hp => ?_) ?_
  · wrow_close
    rw [held_at (R.lt p hp), show (PyData.tuple [.int 0, .int 1]) = num 0 from rfl]
    wrow_close
    refine (o_eqNum (n := false)).mpr ?_
    wrow_close
  rw [any_held]
  wrow_close
  rw [any_map]
  unfold partV at h
  refine ⟨fun z => ?_, fun z => ?_⟩
  · rw [if_pos z] at h
    wrow_close
    have : (0 : Rat) / x (r.getD 0 0) = 0 := by grind
    rw [this] at h
    exact h
  · rw [if_neg (by rw [z]; decide)] at h
    have el : (r.map fun (i : Nat) => PyData.int (i : Int)).getLast? = some (.int (r.getD (r.length - 1) 0 : Nat)) := by
      rw [List.getLast?_eq_getElem?, List.length_map]
      exact nat_at _ hl
    wrow_close
    rw [el]
    wrow_close
    rw [held_at (R.at hl)]
    wrow_close
    have cs := (rcp_sz A R (r.length - 1) hl).1
    refine w_times cs (sx _) (by omega) ?_
    wrow_close
    rw [show ((r.map fun (i : Nat) => PyData.int (i : Int))[0]?) = some (.int (r.getD 0 0 : Nat)) from nat_at 0 rn]
    wrow_close
    rw [held_at hp]
    wrow_close
    refine w_divided (mul_sz cs (sx _)) (sx _) h0 (by omega) ?_
    wrow_close
    exact h
/-- the stream: the script, the place in it, the number that is being used up -/
def strm (ns : List Int) (a : Nat) (b : Int) : List PD := [.list (ns.map PyData.int), .int (a : Int), .int b]
def Strm (ns : List Int) (xs : List PD) : Prop := ∃ a b, xs = strm ns a b
theorem w__law_draw {ns : List Int} {xs : List PD} {m : Nat} (hm : 1 ≤ m) (hm2 : m < 1000) (hs : Strm ns xs) {Q : PD × List PD → Prop} (h : ∀ (v : Nat) ys, v < m → Strm ns ys → Q (.int (v : Int), ys)) : Ok (f__law_draw [.list xs, .int (m : Int)]) Q := by
  obtain ⟨a, b, rfl⟩ := hs
  unfold f__law_draw d__law_draw strm
  have p18 : (10 : Int) ^ 18 = 1000000000000000000 := by decide
  have lm : ((m : Nat) : Int).natAbs.log2 < 9000 := by
    rw [Int.natAbs_natCast]
    have := log2_le (n := m) (k := 10) (by omega)
    omega
  have last : ∀ (b : Int) (a : Nat), Q (.int (b % (m : Int)), [.list (ns.map PyData.int), .int (a : Int), .int (b / (m : Int))]) := fun b a => by
    have h0 := Int.emod_nonneg b (show (m : Int) ≠ 0 by omega)
    have h1 := Int.emod_lt_of_pos b (show (0 : Int) < (m : Int) by omega)
    have e : b % (m : Int) = ((b % (m : Int)).toNat : Int) := (Int.toNat_of_nonneg h0).symm
    rw [e]
    exact h _ _ (by omega) ⟨a, b / (m : Int), rfl⟩
  have i1 : ixN 3 1 = some 1 := rfl
  have i2 : ixN 3 2 = some 2 := rfl
  have i1' : ixN [PyData.list (ns.map PyData.int), PyData.int (a : Int), PyData.int b].length 1 = some 1 := rfl
  have mid : ∀ cell : Int, Ok ((sSeq (sSto 0 (eOp gAdd (eIxO 0 (eC (.int 1))) (eC (.int 1))) (eC (.int 1))) <|
  sSeq (sSto 0 (eNm 2) (eC (.int 2))) <|
  sIf (eB (eOp gLt (eNm 2) (eOp gPow (eC (.int 10)) (eC (.int 18)))))
  (sSeq (sSet 3 (eOp gMod (eCall gInt (aCons (eOp gAdd (eOp gMul (eNm 2) (eC (.int 48271))) (eOp gMul (eIxO 0 (eC (.int 1))) (eC (.int 69621)))) (aNil))) (eC (.int 2147483647)))) <|
  sSeq (sSet 4 (eOp gMod (eCall gInt (aCons (eOp gAdd (eOp gAdd (eOp gMul (eNm 3) (eC (.int 40692))) (eOp gMul (eNm 2) (eC (.int 7)))) (eC (.int 5))) (aNil))) (eC (.int 2147483399)))) <|
  sSto 0 (eOp gAdd (eOp gAdd (eOp gMul (eNm 4) (eC (.int 2147483563))) (eNm 3)) (eOp gPow (eC (.int 10)) (eC (.int 18)))) (eC (.int 2)))
  (sNil)) [.ow [.list (ns.map PyData.int), .int (a : Int), .int b], .sh (.int (m : Int)), .sh (.int cell), .no, .no, .no])
    (sK (sSeq (sSet 5 (eOp gMod (eCall gInt (aCons (eIxO 0 (eC (.int 2))) (aNil))) (eNm 1))) <|
  sSeq (sSto 0 (eOp gDiv (eCall gInt (aCons (eIxO 0 (eC (.int 2))) (aNil))) (eNm 1)) (eC (.int 2))) <|
  sRet (eNm 5)) (kI Q)) := fun cell => by
    wrow_close
    refine Ok_of i1 ?_
    wrow_close
    refine Ok_of i2 ?_
    wrow_close
    refine ⟨⟨by decide, by decide, by decide⟩, fun hc => ?_, fun hc => ?_⟩
    · wrow_close
      refine ⟨okMul_r (by decide), okMul_r (by decide), by decide, okMul_r (by decide), okMul_r (by decide), by decide, okMul_r (by decide), ⟨by decide, by decide, by decide⟩, Ok_of i2 ?_⟩
      wrow_close
      refine ⟨by omega, ⟨by omega, .inl lm⟩, Ok_of i2 ?_⟩
      wrow_close
      exact last _ _
    · wrow_close
      refine ⟨by omega, ⟨by omega, .inl lm⟩, Ok_of i2 ?_⟩
      wrow_close
      exact last _ _
  wrow_close
  refine ⟨fun hb => ?_, fun hb => ?_⟩
  · refine ⟨fun ha => ?_, fun ha => ?_⟩
    · have e : (ns.map PyData.int)[a]? = some (.int ns[a]) := by rw [List.getElem?_map, List.getElem?_eq_getElem ha]; rfl
      exact Ok_of e (mid ns[a])
    · refine Ok_of i1 ?_
      wrow_close
      refine Ok_of i2 ?_
      wrow_close
      refine ⟨⟨by decide, by decide, by decide⟩, fun hc => ?_, fun hc => ?_⟩
      · wrow_close
        refine ⟨okMul_r (by decide), okMul_r (by decide), by decide, okMul_r (by decide), okMul_r (by decide), by decide, okMul_r (by decide), ⟨by decide, by decide, by decide⟩, Ok_of i2 ?_⟩
        wrow_close
        refine ⟨by omega, ⟨by omega, .inl lm⟩, Ok_of i2 ?_⟩
        wrow_close
        exact last _ _
      · wrow_close
        refine ⟨by omega, ⟨by omega, .inl lm⟩, Ok_of i2 ?_⟩
        wrow_close
        exact last _ _
  · wrow_close
    refine ⟨by omega, ⟨by omega, .inl lm⟩, Ok_of i2 ?_⟩
    wrow_close
    exact last _ _
theorem w__law_shares {ns : List Int} {xs : List PD} {m : Nat} (hm : 1 ≤ m) (hm2 : m ≤ 6) (hs : Strm ns xs) {Q : List PD × List PD → Prop} (h : ∀ qs ys, Shr m qs → Strm ns ys → Q (qs.map num, ys)) : Ok (f__law_shares [.list xs, .int (m : Int)]) Q := by
  unfold f__law_shares d__law_shares
  wrow_close
  refine ⟨by omega, by omega, ?_⟩
  refine ok_compIR (enc := fun (x : Nat) => PyData.int (x : Int)) (fun i (ps : List Nat) S => ∃ xs, S = [.ow xs, .sh (.int (m : Int)), .no, .no, .no] ∧ Strm ns xs ∧ ps.length = i ∧ ∀ x ∈ ps, 1 ≤ x ∧ x ≤ 3) ⟨xs, rfl, hs, rfl, fun x hx => by cases hx⟩ (fun i hi ps S hS => ?_) fun ps S hS => ?_
  · obtain ⟨xs, rfl, sx, hl, hp⟩ := hS
    wrow_close
    refine w__law_draw (m := 3) (by decide) (by decide) sx fun v ys hv sy => ?_
    wrow_close
    refine ⟨1 + v, rfl, ys, rfl, sy, by rw [List.length_append]; show _ + 1 = _; omega, fun x hx => ?_⟩
    rcases List.mem_append.mp hx with z | z
    · exact hp x z
    · rw [List.mem_singleton.mp z]
      omega
  · obtain ⟨ys, rfl, sy, hl, hp⟩ := hS
    have sh := shr_of (ps := ps) (by omega) (by omega) hp
    rw [hl] at sh
    have hsum : ps.sum ≤ ps.length * 3 := sum_le fun x hx => (hp x hx).2
    have hpos : 0 < ps.sum := by
      have h0 : 0 < ps.length := by omega
      have := le_sum (List.getElem_mem h0)
      have := hp _ (List.getElem_mem h0)
      omega
    wrow_close
    refine ⟨by omega, ?_⟩
    refine ok_comp1 (enc := fun (i : Nat) => PyData.int (i : Int)) (fun (x : Nat) => num (Rat.divInt (x : Int) ((ps.sum : Nat) : Int))) (fun x hx => ?_) ?_
    · have h1 := le_sum hx
      have h3 : ((x : Nat) : Int).natAbs < 2 ^ 6 := by rw [Int.natAbs_natCast]; omega
      have h4 : ((ps.sum : Nat) : Int).natAbs < 2 ^ 6 := by rw [Int.natAbs_natCast]; omega
      wrow_close
      refine w__law_number (k := 6) (by omega) h3 h4 (by decide) ?_
      wrow_close
    rw [show ps.map (fun (x : Nat) => num (Rat.divInt (x : Int) ((ps.sum : Nat) : Int))) = (ps.map fun (x : Nat) => Rat.divInt (x : Int) ((ps.sum : Nat) : Int)).map num from by rw [List.map_map]; rfl]
    wrow_close
    exact h _ _ sh sy
theorem w__law_less {p q : Rat} {k m : Nat} (hp : Sz k p) (hq : Sz m q) (hk : k + m < 1000000) {Q : PD → Prop} (h : Q (.bool (decide (p < q)))) : Ok (f__law_less [num p, num q]) Q := by
  unfold f__law_less d__law_less num
  close_w
  refine ⟨okMul_of hp.1 (natCast_lt hq.2) hk, okMul_of hq.1 (natCast_lt hp.2) (by omega), ?_⟩
  rw [show decide (p.num * (q.den : Int) < q.num * (p.den : Int)) = decide (p < q) from decide_eq_decide.mpr (Rat.lt_iff _ _).symm]
  exact h
theorem w__law_targets {x : Plc} (hl : x.br.length ≤ 1000) {Q : List PD → Prop} (h : Q (encK (x.br.map (·.2)))) : Ok (f__law_targets [x.enc]) Q := by
  unfold f__law_targets d__law_targets
  cases x with
  | draw bs =>
    have hl : bs.length ≤ 1000 := hl
    wrow_close
    refine ⟨by omega, ?_⟩
    refine ok_comp1 (fun b => PyData.int (b.2 : Int)) (fun b hb => ?_) ?_
    · unfold encB
      wrow_close
    · wrow_close
      have e2 : bs.map (fun b => PyData.int (b.2 : Int)) = encK ((Plc.draw bs).br.map (·.2)) := by
        unfold encK
        rw [List.map_map]
        rfl
      rw [e2]
      exact h
  | _ => wrow_close; exact h
theorem six_b {v : Nat} (h : v < 6) : ∃ n : Nat, 1 ≤ n ∧ n ≤ 6 ∧ [PyData.int 1, PyData.int 2, PyData.int 2, PyData.int 3, PyData.int 2, PyData.int 6][v]? = some (.int (n : Int)) :=
  match v, h with
  | 0, _ => ⟨1, by decide, by decide, rfl⟩
  | 1, _ => ⟨2, by decide, by decide, rfl⟩
  | 2, _ => ⟨2, by decide, by decide, rfl⟩
  | 3, _ => ⟨3, by decide, by decide, rfl⟩
  | 4, _ => ⟨2, by decide, by decide, rfl⟩
  | 5, _ => ⟨6, by decide, by decide, rfl⟩
  | _ + 6, h => by omega
/-- a place of a chain as k72 draws it -/
structure PD1 (n : Nat) (x : Plc) : Prop where
  w : PW n x
  e : x.br = [] → x.isFin = true ∨ x.isLose = true
theorem pd_rew {n t : Nat} {r : Rat} (ht : t < n) : PD1 n (.rew r t) :=
  ⟨⟨by show 1 ≤ 6; decide, .inr ⟨fun b hb => by
    rw [List.mem_singleton.mp hb]
    exact ⟨(by show (0 : Rat) < 1; decide), ht⟩, by show sumQ [1] = 1; rw [sumQ_cons, sumQ_nil]; grind⟩, 1, by decide, by decide, fun b hb => by
    rw [List.mem_singleton.mp hb]
    exact ⟨1, Rat.one_mul _⟩⟩, fun z => by cases z⟩
theorem pd_end {n : Nat} {x : Plc} (h : x.br = []) (e : x.isFin = true ∨ x.isLose = true) : PD1 n x := ⟨⟨by rw [h]; decide, .inl h, 1, by decide, by decide, fun b hb => by rw [h] at hb; cases hb⟩, fun _ => e⟩
theorem pd_draw {n m : Nat} {qs : List Rat} {bs : List (Rat × Nat)} (sh : Shr m qs) (m1 : 1 ≤ m) (m6 : m ≤ 6) (e : bs.map (·.1) = qs) (ht : ∀ b ∈ bs, b.2 < n) : PD1 n (.draw bs) := by
  have hl : bs.length = m := by rw [← sh.len, ← e, List.length_map]
  have mem : ∀ b ∈ bs, b.1 ∈ qs := fun b hb => by rw [← e]; exact List.mem_map.mpr ⟨b, hb, rfl⟩
  obtain ⟨D, d1, d2, d3⟩ := sh.den
  refine ⟨⟨by show bs.length ≤ 6; omega, .inr ⟨fun b hb => ⟨sh.pos _ (mem b hb), ht b hb⟩, ?_⟩, D, d1, d2, fun b hb => d3 _ (mem b hb)⟩, fun z => ?_⟩
  · show sumQ (bs.map (·.1)) = 1
    rw [e]
    exact sh.one
  · have z : bs = [] := z
    rw [z] at hl
    change 0 = m at hl
    omega
theorem w__law_place {ns : List Int} {xs : List PD} {n : Nat} {s : String} (hk : s ∈ ["draw", "reward", "finish", "lose"]) (n1 : 1 ≤ n) (hn : n ≤ 100) (hs : Strm ns xs) {Q : PD × List PD → Prop} (h : ∀ x ys, PD1 n x → Strm ns ys → Q (x.enc, ys)) : Ok (f__law_place [.list xs, .str s, .int (n : Int)]) Q := by
  unfold f__law_place d__law_place
  simp only [List.mem_cons, List.not_mem_nil, or_false] at hk
  rcases hk with rfl | rfl | rfl | rfl
  · wrow_close
    refine w__law_draw (m := 6) (by decide) (by decide) hs fun w zs hw sz => ?_
    obtain ⟨m, m1, m2, e1⟩ := six_b hw
    wrow_close
    rw [e1]
    wrow_close
    refine w__law_shares m1 m2 sz fun qs us sh su => ?_
    have shl := sh.len
    wrow_close
    refine ⟨by omega, ?_⟩
    refine ok_compI (enc := encB) (en := num) (l := qs) (fun i (bs : List (Rat × Nat)) S => ∃ xs, S = [.ow xs, .sh (.str "draw"), .sh (.int (n : Int)), .sh (.list (qs.map num)), .no, .no, .no] ∧ Strm ns xs ∧ bs.map (·.1) = qs.take i ∧ ∀ b ∈ bs, b.2 < n) ⟨us, rfl, su, by rw [List.take_zero]; rfl, fun b hb => by cases hb⟩ (fun i hi bs S hS => ?_) fun bs S hS => ?_
    · obtain ⟨xs, rfl, sx, eb, tb⟩ := hS
      have etk : qs.take (i + 1) = qs.take i ++ [qs[i]] := List.take_succ_eq_append_getElem hi
      generalize qs[i] = q at etk
      wrow_close
      refine w__law_draw (m := n) n1 (by omega) sx fun t ys ht sy => ?_
      wrow_close
      refine ⟨(q, t), rfl, ys, rfl, sy, by rw [List.map_append, eb, etk]; rfl, fun b hb => ?_⟩
      rcases List.mem_append.mp hb with z | z
      · exact tb b z
      · rw [List.mem_singleton.mp z]; exact ht
    · obtain ⟨xs, rfl, sx, eb, tb⟩ := hS
      rw [List.take_of_length_le (Nat.le_refl _)] at eb
      wrow_close
      exact h (.draw bs) _ (pd_draw sh m1 m2 eb tb) sx
  · wrow_close
    refine w__law_draw (m := 5) (by decide) (by decide) hs fun a zs ha sz => ?_
    wrow_close
    refine w__law_draw (m := 3) (by decide) (by decide) sz fun d us hd su => ?_
    wrow_close
    have h3 : ((a : Nat) : Int).natAbs < 2 ^ 6 := by rw [Int.natAbs_natCast]; omega
    have h4 : ((1 + d : Nat) : Int).natAbs < 2 ^ 6 := by rw [Int.natAbs_natCast]; omega
    refine w__law_number (k := 6) (by omega) h3 h4 (by decide) ?_
    wrow_close
    refine w__law_draw (m := n) n1 (by omega) su fun t ys ht sy => ?_
    wrow_close
    exact h (.rew _ _) _ (pd_rew ht) sy
  · wrow_close
    exact h .fin _ (pd_end rfl (.inl rfl)) hs
  · wrow_close
    exact h .lose _ (pd_end rfl (.inr rfl)) hs
theorem six_k {v : Nat} (h : v < 6) : ∃ s : String, s ∈ ["draw", "reward", "finish", "lose"] ∧ [PyData.str "draw", PyData.str "draw", PyData.str "draw", PyData.str "reward", PyData.str "finish", PyData.str "lose"][v]? = some (.str s) :=
  match v, h with
  | 0, _ => ⟨_, by decide, rfl⟩
  | 1, _ => ⟨_, by decide, rfl⟩
  | 2, _ => ⟨_, by decide, rfl⟩
  | 3, _ => ⟨_, by decide, rfl⟩
  | 4, _ => ⟨_, by decide, rfl⟩
  | 5, _ => ⟨_, by decide, rfl⟩
  | _ + 6, h => by omega
theorem w__law_game {ns : List Int} {xs : List PD} (hs : Strm ns xs) {Q : List PD × List PD → Prop} (h : ∀ (c : List Plc) ys, CD c → 1 ≤ c.length → c.length ≤ 10 → Strm ns ys → Q (c.map Plc.enc, ys)) : Ok (f__law_game [.list xs, .int 5, .list [.str "draw", .str "draw", .str "draw", .str "reward", .str "finish", .str "lose"]]) Q := by
  unfold f__law_game d__law_game
  wrow_close
  refine w__law_draw (m := 5) (by decide) (by decide) hs fun v ys hv sy => ?_
  wrow_close
  refine w__law_draw (m := 16) (by decide) (by decide) sy fun w zs hw sz => ?_
  have fin : ∀ (n : Nat) (c : List Plc), 1 ≤ n → n ≤ 10 → c.length = n → (∀ p, p < n → PD1 n (cAt c p)) → ∀ ys, Strm ns ys → Q (c.map Plc.enc, ys) := fun n c n1 n2 cl hc ys sy =>
    h c ys ⟨fun p hp => by rw [cl] at hp ⊢; exact (hc p hp).w, fun p hp e => (hc p (by omega)).e e⟩ (by omega) (by omega) sy
  wrow_close
  refine ⟨fun _ => ?_, fun _ => ?_⟩
  · have n1 : 1 ≤ 10 := by decide
    have n2 : 10 ≤ 10 := by decide
    wrow_close
    refine ok_compIR (n := 10) (enc := Plc.enc) (fun i (c : List Plc) S => ∃ xs, S = [.ow xs, .sh (.int 5), .sh (.list [.str "draw", .str "draw", .str "draw", .str "reward", .str "finish", .str "lose"]), .sh (.int 10), .no, .no] ∧ Strm ns xs ∧ c.length = i ∧ ∀ p, p < i → PD1 10 (cAt c p)) ⟨zs, rfl, sz, rfl, fun p hp => by omega⟩ (fun i hi c S hS => ?_) fun c S hS => ?_
    · obtain ⟨xs, rfl, sx, cl, hc⟩ := hS
      wrow_close
      refine w__law_draw (m := 6) (by decide) (by decide) sx fun u ys hu sy => ?_
      obtain ⟨s, hs', es⟩ := six_k hu
      wrow_close
      rw [es]
      wrow_close
      refine w__law_place (n := 10) hs' n1 (by omega) sy fun x us hx su => ?_
      wrow_close
      refine ⟨x, rfl, us, rfl, su, by rw [List.length_append]; show _ + 1 = _; omega, fun p hp => ?_⟩
      by_cases e : p < c.length
      · have : cAt (c ++ [x]) p = cAt c p := by
          unfold cAt
          rw [getD_app_l e]
        rw [this]
        exact hc p (by omega)
      · have ep : p = c.length := by omega
        have : cAt (c ++ [x]) p = x := by
          unfold cAt
          exact getD_app_r ep
        rw [this]
        exact hx
    · obtain ⟨xs, rfl, sx, cl, hc⟩ := hS
      wrow_close
      refine w__law_draw (m := 3) (by decide) (by decide) sx fun u ys hu sy => ?_
      wrow_close
      refine ⟨fun hu0 => ?_, fun hu0 => ?_⟩
      · wrow_close
        refine Ok_of (ixN_nat (show 10 - 1 < c.length by omega)) ?_
        wrow_close
        rw [show (c.map Plc.enc).set (10 - 1) (.tuple [.str "finish"]) = (c.set (10 - 1) .fin).map Plc.enc from by rw [List.map_set]; rfl]
        refine fin 10 (c.set (10 - 1) .fin) n1 n2 (by rw [List.length_set]; exact cl) (fun p hp => ?_) ys sy
        by_cases e : p = 10 - 1
        · have : cAt (c.set (10 - 1) .fin) p = .fin := by
            unfold cAt
            rw [e, List.getD_eq_getElem?_getD, List.getElem?_set_self (by omega)]
            rfl
          rw [this]
          exact pd_end rfl (.inl rfl)
        · have : cAt (c.set (10 - 1) .fin) p = cAt c p := by
            unfold cAt
            rw [List.getD_eq_getElem?_getD, List.getElem?_set_ne (fun z => e z.symm), ← List.getD_eq_getElem?_getD]
          rw [this]
          exact hc p hp
      · wrow_close
        exact fin 10 c n1 n2 cl hc ys sy
  · have n1 : 1 ≤ 1 + v := by omega
    have n2 : 1 + v ≤ 10 := by omega
    generalize 1 + v = n at n1 n2
    wrow_close
    refine ⟨by omega, by omega, ?_⟩
    refine ok_compIR (n := n) (enc := Plc.enc) (fun i (c : List Plc) S => ∃ xs, S = [.ow xs, .sh (.int 5), .sh (.list [.str "draw", .str "draw", .str "draw", .str "reward", .str "finish", .str "lose"]), .sh (.int (n : Int)), .no, .no] ∧ Strm ns xs ∧ c.length = i ∧ ∀ p, p < i → PD1 n (cAt c p)) ⟨zs, rfl, sz, rfl, fun p hp => by omega⟩ (fun i hi c S hS => ?_) fun c S hS => ?_
    · obtain ⟨xs, rfl, sx, cl, hc⟩ := hS
      wrow_close
      refine w__law_draw (m := 6) (by decide) (by decide) sx fun u ys hu sy => ?_
      obtain ⟨s, hs', es⟩ := six_k hu
      wrow_close
      rw [es]
      wrow_close
      refine w__law_place (n := n) hs' n1 (by omega) sy fun x us hx su => ?_
      wrow_close
      refine ⟨x, rfl, us, rfl, su, by rw [List.length_append]; show _ + 1 = _; omega, fun p hp => ?_⟩
      by_cases e : p < c.length
      · have : cAt (c ++ [x]) p = cAt c p := by
          unfold cAt
          rw [getD_app_l e]
        rw [this]
        exact hc p (by omega)
      · have ep : p = c.length := by omega
        have : cAt (c ++ [x]) p = x := by
          unfold cAt
          exact getD_app_r ep
        rw [this]
        exact hx
    · obtain ⟨xs, rfl, sx, cl, hc⟩ := hS
      wrow_close
      refine w__law_draw (m := 3) (by decide) (by decide) sx fun u ys hu sy => ?_
      wrow_close
      refine ⟨fun hu0 => ?_, fun hu0 => ?_⟩
      · wrow_close
        rw [show (n : Int) - 1 = ((n - 1 : Nat) : Int) by omega]
        refine Ok_of (ixN_nat (show n - 1 < c.length by omega)) ?_
        wrow_close
        rw [show (c.map Plc.enc).set (n - 1) (.tuple [.str "finish"]) = (c.set (n - 1) .fin).map Plc.enc from by rw [List.map_set]; rfl]
        refine fin n (c.set (n - 1) .fin) n1 n2 (by rw [List.length_set]; exact cl) (fun p hp => ?_) ys sy
        by_cases e : p = n - 1
        · have : cAt (c.set (n - 1) .fin) p = .fin := by
            unfold cAt
            rw [e, List.getD_eq_getElem?_getD, List.getElem?_set_self (by omega)]
            rfl
          rw [this]
          exact pd_end rfl (.inl rfl)
        · have : cAt (c.set (n - 1) .fin) p = cAt c p := by
            unfold cAt
            rw [List.getD_eq_getElem?_getD, List.getElem?_set_ne (fun z => e z.symm), ← List.getD_eq_getElem?_getD]
          rw [this]
          exact hc p hp
      · wrow_close
        exact fin n c n1 n2 cl hc ys sy
theorem _root_.PL.IsRun.push {c : List Plc} {r : List Nat} {t : Nat} (h : IsRun c r) (ht : t < c.length) (hm : t ∈ ctg c (r.getD (r.length - 1) 0)) : IsRun c (r ++ [t]) := by
  refine ⟨by rw [List.length_append]; show 0 < _ + 1; omega, fun p hp => ?_, fun i hi => ?_⟩
  · rcases List.mem_append.mp hp with z | z
    · exact h.lt p z
    · rw [List.mem_singleton.mp z]; exact ht
  · have hn := h.ne
    have hi : i + 1 < r.length + 1 := by rw [List.length_append] at hi; exact hi
    by_cases e : i + 1 < r.length
    · rw [getD_app_l e, getD_app_l (by omega)]
      exact h.go i e
    · have e2 : i + 1 = r.length := by omega
      rw [getD_app_r e2, getD_app_l (by omega)]
      rwa [show r.length - 1 = i by omega] at hm
theorem c_at {c : List Plc} {p : Nat} (h : p < c.length) : (c.map Plc.enc)[p]? = some (cAt c p).enc := by rw [List.getElem?_map, cAt_of h]; rfl
theorem w__law_walk {ns : List Int} {xs : List PD} {c : List Plc} (A : CW c) {p : Nat} (hp : p < c.length) (hs : Strm ns xs) {Q : List PD × List PD → Prop} (h : ∀ r ys, IsRun c r → r.length ≤ 5 → Strm ns ys → Q (encK r, ys)) : Ok (f__law_walk [.list xs, encC c, .int (p : Int)]) Q := by
  unfold f__law_walk d__law_walk
  wrow_close
  refine w__law_draw (m := 5) (by decide) (by decide) hs fun v ys hv sy => ?_
  wrow_close
  refine ⟨by omega, ?_⟩
  refine ok_forR (fun i S => ∃ (xs : List PD) (r : List Nat) (a b : Option PD), S = [.ow xs, .sh (encC c), .sh (.int (p : Int)), .ow (encK r), fv a, fv b] ∧ Strm ns xs ∧ IsRun c r ∧ r.length ≤ i + 1) ⟨ys, [p], none, none, rfl, sy, ⟨by show 0 < 1; decide, fun q hq => by rw [List.mem_singleton.mp hq]; exact hp, fun i hi => by simp at hi⟩, by show 1 ≤ 1; decide⟩ (fun i hi S hS => ?_) (fun S hS => ?_)
  · obtain ⟨xs, r, a, b, rfl, sx, R, rl⟩ := hS
    have rn := R.ne
    have e1 : ((r.length : Nat) : Int) - 1 = ((r.length - 1 : Nat) : Int) := by omega
    have hl : r.length - 1 < r.length := by omega
    have hq := R.at hl
    have bl := (A _ hq).len
    wrow_close
    rw [e1]
    wrow_close
    rw [nat_at (ds := r) (r.length - 1) hl]
    wrow_close
    rw [c_at hq]
    wrow_close
    refine w__law_targets (by omega) ?_
    rw [show (cAt c (r.getD (r.length - 1) 0)).br.map (·.2) = ctg c (r.getD (r.length - 1) 0) from rfl]
    wrow_close
    refine ⟨fun hz => ?_, fun hz => ?_⟩
    · wrow_close
      refine w__law_draw (m := (ctg c (r.getD (r.length - 1) 0)).length) (by omega) (by unfold ctg; rw [List.length_map]; omega) sx fun u ys hu sy => ?_
      wrow_close
      have hm : (ctg c (r.getD (r.length - 1) 0)).getD u 0 ∈ ctg c (r.getD (r.length - 1) 0) := by rw [getD_of hu]; exact List.getElem_mem hu
      rw [nat_at (ds := ctg c (r.getD (r.length - 1) 0)) u hu]
      wrow_close
      refine ⟨by omega, ys, r ++ [(ctg c (r.getD (r.length - 1) 0)).getD u 0], some (.int (i : Int)), some (nats (ctg c (r.getD (r.length - 1) 0))), by unfold encK; rw [List.map_append]; rfl, sy, R.push (A.tlt _ hq _ hm) hm, by rw [List.length_append]; show _ + 1 ≤ _; omega⟩
    · wrow_close
      exact ⟨xs, r, some (.int (i : Int)), some (nats (ctg c (r.getD (r.length - 1) 0))), rfl, sx, R, by omega⟩
  · obtain ⟨xs, r, a, b, rfl, sx, R, rl⟩ := hS
    wrow_close
    exact h r xs R (by omega) sx
theorem w__law_step {c : List Plc} (A : CW c) {p t : Nat} (hp : p < c.length) (hm : t ∈ ctg c p) {Q : PD → Prop} (h : Q (num (stp c p t))) : Ok (f__law_step [(cAt c p).enc, .int (t : Int)]) Q := by
  unfold f__law_step d__law_step
  unfold stp at h
  unfold ctg at hm
  have W := A p hp
  generalize cAt c p = x at h hm W
  cases x with
  | fin => cases hm
  | lose => cases hm
  | rew r u =>
    have e : t = u := List.mem_singleton.mp hm
    subst e
    have e1 : intoB (Plc.rew r t).br [t] = 1 := by
      show intoB [(1, t)] [t] = 1
      rw [intoB_cons, intoB_nil, if_pos (List.mem_singleton.mpr rfl)]
      grind
    rw [e1] at h
    wrow_close
    exact h
  | draw bs =>
    wrow_close
    refine ok_for (enc := encB) (l := bs) (fun i S => ∃ a b : Option PD, S = [.sh (.tuple [.str "draw", .list (bs.map encB)]), .sh (.int (t : Int)), .sh (num (intoB (bs.take i) [t])), fv a, fv b]) ⟨none, none, rfl⟩ (fun i hi S hS => ?_) (fun S hS => ?_)
    · obtain ⟨a, b, rfl⟩ := hS
      have hm2 : bs[i] ∈ (Plc.draw bs).br := List.getElem_mem hi
      have e1 : intoB (bs.take (i + 1)) [t] = intoB (bs.take i) [t] + (if bs[i].2 ∈ [t] then bs[i].1 else 0) := by
        rw [List.take_succ_eq_append_getElem hi, intoB_snoc]
      have s1 := part_sz W i t
      have s2 := br_sz W hm2
      generalize bs[i] = d at e1 s2
      rw [show encB d = .tuple [num d.1, .int (d.2 : Int)] from rfl]
      wrow_close
      refine ⟨fun z => ?_, fun z => ?_⟩
      · wrow_close
        refine w__law_plus s1 s2 (by decide) ?_
        wrow_close
        rw [if_pos (List.mem_singleton.mpr z)] at e1
        exact ⟨some _, some _, by rw [e1]; rfl⟩
      · wrow_close
        rw [if_neg (fun w => z (List.mem_singleton.mp w))] at e1
        exact ⟨some _, some _, by rw [e1, Rat.add_zero]; rfl⟩
    · obtain ⟨a, b, rfl⟩ := hS
      rw [List.take_of_length_le (Nat.le_refl _)]
      wrow_close
      exact h
theorem w__law_chance {c : List Plc} (A : CW c) {r : List Nat} (R : IsRun c r) (hr : r.length ≤ 5) {Q : PD → Prop} (h : Q (num (rcp c r (r.length - 1)))) : Ok (f__law_chance [encC c, nats r]) Q := by
  unfold f__law_chance d__law_chance
  have rn := R.ne
  wrow_close
  refine ⟨by omega, ?_⟩
  have ec : ((r.length : Nat) : Int) - 1 = ((r.length - 1 : Nat) : Int) := by omega
  rw [show ((r.length : Int) - 1).toNat = r.length - 1 by omega]
  refine ok_forRL (fun i S => ∃ a : Option PD, S = [.sh (encC c), .sh (nats r), .sh (num (rcp c r i)), fv a]) ⟨none, rfl⟩ (fun i hi S hS => ?_) (fun S hS => ?_)
  · obtain ⟨a, rfl⟩ := hS
    have e1 : (1 : Int) + (i : Int) = ((i + 1 : Nat) : Int) := by omega
    have e2 : ((i + 1 : Nat) : Int) - 1 = ((i : Nat) : Int) := by omega
    have hi2 : i + 1 < r.length := by omega
    have hp := R.at (show i < r.length by omega)
    rw [e1]
    wrow_close
    rw [e2]
    wrow_close
    rw [nat_at (ds := r) i (by omega)]
    wrow_close
    rw [c_at hp]
    wrow_close
    rw [nat_at (ds := r) (i + 1) hi2]
    wrow_close
    refine w__law_step A hp (R.go i hi2) ?_
    wrow_close
    refine w__law_times (rcp_sz A R i (by omega)).1 (stp_sz A hp).1 (by omega) ?_
    wrow_close
    exact ⟨some _, rfl⟩
  · obtain ⟨a, rfl⟩ := hS
    wrow_close
    exact h
theorem w__law_part {c : List Plc} (A : CW c) (hc : c.length ≤ 10) {cd : Cnd} (hS : ∀ S, cd = .never S → S.length ≤ 1000) {r : List Nat} (R : IsRun c r) (hr : r.length ≤ 5) {Q : PD → Prop}
    (h : ∀ y : Nat → Rat, IsHeld c cd y → (∀ p, Sz 2649 (y p)) → Q (num (partV c r y))) : Ok (f__law_part [encC c, nats r, cd.enc]) Q := by
  unfold f__law_part d__law_part
  have rn := R.ne
  have hp := R.at rn
  wrow_close
  refine w_chances_of A hc hS fun y hy sy => ?_
  wrow_close
  rw [show ((r.map fun (i : Nat) => PyData.int (i : Int))[0]?) = some (.int (r.getD 0 0 : Nat)) from nat_at 0 rn]
  wrow_close
  rw [held_at hp]
  wrow_close
  rw [show (PyData.tuple [.int 0, .int 1]) = num 0 from rfl]
  refine (o_eqNum (n := false)).mpr ?_
  wrow_close
  have pv0 : y (r.getD 0 0) = 0 → partV c r y = 0 := fun z => by
    unfold partV
    rw [if_pos (List.any_eq_true.mpr ⟨r.getD 0 0, by rw [getD_of rn]; exact List.getElem_mem rn, decide_eq_true z⟩)]
  have q := h y hy sy
  refine ⟨fun z => ?_, fun z => ?_⟩
  · wrow_close
    rw [pv0 z] at q
    exact q
  · wrow_close
    rw [show ((r.map fun (i : Nat) => PyData.int (i : Int))[0]?) = some (.int (r.getD 0 0 : Nat)) from nat_at 0 rn]
    wrow_close
    rw [held_at hp]
    wrow_close
    refine w_run_chance_given A hc hS R hr hy z ?_
    wrow_close
    have hl : r.length - 1 < r.length := by omega
    have cs := (rcp_sz A R (r.length - 1) hl).1
    have ps : Sz 2670 (partV c r y) := by
      unfold partV
      split
      · exact sz_zero.mono (by decide)
      · exact (mul_sz cs (sy _)).mono (by omega)
    have ds : Sz 5319 (partV c r y / y (r.getD 0 0)) := by
      rw [← div_divInt _ _ z]
      refine (divInt_sz (k := 5319) (Int.mul_ne_zero (by have := den_pos (partV c r y); omega) fun w => z (Rat.num_eq_zero.mp w)) ?_ ?_)
      · exact pow_up (natAbs_mul_lt ps.1 (natCast_lt (sy _).2)) (by decide)
      · exact pow_up (natAbs_mul_lt (natCast_lt ps.2) (sy _).1) (by decide)
    refine w__law_times (sy _) ds (by decide) ?_
    have : y (r.getD 0 0) * (partV c r y / y (r.getD 0 0)) = partV c r y := by grind
    rw [this]
    wrow_close
    exact q
theorem w_law {ns : List Int} (hl : ns.length ≤ 63) : Ok (f_law [.list (ns.map PyData.int)]) fun d => d = .bool true := by
  unfold f_law d_law
  wrow_close
  refine w__law_game (ns := ns) ⟨0, 0, rfl⟩ fun c xs C n1 n2 sx => ?_
  have A := C.w
  wrow_close
  refine ⟨by omega, by omega, ?_⟩
  refine ok_compR (fun p => (cAt c p).br.isEmpty) (fun p => .int (p : Int)) (fun p hp => ?_) ?_
  · have bl := (A p hp).len
    wrow_close
    rw [c_at hp]
    wrow_close
    refine w__law_targets (by omega) ?_
    wrow_close
    cases (cAt c p).br with
    | nil => wrow_close; rfl
    | cons b r => wrow_close; rfl
  have ee : (List.range c.length).filter (fun p => (cAt c p).br.isEmpty) = endP c := rfl
  rw [ee]
  have el : (endP c).length ≤ 1000 := Nat.le_trans (List.length_filter_le _ _) (by rw [List.length_range]; omega)
  wrow_close
  have hS : ∀ cd : Cnd, (cd = .fin ∨ cd = .lose ∨ cd = .never (endP c)) → ∀ S, cd = .never S → S.length ≤ 1000 := fun cd h S e => by
    rcases h with rfl | rfl | rfl
    · cases e
    · cases e
    · cases e; exact el
  have hS2 : ∀ cd : Cnd, (cd = .fin ∨ cd = .lose ∨ cd = .never (endP c)) → ∀ (r : List Nat) S, cd = .never S → (∀ p ∈ r, p ∉ S) ∨ S = endP c := fun cd h r S e => by
    rcases h with rfl | rfl | rfl
    · cases e
    · cases e
    · cases e; exact .inr rfl
  have sum1 : ∀ y1 y2 y3 : Nat → Rat, IsHeld c .fin y1 → IsHeld c .lose y2 → IsHeld c (.never (endP c)) y3 → ∀ p, p < c.length → y1 p + y2 p + y3 p = 1 := fun y1 y2 y3 h1 h2 h3 p hp => by
    have := three_one C (show IsCh c (finP c) y1 from h1) (show IsCh c (loseP c) y2 from h2) (show IsCh c (endP c) fun p => 1 - y3 p from h3) p hp
    have this : y1 p + y2 p = 1 - y3 p := this
    grind
  have ez : (PyData.tuple [.int 0, .int 1]) = num 0 := rfl
  have e1 : (PyData.tuple [.int 1, .int 1]) = num 1 := rfl
  have hat : ∀ (y : Nat → Rat) (p : Nat), p < c.length → ((List.range c.length).map fun p => num (y p))[p]? = some (num (y p)) := fun y p hp => held_at hp
  refine ⟨by omega, ?_⟩
  refine ok_forR (fun i S => ∃ a b d : Option PD, S = [.scr ns, .ow xs, .sh (encC c), .sh (nats (endP c)), .sh (.list [Cnd.enc .fin, Cnd.enc .lose, Cnd.enc (.never (endP c))]), fv a, fv b, fv d, .no, .no, .no, .no, .no, .no]) ⟨none, none, none, rfl⟩ (fun p hp S hS => ?_) (fun S hS => ?_)
  · obtain ⟨a, b, d, rfl⟩ := hS
    wrow_close
    refine p_forCons.mpr ?_
    wrow_close
    refine w_chances_of A n2 (cd := .fin) (hS _ (.inl rfl)) fun y1 h1 s1 => ?_
    wrow_close
    rw [hat y1 p hp]
    wrow_close
    rw [ez]
    refine w__law_plus sz_zero (s1 p) (by decide) ?_
    wrow_close
    refine p_forCons.mpr ?_
    wrow_close
    refine w_chances_of A n2 (cd := .lose) (hS _ (.inr (.inl rfl))) fun y2 h2 s2 => ?_
    wrow_close
    rw [hat y2 p hp]
    wrow_close
    refine w__law_plus (add_sz sz_zero (s1 p)) (s2 p) (by decide) ?_
    wrow_close
    refine p_forCons.mpr ?_
    wrow_close
    refine w_chances_of A n2 (cd := .never (endP c)) (hS _ (.inr (.inr rfl))) fun y3 h3 s3 => ?_
    wrow_close
    rw [hat y3 p hp]
    wrow_close
    refine w__law_plus (add_sz (add_sz sz_zero (s1 p)) (s2 p)) (s3 p) (by decide) ?_
    wrow_close
    refine p_forNil.mpr ?_
    have e := sum1 y1 y2 y3 h1 h2 h3 p hp
    have e2 : 0 + y1 p + y2 p + y3 p = 1 := by grind
    rw [e2]
    wrow_close
    rw [e1]
    refine (o_eqNum (n := true)).mpr ?_
    wrow_close
    exact ⟨some _, some _, some _, rfl⟩
  · obtain ⟨a, b, d, rfl⟩ := hS
    wrow_close
    refine w__law_draw (m := c.length) n1 (by omega) sx fun p ys hp sy => ?_
    wrow_close
    refine w__law_walk A hp sy fun r zs R rl sz => ?_
    have rn := R.ne
    have hl : r.length - 1 < r.length := by omega
    have hpl := R.at hl
    have cs := rcp_sz A R (r.length - 1) hl
    have cz : Sz 21 (rcp c r (r.length - 1)) := cs.1.mono (by omega)
    have c0 := cs.2
    have psz : ∀ y : Nat → Rat, (∀ p, Sz 2649 (y p)) → Sz 2670 (partV c r y) := fun y sy => by
      unfold partV
      split
      · exact sz_zero.mono (by decide)
      · exact (mul_sz cz (sy _)).mono (by decide)
    wrow_close
    refine p_forCons.mpr ?_
    wrow_close
    refine w__law_part A n2 (cd := .fin) (hS _ (.inl rfl)) R rl fun y1 h1 s1 => ?_
    wrow_close
    rw [ez]
    refine w__law_plus sz_zero (psz y1 s1) (by decide) ?_
    wrow_close
    refine p_forCons.mpr ?_
    wrow_close
    refine w__law_part A n2 (cd := .lose) (hS _ (.inr (.inl rfl))) R rl fun y2 h2 s2 => ?_
    wrow_close
    refine w__law_plus (add_sz sz_zero (psz y1 s1)) (psz y2 s2) (by decide) ?_
    wrow_close
    refine p_forCons.mpr ?_
    wrow_close
    refine w__law_part A n2 (cd := .never (endP c)) (hS _ (.inr (.inr rfl))) R rl fun y3 h3 s3 => ?_
    wrow_close
    refine w__law_plus (add_sz (add_sz sz_zero (psz y1 s1)) (psz y2 s2)) (psz y3 s3) (by decide) ?_
    wrow_close
    refine p_forNil.mpr ?_
    have p1 := partV_eq C h1 R (hS2 _ (.inl rfl) r)
    have p2 := partV_eq C h2 R (hS2 _ (.inr (.inl rfl)) r)
    have p3 := partV_eq C h3 R (hS2 _ (.inr (.inr rfl)) r)
    have e := sum1 y1 y2 y3 h1 h2 h3 _ hpl
    have et : 0 + partV c r y1 + partV c r y2 + partV c r y3 = rcp c r (r.length - 1) := by
      rw [p1, p2, p3]
      generalize rcp c r (r.length - 1) = k
      generalize y1 (r.getD (r.length - 1) 0) = u at e
      generalize y2 (r.getD (r.length - 1) 0) = v at e
      generalize y3 (r.getD (r.length - 1) 0) = w at e
      have : k * (u + v + w) = k := by rw [e]; grind
      grind
    rw [et]
    generalize hk : rcp c r (r.length - 1) = k at cz c0
    wrow_close
    refine w__law_chance A R rl ?_
    rw [hk]
    wrow_close
    refine (o_eqNum (n := true)).mpr ?_
    wrow_close
    refine w_chance_of A n2 R rl ?_
    rw [hk]
    wrow_close
    refine (o_eqNum (n := true)).mpr ?_
    wrow_close
    refine ⟨by omega, by omega, ?_⟩
    refine ok_compICR (enc := fun (i : Nat) => PyData.int (i : Int)) (fun i (m : List Nat) S => ∃ xs, S = [.scr ns, .ow xs, .sh (encC c), .sh (nats (endP c)), .sh (.list [Cnd.enc .fin, Cnd.enc .lose, Cnd.enc (.never (endP c))]), .no, .sh (num k), .sh (Cnd.enc (.never (endP c))), .sh (nats r), .sh (num k), .no, .no, .no, .no] ∧ Strm ns xs ∧ m.length ≤ i) ⟨zs, rfl, sz, by decide⟩ (fun i hi m S hS => ?_) fun m S hS => ?_
    · obtain ⟨xs, rfl, sx, ml⟩ := hS
      wrow_close
      refine w__law_draw (m := 4) (by decide) (by decide) sx fun v us hv su => ?_
      wrow_close
      refine ⟨fun z => ⟨i, rfl, us, rfl, su, by rw [List.length_append]; show _ + 1 ≤ _; omega⟩, fun z => ⟨us, rfl, su, by omega⟩⟩
    · obtain ⟨xs, rfl, sx, ml⟩ := hS
      have hm : ∀ S, Cnd.never m = .never S → S.length ≤ 1000 := fun S e => by cases e; omega
      wrow_close
      refine w__law_part A n2 (cd := .never m) hm R rl fun y4 h4 s4 => ?_
      wrow_close
      refine w_chances_of A n2 (cd := .never m) hm fun y5 h5 s5 => ?_
      have e45 : ∀ p, p < c.length → y5 p = y4 p := fun p hp => IsHeld.unique A h5 h4 p hp
      have ec : ((r.length : Nat) : Int) - 1 = ((r.length - 1 : Nat) : Int) := by omega
      wrow_close
      rw [ec]
      wrow_close
      rw [nat_at (ds := r) (r.length - 1) hl]
      wrow_close
      rw [hat y5 _ hpl]
      wrow_close
      refine w__law_times cz (s5 _) (by decide) ?_
      rw [e45 _ hpl]
      wrow_close
      refine ⟨by omega, ?_⟩
      refine ok_comp1 (fun (p : Nat) => PyData.bool (decide (p ∈ m))) (fun p hp => ?_) ?_
      · wrow_close
        refine ⟨⟨rfl, shp_nats⟩, ?_⟩
        rw [any_eqv]
      rw [show r.map (fun (p : Nat) => PyData.bool (decide (p ∈ m))) = (r.map fun p => decide (p ∈ m)).map PyData.bool from by rw [List.map_map]; rfl]
      wrow_close
      rw [any_map]
      have yb := held_bounds C h4 _ hpl
      have ple : partV c r y4 ≤ k := by
        unfold partV
        split
        · exact c0
        · rw [hk]
          have := mul_le_r (c := k) (v := y4 (r.getD (r.length - 1) 0)) (M := 1) c0 yb.2
          grind
      refine ⟨fun z => ?_, fun z => ?_⟩
      · have pz : partV c r y4 = 0 := by
          obtain ⟨q, hq, hq2⟩ := List.any_eq_true.mp z
          have h4' : IsCh c m fun p => 1 - y4 p := h4
          have := h4'.goal q (R.lt q hq) (of_decide_eq_true hq2)
          have this : 1 - y4 q = 1 := this
          have y0 : y4 q = 0 := by grind
          unfold partV
          rw [if_pos (List.any_eq_true.mpr ⟨q, hq, decide_eq_true y0⟩)]
        rw [pz]
        wrow_close
        rw [ez]
        refine (o_eqNum (n := false)).mpr ?_
        wrow_close
        refine w__law_less cz sz_zero (by decide) ?_
        wrow_close
        rw [decide_eq_false (by grind)]
        rfl
      · have nm : ∀ q ∈ r, q ∉ m := fun q hq hm2 => by
          have := (List.any_eq_true (p := fun p => decide (p ∈ m))).mpr ⟨q, hq, decide_eq_true hm2⟩
          rw [z] at this
          cases this
        have pe := partV_eq C h4 R (fun S e => by cases e; exact .inl nm)
        rw [hk] at pe
        rw [← pe]
        have ps := psz y4 s4
        wrow_close
        refine (o_eqNum (n := false)).mpr ?_
        wrow_close
        refine w__law_less cz ps (by decide) ?_
        wrow_close
        rw [decide_eq_false (by grind)]
        rfl
theorem plain_law : ∀ ns : List Int, ns.length ≤ 63 → f_law [.list (ns.map PyData.int)] = some (.bool true) := fun ns hl => (w_law hl).eq
end Lw
namespace Lw
open PySem PySem.Spec PyProof.Rows L2 DK
abbrev n_number : List Str := ["n", "d", "common"]
theorem sc_number : FnScope n_number ["n", "d"] (defScope s_number) := ⟨rfl, rfl, rfl, by decide +kernel, rfl, by decide +kernel, by decide +kernel⟩
abbrev n_times : List Str := ["a", "b"]
theorem sc_times : FnScope n_times ["a", "b"] (defScope s_times) := ⟨rfl, rfl, rfl, by decide +kernel, rfl, by decide +kernel, by decide +kernel⟩
abbrev n_targets : List Str := ["game", "place", "here", "chance", "target"]
theorem sc_targets : FnScope n_targets ["game", "place"] (defScope s_targets) := ⟨rfl, rfl, rfl, by decide +kernel, rfl, by decide +kernel, by decide +kernel⟩
abbrev n_first_wrong : List Str := ["game", "run", "step", "place"]
theorem sc_first_wrong : FnScope n_first_wrong ["game", "run"] (defScope s_first_wrong) := ⟨rfl, rfl, rfl, by decide +kernel, rfl, by decide +kernel, by decide +kernel⟩
abbrev n_plus : List Str := ["a", "b"]
theorem sc_plus : FnScope n_plus ["a", "b"] (defScope s_plus) := ⟨rfl, rfl, rfl, by decide +kernel, rfl, by decide +kernel, by decide +kernel⟩
abbrev n_chances_to : List Str := ["chain", "place", "here"]
theorem sc_chances_to : FnScope n_chances_to ["chain", "place"] (defScope s_chances_to) := ⟨rfl, rfl, rfl, by decide +kernel, rfl, by decide +kernel, by decide +kernel⟩
abbrev n_step_chance : List Str := ["chain", "place", "target", "found", "chance", "other"]
theorem sc_step_chance : FnScope n_step_chance ["chain", "place", "target"] (defScope s_step_chance) := ⟨rfl, rfl, rfl, by decide +kernel, rfl, by decide +kernel, by decide +kernel⟩
abbrev n_chance_of : List Str := ["chain", "run", "wrong", "found", "place", "target"]
theorem sc_chance_of : FnScope n_chance_of ["chain", "run"] (defScope s_chance_of) := ⟨rfl, rfl, rfl, by decide +kernel, rfl, by decide +kernel, by decide +kernel⟩
abbrev n_minus : List Str := ["a", "b"]
theorem sc_minus : FnScope n_minus ["a", "b"] (defScope s_minus) := ⟨rfl, rfl, rfl, by decide +kernel, rfl, by decide +kernel, by decide +kernel⟩
abbrev n_places_of : List Str := ["game", "kind", "place", "here"]
theorem sc_places_of : FnScope n_places_of ["game", "kind"] (defScope s_places_of) := ⟨rfl, rfl, rfl, by decide +kernel, rfl, by decide +kernel, by decide +kernel⟩
abbrev n_reached : List Str := ["game", "place", "seen", "waiting", "target"]
theorem sc_reached : FnScope n_reached ["game", "place"] (defScope s_reached) := ⟨rfl, rfl, rfl, by decide +kernel, rfl, by decide +kernel, by decide +kernel⟩
abbrev n_all_reached : List Str := ["chain", "place"]
theorem sc_all_reached : FnScope n_all_reached ["chain"] (defScope s_all_reached) := ⟨rfl, rfl, rfl, by decide +kernel, rfl, by decide +kernel, by decide +kernel⟩
abbrev n_divided : List Str := ["a", "b"]
theorem sc_divided : FnScope n_divided ["a", "b"] (defScope s_divided) := ⟨rfl, rfl, rfl, by decide +kernel, rfl, by decide +kernel, by decide +kernel⟩
abbrev n_scaled : List Str := ["line", "by", "one"]
theorem sc_scaled : FnScope n_scaled ["line", "by"] (defScope s_scaled) := ⟨rfl, rfl, rfl, by decide +kernel, rfl, by decide +kernel, by decide +kernel⟩
abbrev n_without : List Str := ["line", "place", "other", "less", "factors", "multipliers", "one", "two"]
theorem sc_without : FnScope n_without ["line", "place", "other"] (defScope s_without) := ⟨rfl, rfl, rfl, by decide +kernel, rfl, by decide +kernel, by decide +kernel⟩
abbrev n_reduced : List Str := ["count", "rows", "waiting", "place", "factors", "bound", "solved", "having", "line", "k", "other", "at"]
theorem sc_reduced : FnScope n_reduced ["count", "rows"] (defScope s_reduced) := ⟨rfl, rfl, rfl, by decide +kernel, rfl, by decide +kernel, by decide +kernel⟩
abbrev n_solution_of : List Str := ["count", "solved", "numbers", "place", "line"]
theorem sc_solution_of : FnScope n_solution_of ["count", "solved"] (defScope s_solution_of) := ⟨rfl, rfl, rfl, by decide +kernel, rfl, by decide +kernel, by decide +kernel⟩
abbrev n_only_solution : List Str := ["count", "rows", "solved", "left", "line"]
theorem sc_only_solution : FnScope n_only_solution ["count", "rows"] (defScope s_only_solution) := ⟨rfl, rfl, rfl, by decide +kernel, rfl, by decide +kernel, by decide +kernel⟩
abbrev n_branches : List Str := ["chain", "place"]
theorem sc_branches : FnScope n_branches ["chain", "place"] (defScope s_branches) := ⟨rfl, rfl, rfl, by decide +kernel, rfl, by decide +kernel, by decide +kernel⟩
abbrev n_means : List Str := ["chain", "unknown", "gains", "known", "rows", "place", "factors", "bound", "chance", "target", "at", "other"]
theorem sc_means : FnScope n_means ["chain", "unknown", "gains", "known"] (defScope s_means) := ⟨rfl, rfl, rfl, by decide +kernel, rfl, by decide +kernel, by decide +kernel⟩
abbrev n_chances : List Str := ["chain", "goals", "ways", "found", "near", "unknown", "numbers", "place", "number", "goal"]
theorem sc_chances : FnScope n_chances ["chain", "goals"] (defScope s_chances) := ⟨rfl, rfl, rfl, by decide +kernel, rfl, by decide +kernel, by decide +kernel⟩
abbrev n_chances_of : List Str := ["chain", "condition", "one"]
theorem sc_chances_of : FnScope n_chances_of ["chain", "condition"] (defScope s_chances_of) := ⟨rfl, rfl, rfl, by decide +kernel, rfl, by decide +kernel, by decide +kernel⟩
abbrev n__law_draw : List Str := ["_law_stream", "_law_many", "_law_cell", "_law_mixed", "_law_other", "_law_value"]
theorem sc__law_draw : FnScope n__law_draw ["_law_stream", "_law_many"] (defScope s__law_draw) := ⟨rfl, rfl, rfl, by decide +kernel, rfl, by decide +kernel, by decide +kernel⟩
abbrev n__law_number : List Str := ["_law_n", "_law_d", "_law_one", "_law_other"]
theorem sc__law_number : FnScope n__law_number ["_law_n", "_law_d"] (defScope s__law_number) := ⟨rfl, rfl, rfl, by decide +kernel, rfl, by decide +kernel, by decide +kernel⟩
abbrev n__law_plus : List Str := ["_law_a", "_law_b"]
theorem sc__law_plus : FnScope n__law_plus ["_law_a", "_law_b"] (defScope s__law_plus) := ⟨rfl, rfl, rfl, by decide +kernel, rfl, by decide +kernel, by decide +kernel⟩
abbrev n__law_times : List Str := ["_law_a", "_law_b"]
theorem sc__law_times : FnScope n__law_times ["_law_a", "_law_b"] (defScope s__law_times) := ⟨rfl, rfl, rfl, by decide +kernel, rfl, by decide +kernel, by decide +kernel⟩
abbrev n__law_less : List Str := ["_law_a", "_law_b"]
theorem sc__law_less : FnScope n__law_less ["_law_a", "_law_b"] (defScope s__law_less) := ⟨rfl, rfl, rfl, by decide +kernel, rfl, by decide +kernel, by decide +kernel⟩
abbrev n__law_shares : List Str := ["_law_stream", "_law_many", "_law_parts", "_law_turn", "_law_part_here"]
theorem sc__law_shares : FnScope n__law_shares ["_law_stream", "_law_many"] (defScope s__law_shares) := ⟨rfl, rfl, rfl, by decide +kernel, rfl, by decide +kernel, by decide +kernel⟩
abbrev n__law_place : List Str := ["_law_stream", "_law_kind", "_law_many", "_law_shares_here", "_law_amount", "_law_share", "_law_turn"]
theorem sc__law_place : FnScope n__law_place ["_law_stream", "_law_kind", "_law_many"] (defScope s__law_place) := ⟨rfl, rfl, rfl, by decide +kernel, rfl, by decide +kernel, by decide +kernel⟩
abbrev n__law_game : List Str := ["_law_stream", "_law_most", "_law_kinds", "_law_many", "_law_game_here", "_law_place_here"]
theorem sc__law_game : FnScope n__law_game ["_law_stream", "_law_most", "_law_kinds"] (defScope s__law_game) := ⟨rfl, rfl, rfl, by decide +kernel, rfl, by decide +kernel, by decide +kernel⟩
abbrev n__law_targets : List Str := ["_law_place_here", "_law_branch"]
theorem sc__law_targets : FnScope n__law_targets ["_law_place_here"] (defScope s__law_targets) := ⟨rfl, rfl, rfl, by decide +kernel, rfl, by decide +kernel, by decide +kernel⟩
abbrev n__law_walk : List Str := ["_law_stream", "_law_game_here", "_law_place_here", "_law_run", "_law_turn", "_law_ways"]
theorem sc__law_walk : FnScope n__law_walk ["_law_stream", "_law_game_here", "_law_place_here"] (defScope s__law_walk) := ⟨rfl, rfl, rfl, by decide +kernel, rfl, by decide +kernel, by decide +kernel⟩
abbrev n__law_step : List Str := ["_law_place_here", "_law_target", "_law_total", "_law_chance_here", "_law_other"]
theorem sc__law_step : FnScope n__law_step ["_law_place_here", "_law_target"] (defScope s__law_step) := ⟨rfl, rfl, rfl, by decide +kernel, rfl, by decide +kernel, by decide +kernel⟩
abbrev n__law_chance : List Str := ["_law_chain", "_law_run", "_law_chance_here", "_law_place_here"]
theorem sc__law_chance : FnScope n__law_chance ["_law_chain", "_law_run"] (defScope s__law_chance) := ⟨rfl, rfl, rfl, by decide +kernel, rfl, by decide +kernel, by decide +kernel⟩
abbrev n_check_held : List Str := ["chain", "place", "condition", "held"]
theorem sc_check_held : FnScope n_check_held ["chain", "place", "condition"] (defScope s_check_held) := ⟨rfl, rfl, rfl, by decide +kernel, rfl, by decide +kernel, by decide +kernel⟩
abbrev n_run_chance_given : List Str := ["chain", "run", "condition", "chance", "held", "place"]
theorem sc_run_chance_given : FnScope n_run_chance_given ["chain", "run", "condition"] (defScope s_run_chance_given) := ⟨rfl, rfl, rfl, by decide +kernel, rfl, by decide +kernel, by decide +kernel⟩
abbrev n__law_part : List Str := ["_law_chain", "_law_run", "_law_condition", "_law_held"]
theorem sc__law_part : FnScope n__law_part ["_law_chain", "_law_run", "_law_condition"] (defScope s__law_part) := ⟨rfl, rfl, rfl, by decide +kernel, rfl, by decide +kernel, by decide +kernel⟩
abbrev n_law : List Str := ["_law_script", "_law_stream", "_law_chain", "_law_ends", "_law_conditions", "_law_place_here", "_law_total", "_law_condition", "_law_run", "_law_chance_here", "_law_some", "_law_part_here", "_law_held", "_law_due"]
theorem sc_law : FnScope n_law ["_law_script"] (defScope s_law) := ⟨rfl, rfl, rfl, by decide +kernel, rfl, by decide +kernel, by decide +kernel⟩
structure Tx (K : PySem.W.Frag) (mg : Str → Option Value) : Prop where
  t_number : Df K mg "number" s_number ["n", "d"]
  t_times : Df K mg "times" s_times ["a", "b"]
  t_targets : Df K mg "targets" s_targets ["game", "place"]
  t_first_wrong : Df K mg "first_wrong" s_first_wrong ["game", "run"]
  t_plus : Df K mg "plus" s_plus ["a", "b"]
  t_chances_to : Df K mg "chances_to" s_chances_to ["chain", "place"]
  t_step_chance : Df K mg "step_chance" s_step_chance ["chain", "place", "target"]
  t_chance_of : Df K mg "chance_of" s_chance_of ["chain", "run"]
  t_minus : Df K mg "minus" s_minus ["a", "b"]
  t_places_of : Df K mg "places_of" s_places_of ["game", "kind"]
  t_reached : Df K mg "reached" s_reached ["game", "place"]
  t_all_reached : Df K mg "all_reached" s_all_reached ["chain"]
  t_divided : Df K mg "divided" s_divided ["a", "b"]
  t_scaled : Df K mg "scaled" s_scaled ["line", "by"]
  t_without : Df K mg "without" s_without ["line", "place", "other"]
  t_reduced : Df K mg "reduced" s_reduced ["count", "rows"]
  t_solution_of : Df K mg "solution_of" s_solution_of ["count", "solved"]
  t_only_solution : Df K mg "only_solution" s_only_solution ["count", "rows"]
  t_branches : Df K mg "branches" s_branches ["chain", "place"]
  t_means : Df K mg "means" s_means ["chain", "unknown", "gains", "known"]
  t_chances : Df K mg "chances" s_chances ["chain", "goals"]
  t_chances_of : Df K mg "chances_of" s_chances_of ["chain", "condition"]
  t__law_draw : Df K mg "_law_draw" s__law_draw ["_law_stream", "_law_many"]
  t__law_number : Df K mg "_law_number" s__law_number ["_law_n", "_law_d"]
  t__law_plus : Df K mg "_law_plus" s__law_plus ["_law_a", "_law_b"]
  t__law_times : Df K mg "_law_times" s__law_times ["_law_a", "_law_b"]
  t__law_less : Df K mg "_law_less" s__law_less ["_law_a", "_law_b"]
  t__law_shares : Df K mg "_law_shares" s__law_shares ["_law_stream", "_law_many"]
  t__law_place : Df K mg "_law_place" s__law_place ["_law_stream", "_law_kind", "_law_many"]
  t__law_game : Df K mg "_law_game" s__law_game ["_law_stream", "_law_most", "_law_kinds"]
  t__law_targets : Df K mg "_law_targets" s__law_targets ["_law_place_here"]
  t__law_walk : Df K mg "_law_walk" s__law_walk ["_law_stream", "_law_game_here", "_law_place_here"]
  t__law_step : Df K mg "_law_step" s__law_step ["_law_place_here", "_law_target"]
  t__law_chance : Df K mg "_law_chance" s__law_chance ["_law_chain", "_law_run"]
  t_check_held : Df K mg "check_held" s_check_held ["chain", "place", "condition"]
  t_run_chance_given : DfK K mg "run_chance_given" s_run_chance_given ["chain", "run", "condition"] ["condition"] 2
  t__law_part : Df K mg "_law_part" s__law_part ["_law_chain", "_law_run", "_law_condition"]
  t_law : Df K mg "law" s_law ["_law_script"]
  m_abs : mg "abs" = none
  m_all : mg "all" = none
  m_any : mg "any" = none
  m_bool : mg "bool" = none
  m_enumerate : mg "enumerate" = none
  m_int : mg "int" = none
  m_isinstance : mg "isinstance" = none
  m_len : mg "len" = none
  m_list : mg "list" = none
  m_range : mg "range" = none
  m_sorted : mg "sorted" = none
  m_sum : mg "sum" = none
  m_tuple : mg "tuple" = none
  m_zip : mg "zip" = none
  m_gcd : mg "gcd" = some (.builtin "math.gcd")
  k_NOUGHT : Glb K mg "NOUGHT" (.tuple [.int 0, .int 1])
  k_ONE : Glb K mg "ONE" (.tuple [.int 1, .int 1])
section
variable {P : Program} {w : World} {K : PySem.W.Frag} {mg : Str → Option Value} {base : Heap}
theorem b_number (T : Tx K mg) {f : Addr} : Bod P w K mg base n_number "number" s_number f 0 d_number := by
  intro cdv A outer s H E hr
  have hu := hr.units
  have hu5 := room65 hr
  unfold d_number
  refine dsCons ?_ ?_
  ·refine dIfS ?_ ?_ ?_
   ·refine dCmpT op_lt od_cmp ?_ ?_
    ·exact dNm 1
    ·exact dInt
   ·refine dsOne ?_
    refine dPar ?_ (ps_par (i := 0) (j := 1) rfl sc_number.nd rfl rfl (by decide) rfl rfl pa_w rfl)
    refine dCons ?_ ?_
    ·refine dNeg ?_
     exact dNm 0
    ·refine dCons ?_ ?_
     ·refine dNeg ?_
      exact dNm 1
     ·exact dNil
   ·exact dsNil
  ·refine dsCons ?_ ?_
   ·refine dSet 2 ?_ sc_number.nd
    refine dCallBI cr_gcd cd_gcd T.m_gcd ?_
    refine dCons ?_ ?_
    ·exact dNm 0
    ·refine dCons ?_ ?_
     ·exact dNm 1
     ·exact dNil
   ·refine dsOne ?_
    refine dRet ?_
    refine dTup ?_
    refine dCons ?_ ?_
    ·refine dDiv ?_ ?_
     ·exact dNm 0
     ·exact dNm 2
    ·refine dCons ?_ ?_
     ·refine dDiv ?_ ?_
      ·exact dNm 1
      ·exact dNm 2
     ·exact dNil
theorem ok_number (T : Tx K mg) : Okd P w K mg base 1 "number" ["n", "d"] (spP K 2 f_number) := by
  obtain ⟨f, fd, F, g, b⟩ := T.t_number.ex
  exact ⟨f, fd, okP F sc_number (b_number T), g, F.kp, b⟩
theorem b_times (T : Tx K mg) {f : Addr} : Bod P w K mg base n_times "times" s_times f 1 d_times := by
  intro cdv A outer s H E hr
  have hu := hr.units
  have hu5 := room65 hr
  unfold d_times
  refine dsOne ?_
  refine dRet ?_
  refine dFnP ⟨ok_number T⟩ (hr.mono (by decide)) ?_ defP_len
  refine dCons ?_ ?_
  ·refine dMul ?_ ?_
   ·refine dIx ?_ ?_
    ·exact dNm 0
    ·exact dInt
   ·refine dIx ?_ ?_
    ·exact dNm 1
    ·exact dInt
  ·refine dCons ?_ ?_
   ·refine dMul ?_ ?_
    ·refine dIx ?_ ?_
     ·exact dNm 0
     ·exact dInt
    ·refine dIx ?_ ?_
     ·exact dNm 1
     ·exact dInt
   ·exact dNil
theorem ok_times (T : Tx K mg) : Okd P w K mg base 2 "times" ["a", "b"] (spP K 2 f_times) := by
  obtain ⟨f, fd, F, g, b⟩ := T.t_times.ex
  exact ⟨f, fd, okP F sc_times (b_times T), g, F.kp, b⟩
theorem b_targets (T : Tx K mg) {f : Addr} : Bod P w K mg base n_targets "targets" s_targets f 0 d_targets := by
  intro cdv A outer s H E hr
  have hu := hr.units
  have hu5 := room65 hr
  unfold d_targets
  refine dsCons ?_ ?_
  ·refine dSet 2 ?_ sc_targets.nd
   refine dIx ?_ ?_
   ·exact dNm 0
   ·exact dNm 1
  ·refine dsCons ?_ ?_
   ·refine dIfS ?_ ?_ ?_
    ·refine dCmpT (o_eq hu) od_eq ?_ ?_
     ·refine dIx ?_ ?_
      ·exact dNm 2
      ·exact dInt
     ·exact dStr
    ·refine dsOne ?_
     refine dRetF ?_
     refine dLcF (own := [("chance", 3), ("target", 4)]) rfl sc_targets.nd ?_ (blkOk_by (own := [("chance", 3), ("target", 4)]) (N := n_targets) (sc := defScope s_targets) (by decide +kernel)) ⟨_, fun _ _ _ _ _ => pg_tup rfl (pgs_cons (pg_name (i := 3) sc_targets.nd rfl (Or.inl rfl)) (pgs_cons (pg_name (i := 4) sc_targets.nd rfl (Or.inl rfl)) (pgs_nil))), eg_tup (eg_cons (eg_nm (by decide)) (eg_cons (eg_nm (by decide)) (eg_nil)))⟩ (fun _ _ _ _ _ => dtNil) (fun _ _ _ _ _ => dNm 4)
     refine diList ?_
     refine dIx ?_ ?_
     ·exact dNm 2
     ·exact dInt
    ·exact dsNil
   ·refine dsCons ?_ ?_
    ·refine dIfS ?_ ?_ ?_
     ·refine DW.dt ?_
      refine dOr ?_ ?_
      ·refine dCmpT (o_eq hu) od_eq ?_ ?_
       ·refine dIx ?_ ?_
        ·exact dNm 2
        ·exact dInt
       ·exact dStr
      ·refine dOr1 ?_
       refine dCmpT (o_eq hu) od_eq ?_ ?_
       ·refine dIx ?_ ?_
        ·exact dNm 2
        ·exact dInt
       ·exact dStr
     ·refine dsOne ?_
      refine dRetF ?_
      refine dCallTyF call_list_of cf_list T.m_list (bt "list") ?_
      refine dCons ?_ ?_
      ·refine dIx ?_ ?_
       ·exact dNm 2
       ·exact dInt
      ·exact dNil
     ·exact dsNil
    ·refine dsCons ?_ ?_
     ·refine dIfS ?_ ?_ ?_
      ·refine dCmpT (o_eq hu) od_eq ?_ ?_
       ·refine dIx ?_ ?_
        ·exact dNm 2
        ·exact dInt
       ·exact dStr
      ·refine dsOne ?_
       refine dRetF ?_
       refine fl_lst ?_
       refine dCons ?_ ?_
       ·refine dIx ?_ ?_
        ·exact dNm 2
        ·exact dInt
       ·exact dNil
      ·exact dsNil
     ·refine dsOne ?_
      refine dRetF ?_
      refine fl_lst ?_
      exact dNil
theorem ok_targets (T : Tx K mg) : Okd P w K mg base 1 "targets" ["game", "place"] (spF K 2 f_targets) := by
  obtain ⟨f, fd, F, g, b⟩ := T.t_targets.ex
  exact ⟨f, fd, okF F sc_targets (b_targets T), g, F.kp, b⟩
theorem b_first_wrong (T : Tx K mg) {f : Addr} : Bod P w K mg base n_first_wrong "first_wrong" s_first_wrong f 1 d_first_wrong := by
  intro cdv A outer s H E hr
  have hu := hr.units
  have hu5 := room65 hr
  unfold d_first_wrong
  refine dsCons ?_ ?_
  ·refine dFor PassesOwn.never rfl ?_ ?_ ?_
   ·refine diEnum ?_ T.m_enumerate
    refine dCons ?_ ?_
    ·exact dNm 1
    ·exact dNil
   ·refine dgTup rfl ?_
    refine dgCons ?_ ?_
    ·exact dgNm 2 sc_first_wrong.nd
    ·refine dgCons ?_ ?_
     ·exact dgNm 3 sc_first_wrong.nd
     ·exact dgNil
   ·refine dsOne ?_
    refine dIfS ?_ ?_ ?_
    ·refine dCmpT (o_eq hu) od_eq ?_ ?_
     ·exact dNm 2
     ·exact dInt
    ·refine dsOne ?_
     refine dIfS ?_ ?_ ?_
     ·refine dNotT ?_
      refine dChainT op_le op_lt od_cmp od_cmp ?_ ?_ ?_
      ·exact dInt
      ·exact dNm 3
      ·refine dCallB call_len_seq cd_len T.m_len (bt "len") ?_
       refine dCons ?_ ?_
       ·exact dNm 0
       ·exact dNil
     ·refine dsOne ?_
      refine dRet ?_
      exact dInt
     ·exact dsNil
    ·refine dsOne ?_
     refine dIfS ?_ ?_ ?_
     ·refine dCmpT (o_nin hu5) od_in ?_ ?_
      ·exact dNm 3
      ·refine dF ?_
       refine dFnF ⟨ok_targets T⟩ (hr.mono (by decide)) ?_ defF_len
       refine dCons ?_ ?_
       ·exact dNm 0
       ·refine dCons ?_ ?_
        ·refine dIx ?_ ?_
         ·exact dNm 1
         ·refine dSub ?_ ?_
          ·exact dNm 2
          ·exact dInt
        ·exact dNil
     ·refine dsOne ?_
      refine dRet ?_
      exact dNm 2
     ·exact dsNil
  ·refine dsOne ?_
   refine dRet ?_
   exact dNon
theorem ok_first_wrong (T : Tx K mg) : Okd P w K mg base 2 "first_wrong" ["game", "run"] (spP K 2 f_first_wrong) := by
  obtain ⟨f, fd, F, g, b⟩ := T.t_first_wrong.ex
  exact ⟨f, fd, okP F sc_first_wrong (b_first_wrong T), g, F.kp, b⟩
theorem b_plus (T : Tx K mg) {f : Addr} : Bod P w K mg base n_plus "plus" s_plus f 1 d_plus := by
  intro cdv A outer s H E hr
  have hu := hr.units
  have hu5 := room65 hr
  unfold d_plus
  refine dsOne ?_
  refine dRet ?_
  refine dFnP ⟨ok_number T⟩ (hr.mono (by decide)) ?_ defP_len
  refine dCons ?_ ?_
  ·refine dAdd ?_ ?_
   ·refine dMul ?_ ?_
    ·refine dIx ?_ ?_
     ·exact dNm 0
     ·exact dInt
    ·refine dIx ?_ ?_
     ·exact dNm 1
     ·exact dInt
   ·refine dMul ?_ ?_
    ·refine dIx ?_ ?_
     ·exact dNm 1
     ·exact dInt
    ·refine dIx ?_ ?_
     ·exact dNm 0
     ·exact dInt
  ·refine dCons ?_ ?_
   ·refine dMul ?_ ?_
    ·refine dIx ?_ ?_
     ·exact dNm 0
     ·exact dInt
    ·refine dIx ?_ ?_
     ·exact dNm 1
     ·exact dInt
   ·exact dNil
theorem ok_plus (T : Tx K mg) : Okd P w K mg base 2 "plus" ["a", "b"] (spP K 2 f_plus) := by
  obtain ⟨f, fd, F, g, b⟩ := T.t_plus.ex
  exact ⟨f, fd, okP F sc_plus (b_plus T), g, F.kp, b⟩
theorem b_chances_to (T : Tx K mg) {f : Addr} : Bod P w K mg base n_chances_to "chances_to" s_chances_to f 0 d_chances_to := by
  intro cdv A outer s H E hr
  have hu := hr.units
  have hu5 := room65 hr
  unfold d_chances_to
  refine dsCons ?_ ?_
  ·refine dSet 2 ?_ sc_chances_to.nd
   refine dIx ?_ ?_
   ·exact dNm 0
   ·exact dNm 1
  ·refine dsCons ?_ ?_
   ·refine dIfS ?_ ?_ ?_
    ·refine dCmpT (o_eq hu) od_eq ?_ ?_
     ·refine dIx ?_ ?_
      ·exact dNm 2
      ·exact dInt
     ·exact dStr
    ·refine dsOne ?_
     refine dRetF ?_
     refine dCallTyF call_list_of cf_list T.m_list (bt "list") ?_
     refine dCons ?_ ?_
     ·refine dIx ?_ ?_
      ·exact dNm 2
      ·exact dInt
     ·exact dNil
    ·exact dsNil
   ·refine dsCons ?_ ?_
    ·refine dIfS ?_ ?_ ?_
     ·refine dCmpT (o_eq hu) od_eq ?_ ?_
      ·refine dIx ?_ ?_
       ·exact dNm 2
       ·exact dInt
      ·exact dStr
     ·refine dsOne ?_
      refine dRetF ?_
      refine fl_lst ?_
      refine dCons ?_ ?_
      ·refine dTup ?_
       refine dCons ?_ ?_
       ·exact dGlb T.k_ONE
       ·refine dCons ?_ ?_
        ·refine dIx ?_ ?_
         ·exact dNm 2
         ·exact dInt
        ·exact dNil
      ·exact dNil
     ·exact dsNil
    ·refine dsOne ?_
     refine dRetF ?_
     refine fl_lst ?_
     refine dCons ?_ ?_
     ·refine dTup ?_
      refine dCons ?_ ?_
      ·exact dGlb T.k_ONE
      ·refine dCons ?_ ?_
       ·exact dNm 1
       ·exact dNil
     ·exact dNil
theorem ok_chances_to (T : Tx K mg) : Okd P w K mg base 1 "chances_to" ["chain", "place"] (spF K 2 f_chances_to) := by
  obtain ⟨f, fd, F, g, b⟩ := T.t_chances_to.ex
  exact ⟨f, fd, okF F sc_chances_to (b_chances_to T), g, F.kp, b⟩
theorem b_step_chance (T : Tx K mg) {f : Addr} : Bod P w K mg base n_step_chance "step_chance" s_step_chance f 2 d_step_chance := by
  intro cdv A outer s H E hr
  have hu := hr.units
  have hu5 := room65 hr
  unfold d_step_chance
  refine dsCons ?_ ?_
  ·refine dSet 3 ?_ sc_step_chance.nd
   exact dGlb T.k_NOUGHT
  ·refine dsCons ?_ ?_
   ·refine dFor PassesOwn.never rfl ?_ ?_ ?_
    ·refine diListF ?_
     refine dFnF ⟨ok_chances_to T⟩ (hr.mono (by decide)) ?_ defF_len
     refine dCons ?_ ?_
     ·exact dNm 0
     ·refine dCons ?_ ?_
      ·exact dNm 1
      ·exact dNil
    ·refine dgTup rfl ?_
     refine dgCons ?_ ?_
     ·exact dgNm 4 sc_step_chance.nd
     ·refine dgCons ?_ ?_
      ·exact dgNm 5 sc_step_chance.nd
      ·exact dgNil
    ·refine dsOne ?_
     refine dIfS ?_ ?_ ?_
     ·refine dCmpT (o_eq hu) od_eq ?_ ?_
      ·exact dNm 5
      ·exact dNm 2
     ·refine dsOne ?_
      refine dSet 3 ?_ sc_step_chance.nd
      refine dFnP ⟨ok_plus T⟩ (hr.mono (by decide)) ?_ defP_len
      refine dCons ?_ ?_
      ·exact dNm 3
      ·refine dCons ?_ ?_
       ·exact dNm 4
       ·exact dNil
     ·exact dsNil
   ·refine dsOne ?_
    refine dRet ?_
    exact dNm 3
theorem ok_step_chance (T : Tx K mg) : Okd P w K mg base 3 "step_chance" ["chain", "place", "target"] (spP K 3 f_step_chance) := by
  obtain ⟨f, fd, F, g, b⟩ := T.t_step_chance.ex
  exact ⟨f, fd, okP F sc_step_chance (b_step_chance T), g, F.kp, b⟩
theorem b_chance_of (T : Tx K mg) {f : Addr} : Bod P w K mg base n_chance_of "chance_of" s_chance_of f 3 d_chance_of := by
  intro cdv A outer s H E hr
  have hu := hr.units
  have hu5 := room65 hr
  unfold d_chance_of
  refine dsCons ?_ ?_
  ·refine dSet 2 ?_ sc_chance_of.nd
   refine dFnP ⟨ok_first_wrong T⟩ (hr.mono (by decide)) ?_ defP_len
   refine dCons ?_ ?_
   ·exact dNm 0
   ·refine dCons ?_ ?_
    ·exact dNm 1
    ·exact dNil
  ·refine dsCons ?_ ?_
   ·refine dIfS ?_ ?_ ?_
    ·refine dCmpT op_notN od_isn ?_ ?_
     ·exact dNm 2
     ·exact dNon
    ·refine dsOne ?_
     exact dNever
    ·exact dsNil
   ·refine dsCons ?_ ?_
    ·refine dSet 3 ?_ sc_chance_of.nd
     exact dGlb T.k_ONE
    ·refine dsCons ?_ ?_
     ·refine dFor PassesOwn.never rfl ?_ ?_ ?_
      ·refine diZip ?_ (pi_zip rfl T.m_zip pa_w)
       refine dCons ?_ ?_
       ·exact dNm 1
       ·refine dCons ?_ ?_
        ·refine dSl ?_ ?_ ?_
         ·exact dNm 1
         ·refine dSo ?_
          exact dInt
         ·exact dNo
        ·exact dNil
      ·refine dgTup rfl ?_
       refine dgCons ?_ ?_
       ·exact dgNm 4 sc_chance_of.nd
       ·refine dgCons ?_ ?_
        ·exact dgNm 5 sc_chance_of.nd
        ·exact dgNil
      ·refine dsOne ?_
       refine dSet 3 ?_ sc_chance_of.nd
       refine dFnP ⟨ok_times T⟩ (hr.mono (by decide)) ?_ defP_len
       refine dCons ?_ ?_
       ·exact dNm 3
       ·refine dCons ?_ ?_
        ·refine dFnP ⟨ok_step_chance T⟩ (hr.mono (by decide)) ?_ defP_len
         refine dCons ?_ ?_
         ·exact dNm 0
         ·refine dCons ?_ ?_
          ·exact dNm 4
          ·refine dCons ?_ ?_
           ·exact dNm 5
           ·exact dNil
        ·exact dNil
     ·refine dsOne ?_
      refine dRet ?_
      exact dNm 3
theorem ok_chance_of (T : Tx K mg) : Okd P w K mg base 4 "chance_of" ["chain", "run"] (spP K 2 f_chance_of) := by
  obtain ⟨f, fd, F, g, b⟩ := T.t_chance_of.ex
  exact ⟨f, fd, okP F sc_chance_of (b_chance_of T), g, F.kp, b⟩
theorem b_minus (T : Tx K mg) {f : Addr} : Bod P w K mg base n_minus "minus" s_minus f 1 d_minus := by
  intro cdv A outer s H E hr
  have hu := hr.units
  have hu5 := room65 hr
  unfold d_minus
  refine dsOne ?_
  refine dRet ?_
  refine dFnP ⟨ok_number T⟩ (hr.mono (by decide)) ?_ defP_len
  refine dCons ?_ ?_
  ·refine dSub ?_ ?_
   ·refine dMul ?_ ?_
    ·refine dIx ?_ ?_
     ·exact dNm 0
     ·exact dInt
    ·refine dIx ?_ ?_
     ·exact dNm 1
     ·exact dInt
   ·refine dMul ?_ ?_
    ·refine dIx ?_ ?_
     ·exact dNm 1
     ·exact dInt
    ·refine dIx ?_ ?_
     ·exact dNm 0
     ·exact dInt
  ·refine dCons ?_ ?_
   ·refine dMul ?_ ?_
    ·refine dIx ?_ ?_
     ·exact dNm 0
     ·exact dInt
    ·refine dIx ?_ ?_
     ·exact dNm 1
     ·exact dInt
   ·exact dNil
theorem ok_minus (T : Tx K mg) : Okd P w K mg base 2 "minus" ["a", "b"] (spP K 2 f_minus) := by
  obtain ⟨f, fd, F, g, b⟩ := T.t_minus.ex
  exact ⟨f, fd, okP F sc_minus (b_minus T), g, F.kp, b⟩
theorem b_places_of (T : Tx K mg) {f : Addr} : Bod P w K mg base n_places_of "places_of" s_places_of f 0 d_places_of := by
  intro cdv A outer s H E hr
  have hu := hr.units
  have hu5 := room65 hr
  unfold d_places_of
  refine dsOne ?_
  refine dRetF ?_
  refine dLcF (own := [("place", 2), ("here", 3)]) rfl sc_places_of.nd ?_ (blkOk_by (own := [("place", 2), ("here", 3)]) (N := n_places_of) (sc := defScope s_places_of) (by decide +kernel)) ⟨_, fun _ _ _ _ _ => pg_tup rfl (pgs_cons (pg_name (i := 2) sc_places_of.nd rfl (Or.inl rfl)) (pgs_cons (pg_name (i := 3) sc_places_of.nd rfl (Or.inl rfl)) (pgs_nil))), eg_tup (eg_cons (eg_nm (by decide)) (eg_cons (eg_nm (by decide)) (eg_nil)))⟩ (fun _ _ _ _ _ => dtOne (dCmpT (o_eq hu) od_eq (dIx (dNm 3) (dInt)) (dNm 1))) (fun _ _ _ _ _ => dNm 2)
  refine diEnum ?_ T.m_enumerate
  refine dCons ?_ ?_
  ·exact dNm 0
  ·exact dNil
theorem ok_places_of (T : Tx K mg) : Okd P w K mg base 1 "places_of" ["game", "kind"] (spF K 2 f_places_of) := by
  obtain ⟨f, fd, F, g, b⟩ := T.t_places_of.ex
  exact ⟨f, fd, okF F sc_places_of (b_places_of T), g, F.kp, b⟩
theorem ok_reached (T : Tx K mg) : Okd P w K mg base 2 "reached" ["game", "place"] (spF K 2 f_reached) := by
  obtain ⟨f, fd, F, g, b⟩ := T.t_reached.ex
  obtain ⟨⟨oc, od, kV, doc, pm, an, cdv, ct, osl, rfl, lk, hcd⟩, kp⟩ := F
  obtain ⟨ft, fdt, Ft, gt, kpt, bt2⟩ := ok_targets (P := P) (w := w) (base := base) T
  refine ⟨f, _, fn_of (k := 1) lk hcd sc_reached (fun vs H Q E h => ?_) fun A outer s H vs Q E hr h => ⟨tReached K w f_targets, PSs.nox ?_, rd_reached defF_len h⟩, g, kp, b⟩
  · obtain ⟨W, ds, ys, hl, _, r, _⟩ := h
    rw [r.length, hl]
    rfl
  · refine pss_cons (ps_set (i := 2) sc_reached.nd rfl (Or.inl rfl) (pe_set1 (kdsCode_of hcd) (pv 1))) ?_
    refine pss_cons (ps_set (i := 3) sc_reached.nd rfl (Or.inl rfl) (pe_lst (pa_cons (pv 1) pa_nil))) ?_
    refine pss_cons (ps_while PassesOwn.never (pt_truth (pv 3) (by intro _; rfl)) ?_) ?_
    · refine pss_one (ps_for PassesOwn.never rfl (pi_list ?_) (pg_name (i := 4) sc_reached.nd rfl (Or.inl rfl)) ?_ (fun _ => rfl))
      · exact pe_call Ft (hr.mono (by decide)) rfl gt kpt bt2 .nil pass0 (pa_cons (pv 0) (pa_cons (pe_bm0 PySem.F.plainAttrs_list PySem.F.slot_list_pop PySem.F.type_list_pop mt_pop (pv 3)) pa_nil))
      · refine pss_one (ps_if (pt_cmpR or_snotin (pv 4) (pv 2) (by first | exact nomark _ | with_unfolding_all rfl)) ?_ pss_nil)
        exact pss_cons (ps_expr (pe_sadd (pv 2) (pa_cons (pv 4) pa_nil))) (pss_one (ps_expr (pe_bm PySem.F.plainAttrs_list PySem.F.slot_list_append PySem.F.type_list_append mt_append (pv 3) (pa_cons (pv 4) pa_nil))))
    · exact pss_one (ps_ret (pe_callB (cr_sortedSet rfl) rfl T.m_sorted (bt "sorted") (pa_cons (pv 2) pa_nil)))
theorem b_all_reached (T : Tx K mg) {f : Addr} : Bod P w K mg base n_all_reached "all_reached" s_all_reached f 2 d_all_reached := by
  intro cdv A outer s H E hr
  have hu := hr.units
  have hu5 := room65 hr
  unfold d_all_reached
  refine dsOne ?_
  refine dRetF ?_
  refine dLcF (own := [("place", 1)]) rfl sc_all_reached.nd ?_ (blkOk_by (own := [("place", 1)]) (N := n_all_reached) (sc := defScope s_all_reached) (by decide +kernel)) ⟨_, fun _ _ _ _ _ => pg_name (i := 1) sc_all_reached.nd rfl (Or.inl rfl), eg_nm (by decide)⟩ (fun _ _ _ _ _ => dtNil) (fun _ _ _ _ _ => dF (dFnF ⟨ok_reached T⟩ (hr.mono (by decide)) (dCons (dNm 0) (dCons (dNm 1) (dNil))) fReached_len))
  refine diRange1 ?_ T.m_range
  refine dCons ?_ ?_
  ·refine dCallB call_len_seq cd_len T.m_len (bt "len") ?_
   refine dCons ?_ ?_
   ·exact dNm 0
   ·exact dNil
  ·exact dNil
theorem ok_all_reached (T : Tx K mg) : Okd P w K mg base 3 "all_reached" ["chain"] (spF K 1 f_all_reached) := by
  obtain ⟨f, fd, F, g, b⟩ := T.t_all_reached.ex
  exact ⟨f, fd, okF F sc_all_reached (b_all_reached T), g, F.kp, b⟩
theorem b_divided (T : Tx K mg) {f : Addr} : Bod P w K mg base n_divided "divided" s_divided f 1 d_divided := by
  intro cdv A outer s H E hr
  have hu := hr.units
  have hu5 := room65 hr
  unfold d_divided
  refine dsOne ?_
  refine dRet ?_
  refine dFnP ⟨ok_number T⟩ (hr.mono (by decide)) ?_ defP_len
  refine dCons ?_ ?_
  ·refine dMul ?_ ?_
   ·refine dIx ?_ ?_
    ·exact dNm 0
    ·exact dInt
   ·refine dIx ?_ ?_
    ·exact dNm 1
    ·exact dInt
  ·refine dCons ?_ ?_
   ·refine dMul ?_ ?_
    ·refine dIx ?_ ?_
     ·exact dNm 0
     ·exact dInt
    ·refine dIx ?_ ?_
     ·exact dNm 1
     ·exact dInt
   ·exact dNil
theorem ok_divided (T : Tx K mg) : Okd P w K mg base 2 "divided" ["a", "b"] (spP K 2 f_divided) := by
  obtain ⟨f, fd, F, g, b⟩ := T.t_divided.ex
  exact ⟨f, fd, okP F sc_divided (b_divided T), g, F.kp, b⟩
theorem b_scaled (T : Tx K mg) {f : Addr} : Bod P w K mg base n_scaled "scaled" s_scaled f 2 d_scaled := by
  intro cdv A outer s H E hr
  have hu := hr.units
  have hu5 := room65 hr
  unfold d_scaled
  refine dsOne ?_
  refine dRet ?_
  refine dTup ?_
  refine dCons ?_ ?_
  ·refine dF ?_
   refine dLcF (own := [("one", 2)]) rfl sc_scaled.nd ?_ (blkOk_by (own := [("one", 2)]) (N := n_scaled) (sc := defScope s_scaled) (by decide +kernel)) ⟨_, fun _ _ _ _ _ => pg_name (i := 2) sc_scaled.nd rfl (Or.inl rfl), eg_nm (by decide)⟩ (fun _ _ _ _ _ => dtNil) (fun _ _ _ _ _ => dFnP ⟨ok_times T⟩ (hr.mono (by decide)) (dCons (dNm 1) (dCons (dNm 2) (dNil))) defP_len)
   refine diList ?_
   refine dIx ?_ ?_
   ·exact dNm 0
   ·exact dInt
  ·refine dCons ?_ ?_
   ·refine dFnP ⟨ok_times T⟩ (hr.mono (by decide)) ?_ defP_len
    refine dCons ?_ ?_
    ·exact dNm 1
    ·refine dCons ?_ ?_
     ·refine dIx ?_ ?_
      ·exact dNm 0
      ·exact dInt
     ·exact dNil
   ·refine dCons ?_ ?_
    ·refine dF ?_
     refine dLcF (own := [("one", 2)]) rfl sc_scaled.nd ?_ (blkOk_by (own := [("one", 2)]) (N := n_scaled) (sc := defScope s_scaled) (by decide +kernel)) ⟨_, fun _ _ _ _ _ => pg_name (i := 2) sc_scaled.nd rfl (Or.inl rfl), eg_nm (by decide)⟩ (fun _ _ _ _ _ => dtNil) (fun _ _ _ _ _ => dFnP ⟨ok_times T⟩ (hr.mono (by decide)) (dCons (dNm 1) (dCons (dNm 2) (dNil))) defP_len)
     refine diList ?_
     refine dIx ?_ ?_
     ·exact dNm 0
     ·exact dInt
    ·exact dNil
theorem ok_scaled (T : Tx K mg) : Okd P w K mg base 3 "scaled" ["line", "by"] (spP K 2 f_scaled) := by
  obtain ⟨f, fd, F, g, b⟩ := T.t_scaled.ex
  exact ⟨f, fd, okP F sc_scaled (b_scaled T), g, F.kp, b⟩
theorem b_without (T : Tx K mg) {f : Addr} : Bod P w K mg base n_without "without" s_without f 3 d_without := by
  intro cdv A outer s H E hr
  have hu := hr.units
  have hu5 := room65 hr
  unfold d_without
  refine dsCons ?_ ?_
  ·refine dIfS ?_ ?_ ?_
   ·refine dCmpT (o_eq hu) od_eq ?_ ?_
    ·refine dIx ?_ ?_
     ·refine dIx ?_ ?_
      ·exact dNm 0
      ·exact dInt
     ·exact dNm 1
    ·exact dGlb T.k_NOUGHT
   ·refine dsOne ?_
    refine dRet ?_
    exact dNm 0
   ·exact dsNil
  ·refine dsCons ?_ ?_
   ·refine dSet 3 ?_ sc_without.nd
    refine dFnP ⟨ok_scaled T⟩ (hr.mono (by decide)) ?_ defP_len
    refine dCons ?_ ?_
    ·exact dNm 2
    ·refine dCons ?_ ?_
     ·refine dIx ?_ ?_
      ·refine dIx ?_ ?_
       ·exact dNm 0
       ·exact dInt
      ·exact dNm 1
     ·exact dNil
   ·refine dsCons ?_ ?_
    ·refine dThen 4 ?_
     refine dSetLc 4 (own := [("one", 6), ("two", 7)]) rfl sc_without.nd ?_ (blkOk_by (own := [("one", 6), ("two", 7)]) (N := n_without) (sc := defScope s_without) (by decide +kernel)) ⟨_, fun _ _ _ _ _ => pg_tup rfl (pgs_cons (pg_name (i := 6) sc_without.nd rfl (Or.inl rfl)) (pgs_cons (pg_name (i := 7) sc_without.nd rfl (Or.inl rfl)) (pgs_nil))), eg_tup (eg_cons (eg_nm (by decide)) (eg_cons (eg_nm (by decide)) (eg_nil)))⟩ (fun _ _ _ _ _ => dtNil) (fun _ _ _ _ _ => dFnP ⟨ok_minus T⟩ (hr.mono (by decide)) (dCons (dNm 6) (dCons (dNm 7) (dNil))) defP_len)
     refine diZip ?_ (pi_zip rfl T.m_zip pa_w)
     refine dCons ?_ ?_
     ·refine dIx ?_ ?_
      ·exact dNm 0
      ·exact dInt
     ·refine dCons ?_ ?_
      ·refine dIx ?_ ?_
       ·exact dNm 3
       ·exact dInt
      ·exact dNil
    ·refine dsCons ?_ ?_
     ·refine dThen 5 ?_
      refine dSetLc 5 (own := [("one", 6), ("two", 7)]) rfl sc_without.nd ?_ (blkOk_by (own := [("one", 6), ("two", 7)]) (N := n_without) (sc := defScope s_without) (by decide +kernel)) ⟨_, fun _ _ _ _ _ => pg_tup rfl (pgs_cons (pg_name (i := 6) sc_without.nd rfl (Or.inl rfl)) (pgs_cons (pg_name (i := 7) sc_without.nd rfl (Or.inl rfl)) (pgs_nil))), eg_tup (eg_cons (eg_nm (by decide)) (eg_cons (eg_nm (by decide)) (eg_nil)))⟩ (fun _ _ _ _ _ => dtNil) (fun _ _ _ _ _ => dFnP ⟨ok_minus T⟩ (hr.mono (by decide)) (dCons (dNm 6) (dCons (dNm 7) (dNil))) defP_len)
      refine diZip ?_ (pi_zip rfl T.m_zip pa_w)
      refine dCons ?_ ?_
      ·refine dIx ?_ ?_
       ·exact dNm 0
       ·exact dInt
      ·refine dCons ?_ ?_
       ·refine dIx ?_ ?_
        ·exact dNm 3
        ·exact dInt
       ·exact dNil
     ·refine dsOne ?_
      refine dRet ?_
      refine dTup ?_
      refine dCons ?_ ?_
      ·exact dNm 4
      ·refine dCons ?_ ?_
       ·refine dFnP ⟨ok_minus T⟩ (hr.mono (by decide)) ?_ defP_len
        refine dCons ?_ ?_
        ·refine dIx ?_ ?_
         ·exact dNm 0
         ·exact dInt
        ·refine dCons ?_ ?_
         ·refine dIx ?_ ?_
          ·exact dNm 3
          ·exact dInt
         ·exact dNil
       ·refine dCons ?_ ?_
        ·exact dNm 5
        ·exact dNil
theorem ok_without (T : Tx K mg) : Okd P w K mg base 4 "without" ["line", "place", "other"] (spP K 3 f_without) := by
  obtain ⟨f, fd, F, g, b⟩ := T.t_without.ex
  exact ⟨f, fd, okP F sc_without (b_without T), g, F.kp, b⟩
theorem b_reduced (T : Tx K mg) {f : Addr} : Bod P w K mg base n_reduced "reduced" s_reduced f 4 d_reduced := by
  intro cdv A outer s H E hr
  have hu := hr.units
  have hu5 := room65 hr
  unfold d_reduced
  refine dsCons ?_ ?_
  ·refine dSetF 2 ?_ sc_reduced.nd
   refine fl_lst ?_
   exact dNil
  ·refine dsCons ?_ ?_
   ·refine dFor PassesOwn.never rfl ?_ ?_ ?_
    ·refine diEnum ?_ T.m_enumerate
     refine dCons ?_ ?_
     ·exact dNm 1
     ·exact dNil
    ·refine dgTup rfl ?_
     refine dgCons ?_ ?_
     ·exact dgNm 3 sc_reduced.nd
     ·refine dgCons ?_ ?_
      ·refine dgTup rfl ?_
       refine dgCons ?_ ?_
       ·exact dgNm 4 sc_reduced.nd
       ·refine dgCons ?_ ?_
        ·exact dgNm 5 sc_reduced.nd
        ·exact dgNil
      ·exact dgNil
    ·refine dsOne ?_
     refine dApp (pe_bm PySem.F.plainAttrs_list PySem.F.slot_list_append PySem.F.type_list_append mt_append (owN 2) (pa_cons pe_w pa_nil)) ?_
     refine dTup ?_
     refine dCons ?_ ?_
     ·refine dF ?_
      refine dCallTyF call_list_of cf_list T.m_list (bt "list") ?_
      refine dCons ?_ ?_
      ·exact dNm 4
      ·exact dNil
     ·refine dCons ?_ ?_
      ·exact dNm 5
      ·refine dCons ?_ ?_
       ·refine dF ?_
        refine dLcF (own := [("k", 9)]) rfl sc_reduced.nd ?_ (blkOk_by (own := [("k", 9)]) (N := n_reduced) (sc := defScope s_reduced) (by decide +kernel)) ⟨_, fun _ _ _ _ _ => pg_name (i := 9) sc_reduced.nd rfl (Or.inl rfl), eg_nm (by decide)⟩ (fun _ _ _ _ _ => dtNil) (fun _ _ _ _ _ => dIf (dCmpT (o_eq hu) od_eq (dNm 9) (dNm 3)) (dGlb T.k_ONE) (dGlb T.k_NOUGHT))
        refine diRange1 ?_ T.m_range
        refine dCons ?_ ?_
        ·refine dCallB call_len_seq cd_len T.m_len (bt "len") ?_
         refine dCons ?_ ?_
         ·exact dNm 1
         ·exact dNil
        ·exact dNil
       ·exact dNil
   ·refine dsCons ?_ ?_
    ·refine dSet 6 ?_ sc_reduced.nd
     refine dF ?_
     refine fl_lst ?_
     exact dNil
    ·refine dsCons ?_ ?_
     ·refine dFrz 2 ?_
      refine dFor PassesOwn.never rfl ?_ ?_ ?_
      ·refine diRange1 ?_ T.m_range
       refine dCons ?_ ?_
       ·exact dNm 0
       ·exact dNil
      ·exact dgNm 3 sc_reduced.nd
      ·refine dsCons ?_ ?_
       ·refine dThen 7 ?_
        refine dSetLc 7 (own := [("k", 9), ("line", 8)]) rfl sc_reduced.nd ?_ (blkOk_by (own := [("k", 9), ("line", 8)]) (N := n_reduced) (sc := defScope s_reduced) (by decide +kernel)) ⟨_, fun _ _ _ _ _ => pg_tup rfl (pgs_cons (pg_name (i := 9) sc_reduced.nd rfl (Or.inl rfl)) (pgs_cons (pg_name (i := 8) sc_reduced.nd rfl (Or.inl rfl)) (pgs_nil))), eg_tup (eg_cons (eg_nm (by decide)) (eg_cons (eg_nm (by decide)) (eg_nil)))⟩ (fun _ _ _ _ _ => dtOne (dCmpT (o_ne hu) od_ne (dIx (dIx (dNm 8) (dInt)) (dNm 3)) (dGlb T.k_NOUGHT))) (fun _ _ _ _ _ => dNm 9)
        refine diEnum ?_ T.m_enumerate
        refine dCons ?_ ?_
        ·exact dNm 2
        ·exact dNil
       ·refine dsOne ?_
        refine dIfS ?_ ?_ ?_
        ·refine dTru ?_
         exact dNm 7
        ·refine dsCons ?_ ?_
         ·refine dSet 8 ?_ sc_reduced.nd
          refine dIx ?_ ?_
          ·exact dNm 2
          ·refine dIx ?_ ?_
           ·exact dNm 7
           ·exact dInt
         ·refine dsCons ?_ ?_
          ·refine dSet 8 ?_ sc_reduced.nd
           refine dFnP ⟨ok_scaled T⟩ (hr.mono (by decide)) ?_ defP_len
           refine dCons ?_ ?_
           ·exact dNm 8
           ·refine dCons ?_ ?_
            ·refine dFnP ⟨ok_divided T⟩ (hr.mono (by decide)) ?_ defP_len
             refine dCons ?_ ?_
             ·exact dGlb T.k_ONE
             ·refine dCons ?_ ?_
              ·refine dIx ?_ ?_
               ·refine dIx ?_ ?_
                ·exact dNm 8
                ·exact dInt
               ·exact dNm 3
              ·exact dNil
            ·exact dNil
          ·refine dsCons ?_ ?_
           ·refine dSet 2 ?_ sc_reduced.nd
            refine dAdd ?_ ?_
            ·refine dSl ?_ ?_ ?_
             ·exact dNm 2
             ·exact dNo
             ·refine dSo ?_
              refine dIx ?_ ?_
              ·exact dNm 7
              ·exact dInt
            ·refine dSl ?_ ?_ ?_
             ·exact dNm 2
             ·refine dSo ?_
              refine dAdd ?_ ?_
              ·refine dIx ?_ ?_
               ·exact dNm 7
               ·exact dInt
              ·exact dInt
             ·exact dNo
           ·refine dsCons ?_ ?_
            ·refine dThen 2 ?_
             refine dSetLc 2 (own := [("other", 10)]) rfl sc_reduced.nd ?_ (blkOk_by (own := [("other", 10)]) (N := n_reduced) (sc := defScope s_reduced) (by decide +kernel)) ⟨_, fun _ _ _ _ _ => pg_name (i := 10) sc_reduced.nd rfl (Or.inl rfl), eg_nm (by decide)⟩ (fun _ _ _ _ _ => dtNil) (fun _ _ _ _ _ => dFnP ⟨ok_without T⟩ (hr.mono (by decide)) (dCons (dNm 10) (dCons (dNm 3) (dCons (dNm 8) (dNil)))) defP_len)
             refine diList ?_
             exact dNm 2
            ·refine dsOne ?_
             refine dSet 6 ?_ sc_reduced.nd
             refine dAdd ?_ ?_
             ·refine dF ?_
              refine dLcF (own := [("at", 11), ("other", 10)]) rfl sc_reduced.nd ?_ (blkOk_by (own := [("at", 11), ("other", 10)]) (N := n_reduced) (sc := defScope s_reduced) (by decide +kernel)) ⟨_, fun _ _ _ _ _ => pg_tup rfl (pgs_cons (pg_name (i := 11) sc_reduced.nd rfl (Or.inl rfl)) (pgs_cons (pg_name (i := 10) sc_reduced.nd rfl (Or.inl rfl)) (pgs_nil))), eg_tup (eg_cons (eg_nm (by decide)) (eg_cons (eg_nm (by decide)) (eg_nil)))⟩ (fun _ _ _ _ _ => dtNil) (fun _ _ _ _ _ => dTup (dCons (dNm 11) (dCons (dFnP ⟨ok_without T⟩ (hr.mono (by decide)) (dCons (dNm 10) (dCons (dNm 3) (dCons (dNm 8) (dNil)))) defP_len) (dNil))))
              refine diList ?_
              exact dNm 6
             ·refine dF ?_
              refine fl_lst ?_
              refine dCons ?_ ?_
              ·refine dTup ?_
               refine dCons ?_ ?_
               ·exact dNm 3
               ·refine dCons ?_ ?_
                ·exact dNm 8
                ·exact dNil
              ·exact dNil
        ·exact dsNil
     ·refine dsOne ?_
      refine dRet ?_
      refine dTup ?_
      refine dCons ?_ ?_
      ·exact dNm 6
      ·refine dCons ?_ ?_
       ·exact dNm 2
       ·exact dNil
theorem ok_reduced (T : Tx K mg) : Okd P w K mg base 5 "reduced" ["count", "rows"] (spP K 2 f_reduced) := by
  obtain ⟨f, fd, F, g, b⟩ := T.t_reduced.ex
  exact ⟨f, fd, okP F sc_reduced (b_reduced T), g, F.kp, b⟩
theorem b_solution_of (T : Tx K mg) {f : Addr} : Bod P w K mg base n_solution_of "solution_of" s_solution_of f 0 d_solution_of := by
  intro cdv A outer s H E hr
  have hu := hr.units
  have hu5 := room65 hr
  unfold d_solution_of
  refine dsCons ?_ ?_
  ·refine dSetLc 2 (own := [("place", 3)]) rfl sc_solution_of.nd ?_ (blkOk_by (own := [("place", 3)]) (N := n_solution_of) (sc := defScope s_solution_of) (by decide +kernel)) ⟨_, fun _ _ _ _ _ => pg_name (i := 3) sc_solution_of.nd rfl (Or.inl rfl), eg_nm (by decide)⟩ (fun _ _ _ _ _ => dtNil) (fun _ _ _ _ _ => dGlb T.k_NOUGHT)
   refine diRange1 ?_ T.m_range
   refine dCons ?_ ?_
   ·exact dNm 0
   ·exact dNil
  ·refine dsCons ?_ ?_
   ·refine dFor PassesOwn.never rfl ?_ ?_ ?_
    ·refine diList ?_
     exact dNm 1
    ·refine dgTup rfl ?_
     refine dgCons ?_ ?_
     ·exact dgNm 3 sc_solution_of.nd
     ·refine dgCons ?_ ?_
      ·exact dgNm 4 sc_solution_of.nd
      ·exact dgNil
    ·refine dsOne ?_
     refine dSto ?_ (owN 2) ?_
     ·refine dIx ?_ ?_
      ·exact dNm 4
      ·exact dInt
     ·exact dNm 3
   ·refine dsOne ?_
    exact dRetOw (owN 2)
theorem ok_solution_of (T : Tx K mg) : Okd P w K mg base 1 "solution_of" ["count", "solved"] (spF K 2 f_solution_of) := by
  obtain ⟨f, fd, F, g, b⟩ := T.t_solution_of.ex
  exact ⟨f, fd, okF F sc_solution_of (b_solution_of T), g, F.kp, b⟩
theorem b_only_solution (T : Tx K mg) {f : Addr} : Bod P w K mg base n_only_solution "only_solution" s_only_solution f 5 d_only_solution := by
  intro cdv A outer s H E hr
  have hu := hr.units
  have hu5 := room65 hr
  unfold d_only_solution
  refine dsCons ?_ ?_
  ·refine dAsg ?_ ?_
   ·refine dFnP ⟨ok_reduced T⟩ (hr.mono (by decide)) ?_ defP_len
    refine dCons ?_ ?_
    ·exact dNm 0
    ·refine dCons ?_ ?_
     ·exact dNm 1
     ·exact dNil
   ·refine dgTup rfl ?_
    refine dgCons ?_ ?_
    ·exact dgNm 2 sc_only_solution.nd
    ·refine dgCons ?_ ?_
     ·exact dgNm 3 sc_only_solution.nd
     ·exact dgNil
  ·refine dsCons ?_ ?_
   ·refine dIfS ?_ ?_ ?_
    ·refine DW.dt ?_
     refine dOr ?_ ?_
     ·refine dCmpT op_lt od_cmp ?_ ?_
      ·refine dCallB call_len_seq cd_len T.m_len (bt "len") ?_
       refine dCons ?_ ?_
       ·exact dNm 2
       ·exact dNil
      ·exact dNm 0
     ·refine dOr1 ?_
      refine dTru ?_
      refine dCallB (cr_any rfl) cd_any T.m_any (bt "any") ?_
      refine dCons ?_ ?_
      ·refine dF ?_
       refine dLcF (own := [("line", 4)]) rfl sc_only_solution.nd ?_ (blkOk_by (own := [("line", 4)]) (N := n_only_solution) (sc := defScope s_only_solution) (by decide +kernel)) ⟨_, fun _ _ _ _ _ => pg_name (i := 4) sc_only_solution.nd rfl (Or.inl rfl), eg_nm (by decide)⟩ (fun _ _ _ _ _ => dtNil) (fun _ _ _ _ _ => dCmp (o_ne hu) od_ne (dIx (dNm 4) (dInt)) (dGlb T.k_NOUGHT))
       refine diList ?_
       exact dNm 3
      ·exact dNil
    ·refine dsOne ?_
     exact dNever
    ·exact dsNil
   ·refine dsOne ?_
    refine dRetF ?_
    refine dFnF ⟨ok_solution_of T⟩ (hr.mono (by decide)) ?_ defF_len
    refine dCons ?_ ?_
    ·exact dNm 0
    ·refine dCons ?_ ?_
     ·exact dNm 2
     ·exact dNil
theorem ok_only_solution (T : Tx K mg) : Okd P w K mg base 6 "only_solution" ["count", "rows"] (spF K 2 f_only_solution) := by
  obtain ⟨f, fd, F, g, b⟩ := T.t_only_solution.ex
  exact ⟨f, fd, okF F sc_only_solution (b_only_solution T), g, F.kp, b⟩
theorem b_branches (T : Tx K mg) {f : Addr} : Bod P w K mg base n_branches "branches" s_branches f 0 d_branches := by
  intro cdv A outer s H E hr
  have hu := hr.units
  have hu5 := room65 hr
  unfold d_branches
  refine dsCons ?_ ?_
  ·refine dIfS ?_ ?_ ?_
   ·refine dCmpT (o_eq hu) od_eq ?_ ?_
    ·refine dIx ?_ ?_
     ·refine dIx ?_ ?_
      ·exact dNm 0
      ·exact dNm 1
     ·exact dInt
    ·exact dStr
   ·refine dsOne ?_
    refine dRetF ?_
    refine dCallTyF call_list_of cf_list T.m_list (bt "list") ?_
    refine dCons ?_ ?_
    ·refine dIx ?_ ?_
     ·refine dIx ?_ ?_
      ·exact dNm 0
      ·exact dNm 1
     ·exact dInt
    ·exact dNil
   ·exact dsNil
  ·refine dsCons ?_ ?_
   ·refine dIfS ?_ ?_ ?_
    ·refine dCmpT (o_eq hu) od_eq ?_ ?_
     ·refine dIx ?_ ?_
      ·refine dIx ?_ ?_
       ·exact dNm 0
       ·exact dNm 1
      ·exact dInt
     ·exact dStr
    ·refine dsOne ?_
     refine dRetF ?_
     refine fl_lst ?_
     refine dCons ?_ ?_
     ·refine dTup ?_
      refine dCons ?_ ?_
      ·exact dGlb T.k_ONE
      ·refine dCons ?_ ?_
       ·refine dIx ?_ ?_
        ·refine dIx ?_ ?_
         ·exact dNm 0
         ·exact dNm 1
        ·exact dInt
       ·exact dNil
     ·exact dNil
    ·exact dsNil
   ·refine dsOne ?_
    refine dRetF ?_
    refine fl_lst ?_
    exact dNil
theorem ok_branches (T : Tx K mg) : Okd P w K mg base 1 "branches" ["chain", "place"] (spF K 2 f_branches) := by
  obtain ⟨f, fd, F, g, b⟩ := T.t_branches.ex
  exact ⟨f, fd, okF F sc_branches (b_branches T), g, F.kp, b⟩
theorem b_means (T : Tx K mg) {f : Addr} : Bod P w K mg base n_means "means" s_means f 6 d_means := by
  intro cdv A outer s H E hr
  have hu := hr.units
  have hu5 := room65 hr
  unfold d_means
  refine dsCons ?_ ?_
  ·refine dSetF 4 ?_ sc_means.nd
   refine fl_lst ?_
   exact dNil
  ·refine dsCons ?_ ?_
   ·refine dFor PassesOwn.never rfl ?_ ?_ ?_
    ·refine diList ?_
     exact dNm 1
    ·exact dgNm 5 sc_means.nd
    ·refine dsCons ?_ ?_
     ·refine dSetLc 6 (own := [("other", 11)]) rfl sc_means.nd ?_ (blkOk_by (own := [("other", 11)]) (N := n_means) (sc := defScope s_means) (by decide +kernel)) ⟨_, fun _ _ _ _ _ => pg_name (i := 11) sc_means.nd rfl (Or.inl rfl), eg_nm (by decide)⟩ (fun _ _ _ _ _ => dtNil) (fun _ _ _ _ _ => dIf (dCmpT (o_eq hu) od_eq (dNm 11) (dNm 5)) (dGlb T.k_ONE) (dGlb T.k_NOUGHT))
      refine diList ?_
      exact dNm 1
     ·refine dsCons ?_ ?_
      ·refine dSet 7 ?_ sc_means.nd
       refine dIx ?_ ?_
       ·exact dNm 2
       ·exact dNm 5
      ·refine dsCons ?_ ?_
       ·refine dFor PassesOwn.never rfl ?_ ?_ ?_
        ·refine diListF ?_
         refine dFnF ⟨ok_branches T⟩ (hr.mono (by decide)) ?_ defF_len
         refine dCons ?_ ?_
         ·exact dNm 0
         ·refine dCons ?_ ?_
          ·exact dNm 5
          ·exact dNil
        ·refine dgTup rfl ?_
         refine dgCons ?_ ?_
         ·exact dgNm 8 sc_means.nd
         ·refine dgCons ?_ ?_
          ·exact dgNm 9 sc_means.nd
          ·exact dgNil
        ·refine dsOne ?_
         refine dIfS ?_ ?_ ?_
         ·refine dCmpT (o_in hu5) od_in ?_ ?_
          ·exact dNm 9
          ·exact dNm 1
         ·refine dsCons ?_ ?_
          ·refine dSet 10 ?_ sc_means.nd
           refine dIndex (pe_bm PySem.F.plainAttrs_list PySem.F.slot_list_index PySem.F.type_list_index (mt_indexD hu5) pe_w (pa_cons pe_w pa_nil)) ?_ ?_
           ·exact dNm 1
           ·exact dNm 9
          ·refine dsOne ?_
           refine dSto ?_ (owN 6) ?_
           ·refine dFnP ⟨ok_minus T⟩ (hr.mono (by decide)) ?_ defP_len
            refine dCons ?_ ?_
            ·refine dIxO (owN 6) ?_
             exact dNm 10
            ·refine dCons ?_ ?_
             ·exact dNm 8
             ·exact dNil
           ·exact dNm 10
         ·refine dsOne ?_
          refine dSet 7 ?_ sc_means.nd
          refine dFnP ⟨ok_plus T⟩ (hr.mono (by decide)) ?_ defP_len
          refine dCons ?_ ?_
          ·exact dNm 7
          ·refine dCons ?_ ?_
           ·refine dFnP ⟨ok_times T⟩ (hr.mono (by decide)) ?_ defP_len
            refine dCons ?_ ?_
            ·exact dNm 8
            ·refine dCons ?_ ?_
             ·refine dIx ?_ ?_
              ·exact dNm 3
              ·exact dNm 9
             ·exact dNil
           ·exact dNil
       ·refine dsOne ?_
        refine dFrz 6 ?_
        refine dApp (pe_bm PySem.F.plainAttrs_list PySem.F.slot_list_append PySem.F.type_list_append mt_append (owN 4) (pa_cons pe_w pa_nil)) ?_
        refine dTup ?_
        refine dCons ?_ ?_
        ·exact dNm 6
        ·refine dCons ?_ ?_
         ·exact dNm 7
         ·exact dNil
   ·refine dsOne ?_
    refine dRetF ?_
    refine dFnFM ⟨ok_only_solution T⟩ (hr.mono (by decide)) ?_ defF_len
    refine dmE ?_ ?_
    ·refine dCallB call_len_seq cd_len T.m_len (bt "len") ?_
     refine dCons ?_ ?_
     ·exact dNm 1
     ·exact dNil
    ·refine dmN (owN 4) ?_
     exact dmNil
theorem ok_means (T : Tx K mg) : Okd P w K mg base 7 "means" ["chain", "unknown", "gains", "known"] (spF K 4 f_means) := by
  obtain ⟨f, fd, F, g, b⟩ := T.t_means.ex
  exact ⟨f, fd, okF F sc_means (b_means T), g, F.kp, b⟩
theorem b_chances (T : Tx K mg) {f : Addr} : Bod P w K mg base n_chances "chances" s_chances f 7 d_chances := by
  intro cdv A outer s H E hr
  have hu := hr.units
  have hu5 := room65 hr
  unfold d_chances
  refine dsCons ?_ ?_
  ·refine dSet 2 ?_ sc_chances.nd
   refine dF ?_
   refine dFnF ⟨ok_all_reached T⟩ (hr.mono (by decide)) ?_ defF_len
   refine dCons ?_ ?_
   ·exact dNm 0
   ·exact dNil
  ·refine dsCons ?_ ?_
   ·refine dSetLc 3 (own := [("place", 7)]) rfl sc_chances.nd ?_ (blkOk_by (own := [("place", 7)]) (N := n_chances) (sc := defScope s_chances) (by decide +kernel)) ⟨_, fun _ _ _ _ _ => pg_name (i := 7) sc_chances.nd rfl (Or.inl rfl), eg_nm (by decide)⟩ (fun _ _ _ _ _ => dtNil) (fun _ _ _ _ _ => dIf (dCmpT (o_in hu5) od_in (dNm 7) (dNm 1)) (dGlb T.k_ONE) (dGlb T.k_NOUGHT))
    refine diRange1 ?_ T.m_range
    refine dCons ?_ ?_
    ·refine dCallB call_len_seq cd_len T.m_len (bt "len") ?_
     refine dCons ?_ ?_
     ·exact dNm 0
     ·exact dNil
    ·exact dNil
   ·refine dsCons ?_ ?_
    ·refine dThen 4 ?_
     refine dSetLc 4 (own := [("place", 7)]) rfl sc_chances.nd ?_ (blkOk_by (own := [("place", 7)]) (N := n_chances) (sc := defScope s_chances) (by decide +kernel)) ⟨_, fun _ _ _ _ _ => pg_name (i := 7) sc_chances.nd rfl (by first | exact Or.inl rfl | exact Or.inr rfl), eg_nm (by decide)⟩ (fun _ _ _ _ _ => dtOne (dTru (dCallB (cr_any rfl) cd_any T.m_any (bt "any") (dCons (dF (dLcF (own := [("goal", 9)]) rfl sc_chances.nd (diList (dNm 1)) (blkOk_by (own := [("goal", 9)]) (by kernel_rfl)) ⟨_, fun _ _ _ _ _ => pg_name (i := 9) sc_chances.nd rfl (Or.inl rfl), eg_nm (by decide)⟩ (fun _ _ _ _ _ => dtNil) (fun _ _ _ _ _ => dCmp (o_in hu5) od_in (dNm 9) (dIx (dNm 2) (dNm 7))))) (dNil))))) (fun _ _ _ _ _ => dNm 7)
     refine diRange1 ?_ T.m_range
     refine dCons ?_ ?_
     ·refine dCallB call_len_seq cd_len T.m_len (bt "len") ?_
      refine dCons ?_ ?_
      ·exact dNm 0
      ·exact dNil
     ·exact dNil
    ·refine dsCons ?_ ?_
     ·refine dThen 5 ?_
      refine dSetLc 5 (own := [("place", 7)]) rfl sc_chances.nd ?_ (blkOk_by (own := [("place", 7)]) (N := n_chances) (sc := defScope s_chances) (by decide +kernel)) ⟨_, fun _ _ _ _ _ => pg_name (i := 7) sc_chances.nd rfl (Or.inl rfl), eg_nm (by decide)⟩ (fun _ _ _ _ _ => dtOne (dCmpT (o_nin hu5) od_in (dNm 7) (dNm 1))) (fun _ _ _ _ _ => dNm 7)
      refine diList ?_
      exact dNm 4
     ·refine dsCons ?_ ?_
      ·refine dSet 6 ?_ sc_chances.nd
       refine dF ?_
       refine dFnFM ⟨ok_means T⟩ (hr.mono (by decide)) ?_ defF_len
       refine dmE ?_ ?_
       ·exact dNm 0
       ·refine dmE ?_ ?_
        ·exact dNm 5
        ·refine dmE ?_ ?_
         ·refine dF ?_
          refine dLcF (own := [("place", 7)]) rfl sc_chances.nd ?_ (blkOk_by (own := [("place", 7)]) (N := n_chances) (sc := defScope s_chances) (by decide +kernel)) ⟨_, fun _ _ _ _ _ => pg_name (i := 7) sc_chances.nd rfl (Or.inl rfl), eg_nm (by decide)⟩ (fun _ _ _ _ _ => dtNil) (fun _ _ _ _ _ => dGlb T.k_NOUGHT)
          refine diList ?_
          exact dNm 0
         ·refine dmN (owN 3) ?_
          exact dmNil
      ·refine dsCons ?_ ?_
       ·refine dFor PassesOwn.never rfl ?_ ?_ ?_
        ·refine diZip ?_ (pi_zip rfl T.m_zip pa_w)
         refine dCons ?_ ?_
         ·exact dNm 5
         ·refine dCons ?_ ?_
          ·exact dNm 6
          ·exact dNil
        ·refine dgTup rfl ?_
         refine dgCons ?_ ?_
         ·exact dgNm 7 sc_chances.nd
         ·refine dgCons ?_ ?_
          ·exact dgNm 8 sc_chances.nd
          ·exact dgNil
        ·refine dsOne ?_
         refine dSto ?_ (owN 3) ?_
         ·exact dNm 8
         ·exact dNm 7
       ·refine dsOne ?_
        exact dRetOw (owN 3)
theorem ok_chances (T : Tx K mg) : Okd P w K mg base 8 "chances" ["chain", "goals"] (spF K 2 f_chances) := by
  obtain ⟨f, fd, F, g, b⟩ := T.t_chances.ex
  exact ⟨f, fd, okF F sc_chances (b_chances T), g, F.kp, b⟩
theorem b_chances_of (T : Tx K mg) {f : Addr} : Bod P w K mg base n_chances_of "chances_of" s_chances_of f 8 d_chances_of := by
  intro cdv A outer s H E hr
  have hu := hr.units
  have hu5 := room65 hr
  unfold d_chances_of
  refine dsCons ?_ ?_
  ·refine dIfS ?_ ?_ ?_
   ·refine dCmpT (o_eq hu) od_eq ?_ ?_
    ·refine dIx ?_ ?_
     ·exact dNm 1
     ·exact dInt
    ·exact dStr
   ·refine dsOne ?_
    refine dRetF ?_
    refine dLcF (own := [("one", 2)]) rfl sc_chances_of.nd ?_ (blkOk_by (own := [("one", 2)]) (N := n_chances_of) (sc := defScope s_chances_of) (by decide +kernel)) ⟨_, fun _ _ _ _ _ => pg_name (i := 2) sc_chances_of.nd rfl (Or.inl rfl), eg_nm (by decide)⟩ (fun _ _ _ _ _ => dtNil) (fun _ _ _ _ _ => dFnP ⟨ok_minus T⟩ (hr.mono (by decide)) (dCons (dGlb T.k_ONE) (dCons (dNm 2) (dNil))) defP_len)
    refine diListF ?_
    refine dFnF ⟨ok_chances T⟩ (hr.mono (by decide)) ?_ defF_len
    refine dCons ?_ ?_
    ·exact dNm 0
    ·refine dCons ?_ ?_
     ·refine dIx ?_ ?_
      ·exact dNm 1
      ·exact dInt
     ·exact dNil
   ·exact dsNil
  ·refine dsOne ?_
   refine dRetF ?_
   refine dFnF ⟨ok_chances T⟩ (hr.mono (by decide)) ?_ defF_len
   refine dCons ?_ ?_
   ·exact dNm 0
   ·refine dCons ?_ ?_
    ·refine dF ?_
     refine dFnF ⟨ok_places_of T⟩ (hr.mono (by decide)) ?_ defF_len
     refine dCons ?_ ?_
     ·exact dNm 0
     ·refine dCons ?_ ?_
      ·refine dIx ?_ ?_
       ·exact dNm 1
       ·exact dInt
      ·exact dNil
    ·exact dNil
theorem ok_chances_of (T : Tx K mg) : Okd P w K mg base 9 "chances_of" ["chain", "condition"] (spF K 2 f_chances_of) := by
  obtain ⟨f, fd, F, g, b⟩ := T.t_chances_of.ex
  exact ⟨f, fd, okF F sc_chances_of (b_chances_of T), g, F.kp, b⟩
theorem b__law_draw (T : Tx K mg) {f : Addr} : Bod P w K mg base n__law_draw "_law_draw" s__law_draw f 0 d__law_draw := by
  intro cdv A outer s H E hr
  have hu := hr.units
  have hu5 := room65 hr
  unfold d__law_draw
  refine dsCons ?_ ?_
  ·refine dIfS ?_ ?_ ?_
   ·refine dCmpT op_lt od_cmp ?_ ?_
    ·refine dIxO (owN 0) ?_
     exact dInt
    ·exact dNm 1
   ·refine dsCons ?_ ?_
    ·refine dSet 2 ?_ sc__law_draw.nd
     exact dInt
    ·refine dsCons ?_ ?_
     ·refine dIfS ?_ ?_ ?_
      ·refine dCmpT op_lt od_cmp ?_ ?_
       ·refine dIxO (owN 0) ?_
        exact dInt
       ·refine dCallB call_len_seq cd_len T.m_len (bt "len") ?_
        refine dCons ?_ ?_
        ·refine dIxO (owN 0) ?_
         exact dInt
        ·exact dNil
      ·refine dsOne ?_
       refine dSet 2 ?_ sc__law_draw.nd
       refine dIx ?_ ?_
       ·refine dIxO (owN 0) ?_
        exact dInt
       ·refine dIxO (owN 0) ?_
        exact dInt
      ·exact dsNil
     ·refine dsCons ?_ ?_
      ·refine dSto ?_ (owN 0) ?_
       ·refine dAdd ?_ ?_
        ·refine dIxO (owN 0) ?_
         exact dInt
        ·exact dInt
       ·exact dInt
      ·refine dsCons ?_ ?_
       ·refine dSto ?_ (owN 0) ?_
        ·exact dNm 2
        ·exact dInt
       ·refine dsOne ?_
        refine dIfS ?_ ?_ ?_
        ·refine dCmpT op_lt od_cmp ?_ ?_
         ·exact dNm 2
         ·refine dPow ?_ ?_
          ·exact dInt
          ·exact dInt
        ·refine dsCons ?_ ?_
         ·refine dSet 3 ?_ sc__law_draw.nd
          refine dMod ?_ ?_
          ·refine dCallTy call_int1 cd_int T.m_int (bt "int") ?_
           refine dCons ?_ ?_
           ·refine dAdd ?_ ?_
            ·refine dMul ?_ ?_
             ·exact dNm 2
             ·exact dInt
            ·refine dMul ?_ ?_
             ·refine dIxO (owN 0) ?_
              exact dInt
             ·exact dInt
           ·exact dNil
          ·exact dInt
         ·refine dsCons ?_ ?_
          ·refine dSet 4 ?_ sc__law_draw.nd
           refine dMod ?_ ?_
           ·refine dCallTy call_int1 cd_int T.m_int (bt "int") ?_
            refine dCons ?_ ?_
            ·refine dAdd ?_ ?_
             ·refine dAdd ?_ ?_
              ·refine dMul ?_ ?_
               ·exact dNm 3
               ·exact dInt
              ·refine dMul ?_ ?_
               ·exact dNm 2
               ·exact dInt
             ·exact dInt
            ·exact dNil
           ·exact dInt
          ·refine dsOne ?_
           refine dSto ?_ (owN 0) ?_
           ·refine dAdd ?_ ?_
            ·refine dAdd ?_ ?_
             ·refine dMul ?_ ?_
              ·exact dNm 4
              ·exact dInt
             ·exact dNm 3
            ·refine dPow ?_ ?_
             ·exact dInt
             ·exact dInt
           ·exact dInt
        ·exact dsNil
   ·exact dsNil
  ·refine dsCons ?_ ?_
   ·refine dSet 5 ?_ sc__law_draw.nd
    refine dMod ?_ ?_
    ·refine dCallTy call_int1 cd_int T.m_int (bt "int") ?_
     refine dCons ?_ ?_
     ·refine dIxO (owN 0) ?_
      exact dInt
     ·exact dNil
    ·exact dNm 1
   ·refine dsCons ?_ ?_
    ·refine dSto ?_ (owN 0) ?_
     ·refine dDiv ?_ ?_
      ·refine dCallTy call_int1 cd_int T.m_int (bt "int") ?_
       refine dCons ?_ ?_
       ·refine dIxO (owN 0) ?_
        exact dInt
       ·exact dNil
      ·exact dNm 1
     ·exact dInt
    ·refine dsOne ?_
     refine dRet ?_
     exact dNm 5
theorem ok__law_draw (T : Tx K mg) : Okd P w K mg base 1 "_law_draw" ["_law_stream", "_law_many"] (spI K 2 f__law_draw) := by
  obtain ⟨f, fd, F, g, b⟩ := T.t__law_draw.ex
  exact ⟨f, fd, okI F sc__law_draw (b__law_draw T), g, F.kp, b⟩
theorem b__law_number (T : Tx K mg) {f : Addr} : Bod P w K mg base n__law_number "_law_number" s__law_number f 0 d__law_number := by
  intro cdv A outer s H E hr
  have hu := hr.units
  have hu5 := room65 hr
  unfold d__law_number
  refine dsCons ?_ ?_
  ·refine dIfS ?_ ?_ ?_
   ·refine dCmpT op_lt od_cmp ?_ ?_
    ·exact dNm 1
    ·exact dInt
   ·refine dsOne ?_
    refine dPar ?_ (ps_par (i := 0) (j := 1) rfl sc__law_number.nd rfl rfl (by decide) rfl rfl pa_w rfl)
    refine dCons ?_ ?_
    ·refine dSub ?_ ?_
     ·exact dInt
     ·exact dNm 0
    ·refine dCons ?_ ?_
     ·refine dSub ?_ ?_
      ·exact dInt
      ·exact dNm 1
     ·exact dNil
   ·exact dsNil
  ·refine dsCons ?_ ?_
   ·refine dPar ?_ (ps_par (i := 2) (j := 3) rfl sc__law_number.nd rfl rfl (by decide) rfl rfl pa_w rfl)
    refine dCons ?_ ?_
    ·refine dCallB call_abs cd_abs T.m_abs (bt "abs") ?_
     refine dCons ?_ ?_
     ·exact dNm 0
     ·exact dNil
    ·refine dCons ?_ ?_
     ·exact dNm 1
     ·exact dNil
   ·refine dsCons ?_ ?_
    ·refine dWhile PassesOwn.never ?_ ?_
     ·refine dCmpT (o_ne hu) od_ne ?_ ?_
      ·exact dNm 3
      ·exact dInt
     ·refine dsOne ?_
      refine dPar ?_ (ps_par (i := 2) (j := 3) rfl sc__law_number.nd rfl rfl (by decide) rfl rfl pa_w rfl)
      refine dCons ?_ ?_
      ·exact dNm 3
      ·refine dCons ?_ ?_
       ·refine dMod ?_ ?_
        ·refine dCallTy call_int1 cd_int T.m_int (bt "int") ?_
         refine dCons ?_ ?_
         ·exact dNm 2
         ·exact dNil
        ·exact dNm 3
       ·exact dNil
    ·refine dsOne ?_
     refine dRet ?_
     refine dTup ?_
     refine dCons ?_ ?_
     ·refine dDiv ?_ ?_
      ·exact dNm 0
      ·exact dNm 2
     ·refine dCons ?_ ?_
      ·refine dDiv ?_ ?_
       ·exact dNm 1
       ·exact dNm 2
      ·exact dNil
theorem ok__law_number (T : Tx K mg) : Okd P w K mg base 1 "_law_number" ["_law_n", "_law_d"] (spP K 2 f__law_number) := by
  obtain ⟨f, fd, F, g, b⟩ := T.t__law_number.ex
  exact ⟨f, fd, okP F sc__law_number (b__law_number T), g, F.kp, b⟩
theorem b__law_plus (T : Tx K mg) {f : Addr} : Bod P w K mg base n__law_plus "_law_plus" s__law_plus f 1 d__law_plus := by
  intro cdv A outer s H E hr
  have hu := hr.units
  have hu5 := room65 hr
  unfold d__law_plus
  refine dsOne ?_
  refine dRet ?_
  refine dFnP ⟨ok__law_number T⟩ (hr.mono (by decide)) ?_ defP_len
  refine dCons ?_ ?_
  ·refine dAdd ?_ ?_
   ·refine dMul ?_ ?_
    ·refine dIx ?_ ?_
     ·exact dNm 0
     ·exact dInt
    ·refine dIx ?_ ?_
     ·exact dNm 1
     ·exact dInt
   ·refine dMul ?_ ?_
    ·refine dIx ?_ ?_
     ·exact dNm 1
     ·exact dInt
    ·refine dIx ?_ ?_
     ·exact dNm 0
     ·exact dInt
  ·refine dCons ?_ ?_
   ·refine dMul ?_ ?_
    ·refine dIx ?_ ?_
     ·exact dNm 0
     ·exact dInt
    ·refine dIx ?_ ?_
     ·exact dNm 1
     ·exact dInt
   ·exact dNil
theorem ok__law_plus (T : Tx K mg) : Okd P w K mg base 2 "_law_plus" ["_law_a", "_law_b"] (spP K 2 f__law_plus) := by
  obtain ⟨f, fd, F, g, b⟩ := T.t__law_plus.ex
  exact ⟨f, fd, okP F sc__law_plus (b__law_plus T), g, F.kp, b⟩
theorem b__law_times (T : Tx K mg) {f : Addr} : Bod P w K mg base n__law_times "_law_times" s__law_times f 1 d__law_times := by
  intro cdv A outer s H E hr
  have hu := hr.units
  have hu5 := room65 hr
  unfold d__law_times
  refine dsOne ?_
  refine dRet ?_
  refine dFnP ⟨ok__law_number T⟩ (hr.mono (by decide)) ?_ defP_len
  refine dCons ?_ ?_
  ·refine dMul ?_ ?_
   ·refine dIx ?_ ?_
    ·exact dNm 0
    ·exact dInt
   ·refine dIx ?_ ?_
    ·exact dNm 1
    ·exact dInt
  ·refine dCons ?_ ?_
   ·refine dMul ?_ ?_
    ·refine dIx ?_ ?_
     ·exact dNm 0
     ·exact dInt
    ·refine dIx ?_ ?_
     ·exact dNm 1
     ·exact dInt
   ·exact dNil
theorem ok__law_times (T : Tx K mg) : Okd P w K mg base 2 "_law_times" ["_law_a", "_law_b"] (spP K 2 f__law_times) := by
  obtain ⟨f, fd, F, g, b⟩ := T.t__law_times.ex
  exact ⟨f, fd, okP F sc__law_times (b__law_times T), g, F.kp, b⟩
theorem b__law_less (T : Tx K mg) {f : Addr} : Bod P w K mg base n__law_less "_law_less" s__law_less f 0 d__law_less := by
  intro cdv A outer s H E hr
  have hu := hr.units
  have hu5 := room65 hr
  unfold d__law_less
  refine dsOne ?_
  refine dRet ?_
  refine dCmp op_lt od_cmp ?_ ?_
  ·refine dMul ?_ ?_
   ·refine dIx ?_ ?_
    ·exact dNm 0
    ·exact dInt
   ·refine dIx ?_ ?_
    ·exact dNm 1
    ·exact dInt
  ·refine dMul ?_ ?_
   ·refine dIx ?_ ?_
    ·exact dNm 1
    ·exact dInt
   ·refine dIx ?_ ?_
    ·exact dNm 0
    ·exact dInt
theorem ok__law_less (T : Tx K mg) : Okd P w K mg base 1 "_law_less" ["_law_a", "_law_b"] (spP K 2 f__law_less) := by
  obtain ⟨f, fd, F, g, b⟩ := T.t__law_less.ex
  exact ⟨f, fd, okP F sc__law_less (b__law_less T), g, F.kp, b⟩
theorem b__law_shares (T : Tx K mg) {f : Addr} : Bod P w K mg base n__law_shares "_law_shares" s__law_shares f 1 d__law_shares := by
  intro cdv A outer s H E hr
  have hu := hr.units
  have hu5 := room65 hr
  unfold d__law_shares
  refine dsCons ?_ ?_
  ·refine dSet 2 ?_ sc__law_shares.nd
   refine dF ?_
   refine dLcF (own := [("_law_turn", 3)]) rfl sc__law_shares.nd ?_ (blkOk_by (own := [("_law_turn", 3)]) (N := n__law_shares) (sc := defScope s__law_shares) (by decide +kernel)) ⟨_, fun _ _ _ _ _ => pg_name (i := 3) sc__law_shares.nd rfl (Or.inl rfl), eg_nm (by decide)⟩ (fun _ _ _ _ _ => dtNil) (fun _ _ _ _ _ => dAdd (dInt) (dFnI ⟨ok__law_draw T⟩ (hr.mono (by decide)) (owN 0) (dCons (dInt) (dNil)) defI_len))
   refine diRange1 ?_ T.m_range
   refine dCons ?_ ?_
   ·exact dNm 1
   ·exact dNil
  ·refine dsOne ?_
   refine dRetF ?_
   refine dLcF (own := [("_law_part_here", 4)]) rfl sc__law_shares.nd ?_ (blkOk_by (own := [("_law_part_here", 4)]) (N := n__law_shares) (sc := defScope s__law_shares) (by decide +kernel)) ⟨_, fun _ _ _ _ _ => pg_name (i := 4) sc__law_shares.nd rfl (Or.inl rfl), eg_nm (by decide)⟩ (fun _ _ _ _ _ => dtNil) (fun _ _ _ _ _ => dFnP ⟨ok__law_number T⟩ (hr.mono (by decide)) (dCons (dNm 4) (dCons (dCallB (cr_sum rfl) cd_sum T.m_sum (bt "sum") (dCons (dNm 2) (dNil))) (dNil))) defP_len)
   refine diList ?_
   exact dNm 2
theorem ok__law_shares (T : Tx K mg) : Okd P w K mg base 2 "_law_shares" ["_law_stream", "_law_many"] (spIF K 2 f__law_shares) := by
  obtain ⟨f, fd, F, g, b⟩ := T.t__law_shares.ex
  exact ⟨f, fd, okIF F sc__law_shares (b__law_shares T), g, F.kp, b⟩
theorem b__law_place (T : Tx K mg) {f : Addr} : Bod P w K mg base n__law_place "_law_place" s__law_place f 2 d__law_place := by
  intro cdv A outer s H E hr
  have hu := hr.units
  have hu5 := room65 hr
  unfold d__law_place
  refine dsCons ?_ ?_
  ·refine dIfS ?_ ?_ ?_
   ·refine dCmpT (o_eq hu) od_eq ?_ ?_
    ·exact dNm 1
    ·exact dStr
   ·refine dsCons ?_ ?_
    ·refine dSet 3 ?_ sc__law_place.nd
     refine dF ?_
     refine dFnIF ⟨ok__law_shares T⟩ (hr.mono (by decide)) (owN 0) ?_ defIF_len
     refine dCons ?_ ?_
     ·refine dIx ?_ ?_
      ·refine dF ?_
       refine fl_lst ?_
       refine dCons ?_ ?_
       ·exact dInt
       ·refine dCons ?_ ?_
        ·exact dInt
        ·refine dCons ?_ ?_
         ·exact dInt
         ·refine dCons ?_ ?_
          ·exact dInt
          ·refine dCons ?_ ?_
           ·exact dInt
           ·refine dCons ?_ ?_
            ·exact dInt
            ·exact dNil
      ·refine dFnI ⟨ok__law_draw T⟩ (hr.mono (by decide)) (owN 0) ?_ defI_len
       refine dCons ?_ ?_
       ·exact dInt
       ·exact dNil
     ·exact dNil
    ·refine dsOne ?_
     refine dRet ?_
     refine dTup ?_
     refine dCons ?_ ?_
     ·exact dStr
     ·refine dCons ?_ ?_
      ·refine dF ?_
       refine dLcF (own := [("_law_share", 5)]) rfl sc__law_place.nd ?_ (blkOk_by (own := [("_law_share", 5)]) (N := n__law_place) (sc := defScope s__law_place) (by decide +kernel)) ⟨_, fun _ _ _ _ _ => pg_name (i := 5) sc__law_place.nd rfl (Or.inl rfl), eg_nm (by decide)⟩ (fun _ _ _ _ _ => dtNil) (fun _ _ _ _ _ => dTup (dCons (dNm 5) (dCons (dFnI ⟨ok__law_draw T⟩ (hr.mono (by decide)) (owN 0) (dCons (dNm 2) (dNil)) defI_len) (dNil))))
       refine diList ?_
       exact dNm 3
      ·exact dNil
   ·exact dsNil
  ·refine dsCons ?_ ?_
   ·refine dIfS ?_ ?_ ?_
    ·refine DW.dt ?_
     refine dOr ?_ ?_
     ·refine dCmpT (o_eq hu) od_eq ?_ ?_
      ·exact dNm 1
      ·exact dStr
     ·refine dOr1 ?_
      refine dCmpT (o_eq hu) od_eq ?_ ?_
      ·exact dNm 1
      ·exact dStr
    ·refine dsOne ?_
     refine dRet ?_
     refine dTup ?_
     refine dCons ?_ ?_
     ·exact dNm 1
     ·refine dCons ?_ ?_
      ·refine dF ?_
       refine dLcF (own := [("_law_turn", 6)]) rfl sc__law_place.nd ?_ (blkOk_by (own := [("_law_turn", 6)]) (N := n__law_place) (sc := defScope s__law_place) (by decide +kernel)) ⟨_, fun _ _ _ _ _ => pg_name (i := 6) sc__law_place.nd rfl (Or.inl rfl), eg_nm (by decide)⟩ (fun _ _ _ _ _ => dtNil) (fun _ _ _ _ _ => dFnI ⟨ok__law_draw T⟩ (hr.mono (by decide)) (owN 0) (dCons (dNm 2) (dNil)) defI_len)
       refine diRange1 ?_ T.m_range
       refine dCons ?_ ?_
       ·refine dIx ?_ ?_
        ·refine dF ?_
         refine fl_lst ?_
         refine dCons ?_ ?_
         ·exact dInt
         ·refine dCons ?_ ?_
          ·exact dInt
          ·refine dCons ?_ ?_
           ·exact dInt
           ·refine dCons ?_ ?_
            ·exact dInt
            ·refine dCons ?_ ?_
             ·exact dInt
             ·refine dCons ?_ ?_
              ·exact dInt
              ·exact dNil
        ·refine dFnI ⟨ok__law_draw T⟩ (hr.mono (by decide)) (owN 0) ?_ defI_len
         refine dCons ?_ ?_
         ·exact dInt
         ·exact dNil
       ·exact dNil
      ·exact dNil
    ·exact dsNil
   ·refine dsCons ?_ ?_
    ·refine dIfS ?_ ?_ ?_
     ·refine dCmpT (o_eq hu) od_eq ?_ ?_
      ·exact dNm 1
      ·exact dStr
     ·refine dsCons ?_ ?_
      ·refine dSet 4 ?_ sc__law_place.nd
       refine dFnP ⟨ok__law_number T⟩ (hr.mono (by decide)) ?_ defP_len
       refine dCons ?_ ?_
       ·refine dFnI ⟨ok__law_draw T⟩ (hr.mono (by decide)) (owN 0) ?_ defI_len
        refine dCons ?_ ?_
        ·exact dInt
        ·exact dNil
       ·refine dCons ?_ ?_
        ·refine dAdd ?_ ?_
         ·exact dInt
         ·refine dFnI ⟨ok__law_draw T⟩ (hr.mono (by decide)) (owN 0) ?_ defI_len
          refine dCons ?_ ?_
          ·exact dInt
          ·exact dNil
        ·exact dNil
      ·refine dsOne ?_
       refine dRet ?_
       refine dTup ?_
       refine dCons ?_ ?_
       ·exact dStr
       ·refine dCons ?_ ?_
        ·exact dNm 4
        ·refine dCons ?_ ?_
         ·refine dFnI ⟨ok__law_draw T⟩ (hr.mono (by decide)) (owN 0) ?_ defI_len
          refine dCons ?_ ?_
          ·exact dNm 2
          ·exact dNil
         ·exact dNil
     ·exact dsNil
    ·refine dsOne ?_
     refine dRet ?_
     refine dTup ?_
     refine dCons ?_ ?_
     ·exact dNm 1
     ·exact dNil
theorem ok__law_place (T : Tx K mg) : Okd P w K mg base 3 "_law_place" ["_law_stream", "_law_kind", "_law_many"] (spI K 3 f__law_place) := by
  obtain ⟨f, fd, F, g, b⟩ := T.t__law_place.ex
  exact ⟨f, fd, okI F sc__law_place (b__law_place T), g, F.kp, b⟩
theorem b__law_game (T : Tx K mg) {f : Addr} : Bod P w K mg base n__law_game "_law_game" s__law_game f 3 d__law_game := by
  intro cdv A outer s H E hr
  have hu := hr.units
  have hu5 := room65 hr
  unfold d__law_game
  refine dsCons ?_ ?_
  ·refine dSet 3 ?_ sc__law_game.nd
   refine dAdd ?_ ?_
   ·exact dInt
   ·refine dFnI ⟨ok__law_draw T⟩ (hr.mono (by decide)) (owN 0) ?_ defI_len
    refine dCons ?_ ?_
    ·exact dNm 1
    ·exact dNil
  ·refine dsCons ?_ ?_
   ·refine dIfS ?_ ?_ ?_
    ·refine dCmpT (o_eq hu) od_eq ?_ ?_
     ·refine dFnI ⟨ok__law_draw T⟩ (hr.mono (by decide)) (owN 0) ?_ defI_len
      refine dCons ?_ ?_
      ·exact dInt
      ·exact dNil
     ·exact dInt
    ·refine dsOne ?_
     refine dSet 3 ?_ sc__law_game.nd
     refine dAdd ?_ ?_
     ·exact dNm 1
     ·exact dInt
    ·exact dsNil
   ·refine dsCons ?_ ?_
    ·refine dSetLc 4 (own := [("_law_place_here", 5)]) rfl sc__law_game.nd ?_ (blkOk_by (own := [("_law_place_here", 5)]) (N := n__law_game) (sc := defScope s__law_game) (by decide +kernel)) ⟨_, fun _ _ _ _ _ => pg_name (i := 5) sc__law_game.nd rfl (Or.inl rfl), eg_nm (by decide)⟩ (fun _ _ _ _ _ => dtNil) (fun _ _ _ _ _ => dFnI ⟨ok__law_place T⟩ (hr.mono (by decide)) (owN 0) (dCons (dIx (dNm 2) (dFnI ⟨ok__law_draw T⟩ (hr.mono (by decide)) (owN 0) (dCons (dCallB call_len_seq cd_len T.m_len (bt "len") (dCons (dNm 2) (dNil))) (dNil)) defI_len)) (dCons (dNm 3) (dNil))) defI_len)
     refine diRange1 ?_ T.m_range
     refine dCons ?_ ?_
     ·exact dNm 3
     ·exact dNil
    ·refine dsCons ?_ ?_
     ·refine dIfS ?_ ?_ ?_
      ·refine dCmpT op_gt od_cmp ?_ ?_
       ·refine dFnI ⟨ok__law_draw T⟩ (hr.mono (by decide)) (owN 0) ?_ defI_len
        refine dCons ?_ ?_
        ·exact dInt
        ·exact dNil
       ·exact dInt
      ·refine dsOne ?_
       refine dSto ?_ (owN 4) ?_
       ·refine dTup ?_
        refine dCons ?_ ?_
        ·exact dStr
        ·exact dNil
       ·refine dSub ?_ ?_
        ·exact dNm 3
        ·exact dInt
      ·exact dsNil
     ·refine dsOne ?_
      exact dRetOw (owN 4)
theorem ok__law_game (T : Tx K mg) : Okd P w K mg base 4 "_law_game" ["_law_stream", "_law_most", "_law_kinds"] (spIF K 3 f__law_game) := by
  obtain ⟨f, fd, F, g, b⟩ := T.t__law_game.ex
  exact ⟨f, fd, okIF F sc__law_game (b__law_game T), g, F.kp, b⟩
theorem b__law_targets (T : Tx K mg) {f : Addr} : Bod P w K mg base n__law_targets "_law_targets" s__law_targets f 0 d__law_targets := by
  intro cdv A outer s H E hr
  have hu := hr.units
  have hu5 := room65 hr
  unfold d__law_targets
  refine dsCons ?_ ?_
  ·refine dIfS ?_ ?_ ?_
   ·refine dCmpT (o_eq hu) od_eq ?_ ?_
    ·refine dIx ?_ ?_
     ·exact dNm 0
     ·exact dInt
    ·exact dStr
   ·refine dsOne ?_
    refine dRetF ?_
    refine dLcF (own := [("_law_branch", 1)]) rfl sc__law_targets.nd ?_ (blkOk_by (own := [("_law_branch", 1)]) (N := n__law_targets) (sc := defScope s__law_targets) (by decide +kernel)) ⟨_, fun _ _ _ _ _ => pg_name (i := 1) sc__law_targets.nd rfl (Or.inl rfl), eg_nm (by decide)⟩ (fun _ _ _ _ _ => dtNil) (fun _ _ _ _ _ => dIx (dNm 1) (dInt))
    refine diList ?_
    refine dIx ?_ ?_
    ·exact dNm 0
    ·exact dInt
   ·exact dsNil
  ·refine dsCons ?_ ?_
   ·refine dIfS ?_ ?_ ?_
    ·refine dCmpT (o_eq hu) od_eq ?_ ?_
     ·refine dIx ?_ ?_
      ·exact dNm 0
      ·exact dInt
     ·exact dStr
    ·refine dsOne ?_
     refine dRetF ?_
     refine fl_lst ?_
     refine dCons ?_ ?_
     ·refine dIx ?_ ?_
      ·exact dNm 0
      ·exact dInt
     ·exact dNil
    ·exact dsNil
   ·refine dsCons ?_ ?_
    ·refine dIfS ?_ ?_ ?_
     ·refine DW.dt ?_
      refine dOr ?_ ?_
      ·refine dCmpT (o_eq hu) od_eq ?_ ?_
       ·refine dIx ?_ ?_
        ·exact dNm 0
        ·exact dInt
       ·exact dStr
      ·refine dOr1 ?_
       refine dCmpT (o_eq hu) od_eq ?_ ?_
       ·refine dIx ?_ ?_
        ·exact dNm 0
        ·exact dInt
       ·exact dStr
     ·refine dsOne ?_
      refine dRetF ?_
      refine dCallTyF call_list_of cf_list T.m_list (bt "list") ?_
      refine dCons ?_ ?_
      ·refine dIx ?_ ?_
       ·exact dNm 0
       ·exact dInt
      ·exact dNil
     ·exact dsNil
    ·refine dsOne ?_
     refine dRetF ?_
     refine fl_lst ?_
     exact dNil
theorem ok__law_targets (T : Tx K mg) : Okd P w K mg base 1 "_law_targets" ["_law_place_here"] (spF K 1 f__law_targets) := by
  obtain ⟨f, fd, F, g, b⟩ := T.t__law_targets.ex
  exact ⟨f, fd, okF F sc__law_targets (b__law_targets T), g, F.kp, b⟩
theorem b__law_walk (T : Tx K mg) {f : Addr} : Bod P w K mg base n__law_walk "_law_walk" s__law_walk f 1 d__law_walk := by
  intro cdv A outer s H E hr
  have hu := hr.units
  have hu5 := room65 hr
  unfold d__law_walk
  refine dsCons ?_ ?_
  ·refine dSetF 3 ?_ sc__law_walk.nd
   refine fl_lst ?_
   refine dCons ?_ ?_
   ·exact dNm 2
   ·exact dNil
  ·refine dsCons ?_ ?_
   ·refine dFor PassesOwn.never rfl ?_ ?_ ?_
    ·refine diRange1 ?_ T.m_range
     refine dCons ?_ ?_
     ·refine dFnI ⟨ok__law_draw T⟩ (hr.mono (by decide)) (owN 0) ?_ defI_len
      refine dCons ?_ ?_
      ·exact dInt
      ·exact dNil
     ·exact dNil
    ·exact dgNm 4 sc__law_walk.nd
    ·refine dsCons ?_ ?_
     ·refine dSet 5 ?_ sc__law_walk.nd
      refine dF ?_
      refine dFnF ⟨ok__law_targets T⟩ (hr.mono (by decide)) ?_ defF_len
      refine dCons ?_ ?_
      ·refine dIx ?_ ?_
       ·exact dNm 1
       ·refine dIxO (owN 3) ?_
        refine dSub ?_ ?_
        ·refine dCallBM call_len_seq cd_len T.m_len (bt "len") ?_
         refine dmN (owN 3) ?_
         exact dmNil
        ·exact dInt
      ·exact dNil
     ·refine dsOne ?_
      refine dIfS ?_ ?_ ?_
      ·refine dCmpT op_gt od_cmp ?_ ?_
       ·refine dCallB call_len_seq cd_len T.m_len (bt "len") ?_
        refine dCons ?_ ?_
        ·exact dNm 5
        ·exact dNil
       ·exact dInt
      ·refine dsOne ?_
       refine dApp (pe_bm PySem.F.plainAttrs_list PySem.F.slot_list_append PySem.F.type_list_append mt_append (owN 3) (pa_cons pe_w pa_nil)) ?_
       refine dIx ?_ ?_
       ·exact dNm 5
       ·refine dFnI ⟨ok__law_draw T⟩ (hr.mono (by decide)) (owN 0) ?_ defI_len
        refine dCons ?_ ?_
        ·refine dCallB call_len_seq cd_len T.m_len (bt "len") ?_
         refine dCons ?_ ?_
         ·exact dNm 5
         ·exact dNil
        ·exact dNil
      ·exact dsNil
   ·refine dsOne ?_
    exact dRetOw (owN 3)
theorem ok__law_walk (T : Tx K mg) : Okd P w K mg base 2 "_law_walk" ["_law_stream", "_law_game_here", "_law_place_here"] (spIF K 3 f__law_walk) := by
  obtain ⟨f, fd, F, g, b⟩ := T.t__law_walk.ex
  exact ⟨f, fd, okIF F sc__law_walk (b__law_walk T), g, F.kp, b⟩
theorem b__law_step (T : Tx K mg) {f : Addr} : Bod P w K mg base n__law_step "_law_step" s__law_step f 2 d__law_step := by
  intro cdv A outer s H E hr
  have hu := hr.units
  have hu5 := room65 hr
  unfold d__law_step
  refine dsCons ?_ ?_
  ·refine dIfS ?_ ?_ ?_
   ·refine dCmpT (o_ne hu) od_ne ?_ ?_
    ·refine dIx ?_ ?_
     ·exact dNm 0
     ·exact dInt
    ·exact dStr
   ·refine dsOne ?_
    refine dRet ?_
    refine dTup ?_
    refine dCons ?_ ?_
    ·exact dInt
    ·refine dCons ?_ ?_
     ·exact dInt
     ·exact dNil
   ·exact dsNil
  ·refine dsCons ?_ ?_
   ·refine dSet 2 ?_ sc__law_step.nd
    refine dTup ?_
    refine dCons ?_ ?_
    ·exact dInt
    ·refine dCons ?_ ?_
     ·exact dInt
     ·exact dNil
   ·refine dsCons ?_ ?_
    ·refine dFor PassesOwn.never rfl ?_ ?_ ?_
     ·refine diList ?_
      refine dIx ?_ ?_
      ·exact dNm 0
      ·exact dInt
     ·refine dgTup rfl ?_
      refine dgCons ?_ ?_
      ·exact dgNm 3 sc__law_step.nd
      ·refine dgCons ?_ ?_
       ·exact dgNm 4 sc__law_step.nd
       ·exact dgNil
     ·refine dsOne ?_
      refine dIfS ?_ ?_ ?_
      ·refine dCmpT (o_eq hu) od_eq ?_ ?_
       ·exact dNm 4
       ·exact dNm 1
      ·refine dsOne ?_
       refine dSet 2 ?_ sc__law_step.nd
       refine dFnP ⟨ok__law_plus T⟩ (hr.mono (by decide)) ?_ defP_len
       refine dCons ?_ ?_
       ·exact dNm 2
       ·refine dCons ?_ ?_
        ·exact dNm 3
        ·exact dNil
      ·exact dsNil
    ·refine dsOne ?_
     refine dRet ?_
     exact dNm 2
theorem ok__law_step (T : Tx K mg) : Okd P w K mg base 3 "_law_step" ["_law_place_here", "_law_target"] (spP K 2 f__law_step) := by
  obtain ⟨f, fd, F, g, b⟩ := T.t__law_step.ex
  exact ⟨f, fd, okP F sc__law_step (b__law_step T), g, F.kp, b⟩
theorem b__law_chance (T : Tx K mg) {f : Addr} : Bod P w K mg base n__law_chance "_law_chance" s__law_chance f 3 d__law_chance := by
  intro cdv A outer s H E hr
  have hu := hr.units
  have hu5 := room65 hr
  unfold d__law_chance
  refine dsCons ?_ ?_
  ·refine dSet 2 ?_ sc__law_chance.nd
   refine dTup ?_
   refine dCons ?_ ?_
   ·exact dInt
   ·refine dCons ?_ ?_
    ·exact dInt
    ·exact dNil
  ·refine dsCons ?_ ?_
   ·refine dFor PassesOwn.never rfl ?_ ?_ ?_
    ·refine diRange2 ?_ T.m_range
     refine dCons ?_ ?_
     ·exact dInt
     ·refine dCons ?_ ?_
      ·refine dCallB call_len_seq cd_len T.m_len (bt "len") ?_
       refine dCons ?_ ?_
       ·exact dNm 1
       ·exact dNil
      ·exact dNil
    ·exact dgNm 3 sc__law_chance.nd
    ·refine dsOne ?_
     refine dSet 2 ?_ sc__law_chance.nd
     refine dFnP ⟨ok__law_times T⟩ (hr.mono (by decide)) ?_ defP_len
     refine dCons ?_ ?_
     ·exact dNm 2
     ·refine dCons ?_ ?_
      ·refine dFnP ⟨ok__law_step T⟩ (hr.mono (by decide)) ?_ defP_len
       refine dCons ?_ ?_
       ·refine dIx ?_ ?_
        ·exact dNm 0
        ·refine dIx ?_ ?_
         ·exact dNm 1
         ·refine dSub ?_ ?_
          ·exact dNm 3
          ·exact dInt
       ·refine dCons ?_ ?_
        ·refine dIx ?_ ?_
         ·exact dNm 1
         ·exact dNm 3
        ·exact dNil
      ·exact dNil
   ·refine dsOne ?_
    refine dRet ?_
    exact dNm 2
theorem ok__law_chance (T : Tx K mg) : Okd P w K mg base 4 "_law_chance" ["_law_chain", "_law_run"] (spP K 2 f__law_chance) := by
  obtain ⟨f, fd, F, g, b⟩ := T.t__law_chance.ex
  exact ⟨f, fd, okP F sc__law_chance (b__law_chance T), g, F.kp, b⟩
theorem b_check_held (T : Tx K mg) {f : Addr} : Bod P w K mg base n_check_held "check_held" s_check_held f 9 d_check_held := by
  intro cdv A outer s H E hr
  have hu := hr.units
  have hu5 := room65 hr
  unfold d_check_held
  refine dsCons ?_ ?_
  ·refine dSet 3 ?_ sc_check_held.nd
   refine dF ?_
   refine dFnF ⟨ok_chances_of T⟩ (hr.mono (by decide)) ?_ defF_len
   refine dCons ?_ ?_
   ·exact dNm 0
   ·refine dCons ?_ ?_
    ·exact dNm 2
    ·exact dNil
  ·refine dsCons ?_ ?_
   ·refine dIfS ?_ ?_ ?_
    ·refine dCmpT (o_eq hu) od_eq ?_ ?_
     ·refine dIx ?_ ?_
      ·exact dNm 3
      ·exact dNm 1
     ·exact dGlb T.k_NOUGHT
    ·refine dsOne ?_
     exact dNever
    ·exact dsNil
   ·refine dsOne ?_
    refine dRet ?_
    exact dNm 3
theorem ok_check_held (T : Tx K mg) : Okd P w K mg base 10 "check_held" ["chain", "place", "condition"] (spP K 3 f_check_held) := by
  obtain ⟨f, fd, F, g, b⟩ := T.t_check_held.ex
  exact ⟨f, fd, okP F sc_check_held (b_check_held T), g, F.kp, b⟩
theorem b_run_chance_given (T : Tx K mg) {f : Addr} : Bod P w K mg base n_run_chance_given "run_chance_given" s_run_chance_given f 10 d_run_chance_given := by
  intro cdv A outer s H E hr
  have hu := hr.units
  have hu5 := room65 hr
  unfold d_run_chance_given
  refine dsCons ?_ ?_
  ·refine dSet 3 ?_ sc_run_chance_given.nd
   refine dFnP ⟨ok_chance_of T⟩ (hr.mono (by decide)) ?_ defP_len
   refine dCons ?_ ?_
   ·exact dNm 0
   ·refine dCons ?_ ?_
    ·exact dNm 1
    ·exact dNil
  ·refine dsCons ?_ ?_
   ·refine dSet 4 ?_ sc_run_chance_given.nd
    refine dFnP ⟨ok_check_held T⟩ (hr.mono (by decide)) ?_ defP_len
    refine dCons ?_ ?_
    ·exact dNm 0
    ·refine dCons ?_ ?_
     ·refine dIx ?_ ?_
      ·exact dNm 1
      ·exact dInt
     ·refine dCons ?_ ?_
      ·exact dNm 2
      ·exact dNil
   ·refine dsCons ?_ ?_
    ·refine dIfS ?_ ?_ ?_
     ·refine dTru ?_
      refine dCallB (cr_any rfl) cd_any T.m_any (bt "any") ?_
      refine dCons ?_ ?_
      ·refine dF ?_
       refine dLcF (own := [("place", 5)]) rfl sc_run_chance_given.nd ?_ (blkOk_by (own := [("place", 5)]) (N := n_run_chance_given) (sc := defScope s_run_chance_given) (by decide +kernel)) ⟨_, fun _ _ _ _ _ => pg_name (i := 5) sc_run_chance_given.nd rfl (Or.inl rfl), eg_nm (by decide)⟩ (fun _ _ _ _ _ => dtNil) (fun _ _ _ _ _ => dCmp (o_eq hu) od_eq (dIx (dNm 4) (dNm 5)) (dGlb T.k_NOUGHT))
       refine diList ?_
       exact dNm 1
      ·exact dNil
     ·refine dsOne ?_
      refine dRet ?_
      exact dGlb T.k_NOUGHT
     ·exact dsNil
    ·refine dsOne ?_
     refine dRet ?_
     refine dFnP ⟨ok_divided T⟩ (hr.mono (by decide)) ?_ defP_len
     refine dCons ?_ ?_
     ·refine dFnP ⟨ok_times T⟩ (hr.mono (by decide)) ?_ defP_len
      refine dCons ?_ ?_
      ·exact dNm 3
      ·refine dCons ?_ ?_
       ·refine dIx ?_ ?_
        ·exact dNm 4
        ·refine dIx ?_ ?_
         ·exact dNm 1
         ·refine dNeg ?_
          exact dInt
       ·exact dNil
     ·refine dCons ?_ ?_
      ·refine dIx ?_ ?_
       ·exact dNm 4
       ·refine dIx ?_ ?_
        ·exact dNm 1
        ·exact dInt
      ·exact dNil
theorem ok_run_chance_given (T : Tx K mg) : OkdK P w K mg base 11 "run_chance_given" ["chain", "run", "condition"] ["condition"] 2 (spP K 3 f_run_chance_given) := by
  obtain ⟨f, fd, F, g, b⟩ := T.t_run_chance_given.ex
  exact ⟨f, fd, okP F sc_run_chance_given (b_run_chance_given T), g, F.kp, b⟩
theorem b__law_part (T : Tx K mg) {f : Addr} : Bod P w K mg base n__law_part "_law_part" s__law_part f 11 d__law_part := by
  intro cdv A outer s H E hr
  have hu := hr.units
  have hu5 := room65 hr
  unfold d__law_part
  refine dsCons ?_ ?_
  ·refine dSet 3 ?_ sc__law_part.nd
   refine dF ?_
   refine dFnF ⟨ok_chances_of T⟩ (hr.mono (by decide)) ?_ defF_len
   refine dCons ?_ ?_
   ·exact dNm 0
   ·refine dCons ?_ ?_
    ·exact dNm 2
    ·exact dNil
  ·refine dsCons ?_ ?_
   ·refine dIfS ?_ ?_ ?_
    ·refine dCmpT (o_eq hu) od_eq ?_ ?_
     ·refine dIx ?_ ?_
      ·exact dNm 3
      ·refine dIx ?_ ?_
       ·exact dNm 1
       ·exact dInt
     ·refine dTup ?_
      refine dCons ?_ ?_
      ·exact dInt
      ·refine dCons ?_ ?_
       ·exact dInt
       ·exact dNil
    ·refine dsOne ?_
     refine dRet ?_
     refine dTup ?_
     refine dCons ?_ ?_
     ·exact dInt
     ·refine dCons ?_ ?_
      ·exact dInt
      ·exact dNil
    ·exact dsNil
   ·refine dsOne ?_
    refine dRet ?_
    refine dFnP ⟨ok__law_times T⟩ (hr.mono (by decide)) ?_ defP_len
    refine dCons ?_ ?_
    ·refine dIx ?_ ?_
     ·exact dNm 3
     ·refine dIx ?_ ?_
      ·exact dNm 1
      ·exact dInt
    ·refine dCons ?_ ?_
     ·refine dFnPK ⟨ok_run_chance_given T⟩ (hr.mono (by decide)) ?_ (dkCons (dNm 2) (dkNil)) defP_len
      refine dCons ?_ ?_
      ·exact dNm 0
      ·refine dCons ?_ ?_
       ·exact dNm 1
       ·exact dNil
     ·exact dNil
theorem ok__law_part (T : Tx K mg) : Okd P w K mg base 12 "_law_part" ["_law_chain", "_law_run", "_law_condition"] (spP K 3 f__law_part) := by
  obtain ⟨f, fd, F, g, b⟩ := T.t__law_part.ex
  exact ⟨f, fd, okP F sc__law_part (b__law_part T), g, F.kp, b⟩
theorem at_law (T : Tx K mg) {fa : Addr} {fd : FuncData} (F : Fun K "law" "law" s_law fa fd) : AtA P w K mg base callerA fa fd ["_law_script"] (spS K 1 f_law) := by
  have hb : ∀ (cdv : Value) (s : Shared) (H : Hp), Room 12 (callerA.deeper (envOfC "law" (defScope s_law) s.heap.objs.size fa cdv)) → DSs (cxOf CX0 P w K mg base n_law "law" (defScope s_law) fa cdv callerA [] s H E0).nox (defBody s_law) d_law := by
   intro cdv s H hr
   have hu := hr.units
   have hu5 := room65 hr
   unfold d_law
   refine dsCons ?_ ?_
   ·refine dSetF 1 ?_ sc_law.nd
    refine fl_lst ?_
    refine dCons ?_ ?_
    ·refine dF ?_
     exact dScrL (owN 0) T.m_list
    ·refine dCons ?_ ?_
     ·exact dInt
     ·refine dCons ?_ ?_
      ·exact dInt
      ·exact dNil
   ·refine dsCons ?_ ?_
    ·refine dSet 2 ?_ sc_law.nd
     refine dF ?_
     refine dFnIF ⟨ok__law_game T⟩ (hr.mono (by decide)) (owN 1) ?_ defIF_len
     refine dCons ?_ ?_
     ·exact dInt
     ·refine dCons ?_ ?_
      ·refine dF ?_
       refine fl_lst ?_
       refine dCons ?_ ?_
       ·exact dStr
       ·refine dCons ?_ ?_
        ·exact dStr
        ·refine dCons ?_ ?_
         ·exact dStr
         ·refine dCons ?_ ?_
          ·exact dStr
          ·refine dCons ?_ ?_
           ·exact dStr
           ·refine dCons ?_ ?_
            ·exact dStr
            ·exact dNil
      ·exact dNil
    ·refine dsCons ?_ ?_
     ·refine dThen 3 ?_
      refine dSetLc 3 (own := [("_law_place_here", 5)]) rfl sc_law.nd ?_ (blkOk_by (own := [("_law_place_here", 5)]) (N := n_law) (sc := defScope s_law) (by decide +kernel)) ⟨_, fun _ _ _ _ _ => pg_name (i := 5) sc_law.nd rfl (Or.inl rfl), eg_nm (by decide)⟩ (fun _ _ _ _ _ => dtOne (dCmpT (o_eq hu) od_eq (dCallB call_len_seq cd_len T.m_len (bt "len") (dCons (dF (dFnF ⟨ok__law_targets T⟩ (hr.mono (by decide)) (dCons (dIx (dNm 2) (dNm 5)) (dNil)) defF_len)) (dNil))) (dInt))) (fun _ _ _ _ _ => dNm 5)
      refine diRange1 ?_ T.m_range
      refine dCons ?_ ?_
      ·refine dCallB call_len_seq cd_len T.m_len (bt "len") ?_
       refine dCons ?_ ?_
       ·exact dNm 2
       ·exact dNil
      ·exact dNil
     ·refine dsCons ?_ ?_
      ·refine dSet 4 ?_ sc_law.nd
       refine dF ?_
       refine fl_lst ?_
       refine dCons ?_ ?_
       ·refine dTup ?_
        refine dCons ?_ ?_
        ·exact dStr
        ·exact dNil
       ·refine dCons ?_ ?_
        ·refine dTup ?_
         refine dCons ?_ ?_
         ·exact dStr
         ·exact dNil
        ·refine dCons ?_ ?_
         ·refine dTup ?_
          refine dCons ?_ ?_
          ·exact dStr
          ·refine dCons ?_ ?_
           ·exact dNm 3
           ·exact dNil
         ·exact dNil
      ·refine dsCons ?_ ?_
       ·refine dFor PassesOwn.never rfl ?_ ?_ ?_
        ·refine diRange1 ?_ T.m_range
         refine dCons ?_ ?_
         ·refine dCallB call_len_seq cd_len T.m_len (bt "len") ?_
          refine dCons ?_ ?_
          ·exact dNm 2
          ·exact dNil
         ·exact dNil
        ·exact dgNm 5 sc_law.nd
        ·refine dsCons ?_ ?_
         ·refine dSet 6 ?_ sc_law.nd
          refine dTup ?_
          refine dCons ?_ ?_
          ·exact dInt
          ·refine dCons ?_ ?_
           ·exact dInt
           ·exact dNil
         ·refine dsCons ?_ ?_
          ·refine dFor PassesOwn.never rfl ?_ ?_ ?_
           ·refine diList ?_
            exact dNm 4
           ·exact dgNm 7 sc_law.nd
           ·refine dsOne ?_
            refine dSet 6 ?_ sc_law.nd
            refine dFnP ⟨ok__law_plus T⟩ (hr.mono (by decide)) ?_ defP_len
            refine dCons ?_ ?_
            ·exact dNm 6
            ·refine dCons ?_ ?_
             ·refine dIx ?_ ?_
              ·refine dF ?_
               refine dFnF ⟨ok_chances_of T⟩ (hr.mono (by decide)) ?_ defF_len
               refine dCons ?_ ?_
               ·exact dNm 2
               ·refine dCons ?_ ?_
                ·exact dNm 7
                ·exact dNil
              ·exact dNm 5
             ·exact dNil
          ·refine dsOne ?_
           refine dIfS ?_ ?_ ?_
           ·refine dCmpT (o_ne hu) od_ne ?_ ?_
            ·exact dNm 6
            ·refine dTup ?_
             refine dCons ?_ ?_
             ·exact dInt
             ·refine dCons ?_ ?_
              ·exact dInt
              ·exact dNil
           ·refine dsOne ?_
            refine dRet ?_
            exact dBl
           ·exact dsNil
       ·refine dsCons ?_ ?_
        ·refine dSet 8 ?_ sc_law.nd
         refine dF ?_
         refine dFnIF ⟨ok__law_walk T⟩ (hr.mono (by decide)) (owN 1) ?_ defIF_len
         refine dCons ?_ ?_
         ·exact dNm 2
         ·refine dCons ?_ ?_
          ·refine dFnI ⟨ok__law_draw T⟩ (hr.mono (by decide)) (owN 1) ?_ defI_len
           refine dCons ?_ ?_
           ·refine dCallB call_len_seq cd_len T.m_len (bt "len") ?_
            refine dCons ?_ ?_
            ·exact dNm 2
            ·exact dNil
           ·exact dNil
          ·exact dNil
        ·refine dsCons ?_ ?_
         ·refine dSet 6 ?_ sc_law.nd
          refine dTup ?_
          refine dCons ?_ ?_
          ·exact dInt
          ·refine dCons ?_ ?_
           ·exact dInt
           ·exact dNil
         ·refine dsCons ?_ ?_
          ·refine dFor PassesOwn.never rfl ?_ ?_ ?_
           ·refine diList ?_
            exact dNm 4
           ·exact dgNm 7 sc_law.nd
           ·refine dsOne ?_
            refine dSet 6 ?_ sc_law.nd
            refine dFnP ⟨ok__law_plus T⟩ (hr.mono (by decide)) ?_ defP_len
            refine dCons ?_ ?_
            ·exact dNm 6
            ·refine dCons ?_ ?_
             ·refine dFnP ⟨ok__law_part T⟩ (hr.mono (by decide)) ?_ defP_len
              refine dCons ?_ ?_
              ·exact dNm 2
              ·refine dCons ?_ ?_
               ·exact dNm 8
               ·refine dCons ?_ ?_
                ·exact dNm 7
                ·exact dNil
             ·exact dNil
          ·refine dsCons ?_ ?_
           ·refine dSet 9 ?_ sc_law.nd
            refine dFnP ⟨ok__law_chance T⟩ (hr.mono (by decide)) ?_ defP_len
            refine dCons ?_ ?_
            ·exact dNm 2
            ·refine dCons ?_ ?_
             ·exact dNm 8
             ·exact dNil
           ·refine dsCons ?_ ?_
            ·refine dIfS ?_ ?_ ?_
             ·refine DW.dt ?_
              refine dOr ?_ ?_
              ·refine dCmpT (o_ne hu) od_ne ?_ ?_
               ·exact dNm 6
               ·exact dNm 9
              ·refine dOr1 ?_
               refine dCmpT (o_ne hu) od_ne ?_ ?_
               ·refine dFnP ⟨ok_chance_of T⟩ (hr.mono (by decide)) ?_ defP_len
                refine dCons ?_ ?_
                ·exact dNm 2
                ·refine dCons ?_ ?_
                 ·exact dNm 8
                 ·exact dNil
               ·exact dNm 9
             ·refine dsOne ?_
              refine dRet ?_
              exact dBl
             ·exact dsNil
            ·refine dsCons ?_ ?_
             ·refine dSet 10 ?_ sc_law.nd
              refine dF ?_
              refine dLcF (own := [("_law_place_here", 5)]) rfl sc_law.nd ?_ (blkOk_by (own := [("_law_place_here", 5)]) (N := n_law) (sc := defScope s_law) (by decide +kernel)) ⟨_, fun _ _ _ _ _ => pg_name (i := 5) sc_law.nd rfl (Or.inl rfl), eg_nm (by decide)⟩ (fun _ _ _ _ _ => dtOne (dCmpT (o_eq hu) od_eq (dFnI ⟨ok__law_draw T⟩ (hr.mono (by decide)) (owN 1) (dCons (dInt) (dNil)) defI_len) (dInt))) (fun _ _ _ _ _ => dNm 5)
              refine diRange1 ?_ T.m_range
              refine dCons ?_ ?_
              ·refine dCallB call_len_seq cd_len T.m_len (bt "len") ?_
               refine dCons ?_ ?_
               ·exact dNm 2
               ·exact dNil
              ·exact dNil
             ·refine dsCons ?_ ?_
              ·refine dSet 11 ?_ sc_law.nd
               refine dFnP ⟨ok__law_part T⟩ (hr.mono (by decide)) ?_ defP_len
               refine dCons ?_ ?_
               ·exact dNm 2
               ·refine dCons ?_ ?_
                ·exact dNm 8
                ·refine dCons ?_ ?_
                 ·refine dTup ?_
                  refine dCons ?_ ?_
                  ·exact dStr
                  ·refine dCons ?_ ?_
                   ·exact dNm 10
                   ·exact dNil
                 ·exact dNil
              ·refine dsCons ?_ ?_
               ·refine dSet 12 ?_ sc_law.nd
                refine dF ?_
                refine dFnF ⟨ok_chances_of T⟩ (hr.mono (by decide)) ?_ defF_len
                refine dCons ?_ ?_
                ·exact dNm 2
                ·refine dCons ?_ ?_
                 ·refine dTup ?_
                  refine dCons ?_ ?_
                  ·exact dStr
                  ·refine dCons ?_ ?_
                   ·exact dNm 10
                   ·exact dNil
                 ·exact dNil
               ·refine dsCons ?_ ?_
                ·refine dSet 13 ?_ sc_law.nd
                 refine dFnP ⟨ok__law_times T⟩ (hr.mono (by decide)) ?_ defP_len
                 refine dCons ?_ ?_
                 ·exact dNm 9
                 ·refine dCons ?_ ?_
                  ·refine dIx ?_ ?_
                   ·exact dNm 12
                   ·refine dIx ?_ ?_
                    ·exact dNm 8
                    ·refine dSub ?_ ?_
                     ·refine dCallB call_len_seq cd_len T.m_len (bt "len") ?_
                      refine dCons ?_ ?_
                      ·exact dNm 8
                      ·exact dNil
                     ·exact dInt
                  ·exact dNil
                ·refine dsCons ?_ ?_
                 ·refine dIfS ?_ ?_ ?_
                  ·refine dTru ?_
                   refine dCallB (cr_any rfl) cd_any T.m_any (bt "any") ?_
                   refine dCons ?_ ?_
                   ·refine dF ?_
                    refine dLcF (own := [("_law_place_here", 5)]) rfl sc_law.nd ?_ (blkOk_by (own := [("_law_place_here", 5)]) (N := n_law) (sc := defScope s_law) (by decide +kernel)) ⟨_, fun _ _ _ _ _ => pg_name (i := 5) sc_law.nd rfl (Or.inl rfl), eg_nm (by decide)⟩ (fun _ _ _ _ _ => dtNil) (fun _ _ _ _ _ => dCmp (o_in hu5) od_in (dNm 5) (dNm 10))
                    refine diList ?_
                    exact dNm 8
                   ·exact dNil
                  ·refine dsOne ?_
                   refine dSet 13 ?_ sc_law.nd
                   refine dTup ?_
                   refine dCons ?_ ?_
                   ·exact dInt
                   ·refine dCons ?_ ?_
                    ·exact dInt
                    ·exact dNil
                  ·exact dsNil
                 ·refine dsOne ?_
                  refine dRet ?_
                  refine dAndV ?_ ?_
                  ·refine dCmp (o_eq hu) od_eq ?_ ?_
                   ·exact dNm 11
                   ·exact dNm 13
                  ·refine dOne ?_
                   refine dNotV ?_
                   refine dFnP ⟨ok__law_less T⟩ (hr.mono (by decide)) ?_ defP_len
                   refine dCons ?_ ?_
                   ·exact dNm 9
                   ·refine dCons ?_ ?_
                    ·exact dNm 11
                    ·exact dNil
  exact atA_S F sc_law (k := 12) ⟨rfl, by decide, by decide⟩ hb
end
end Lw
section
open PySem PySem.W PyProof.Rows L2 DK Lw
namespace Lw
theorem tx_says {K : PySem.W.Frag} {h : Heap} {mg : Str → Option Value} (X : K.In h) (G : h.Ns mainGlobals mg) (c : He.SaysD faL fnL K) (e : exL K = true) : Tx K mg := by
  obtain ⟨e0, r0⟩ := He.ba e
  obtain ⟨e1, r1⟩ := He.ba r0
  obtain ⟨e2, r2⟩ := He.ba r1
  exact ⟨df_says X G c 0 0 rfl rfl (fun _ _ _ _ _ _ us hl => match us, hl with | [_, _], _ => rfl),
    df_says X G c 1 1 rfl rfl (fun _ _ _ _ _ _ us hl => match us, hl with | [_, _], _ => rfl),
    df_says X G c 2 2 rfl rfl (fun _ _ _ _ _ _ us hl => match us, hl with | [_, _], _ => rfl),
    df_says X G c 3 3 rfl rfl (fun _ _ _ _ _ _ us hl => match us, hl with | [_, _], _ => rfl),
    df_says X G c 4 4 rfl rfl (fun _ _ _ _ _ _ us hl => match us, hl with | [_, _], _ => rfl),
    df_says X G c 5 5 rfl rfl (fun _ _ _ _ _ _ us hl => match us, hl with | [_, _], _ => rfl),
    df_says X G c 6 6 rfl rfl (fun _ _ _ _ _ _ us hl => match us, hl with | [_, _, _], _ => rfl),
    df_says X G c 7 7 rfl rfl (fun _ _ _ _ _ _ us hl => match us, hl with | [_, _], _ => rfl),
    df_says X G c 8 8 rfl rfl (fun _ _ _ _ _ _ us hl => match us, hl with | [_, _], _ => rfl),
    df_says X G c 9 9 rfl rfl (fun _ _ _ _ _ _ us hl => match us, hl with | [_, _], _ => rfl),
    df_says X G c 10 10 rfl rfl (fun _ _ _ _ _ _ us hl => match us, hl with | [_, _], _ => rfl),
    df_says X G c 11 11 rfl rfl (fun _ _ _ _ _ _ us hl => match us, hl with | [_], _ => rfl),
    df_says X G c 12 12 rfl rfl (fun _ _ _ _ _ _ us hl => match us, hl with | [_, _], _ => rfl),
    df_says X G c 13 13 rfl rfl (fun _ _ _ _ _ _ us hl => match us, hl with | [_, _], _ => rfl),
    df_says X G c 14 14 rfl rfl (fun _ _ _ _ _ _ us hl => match us, hl with | [_, _, _], _ => rfl),
    df_says X G c 15 15 rfl rfl (fun _ _ _ _ _ _ us hl => match us, hl with | [_, _], _ => rfl),
    df_says X G c 16 16 rfl rfl (fun _ _ _ _ _ _ us hl => match us, hl with | [_, _], _ => rfl),
    df_says X G c 17 17 rfl rfl (fun _ _ _ _ _ _ us hl => match us, hl with | [_, _], _ => rfl),
    df_says X G c 18 18 rfl rfl (fun _ _ _ _ _ _ us hl => match us, hl with | [_, _], _ => rfl),
    df_says X G c 19 19 rfl rfl (fun _ _ _ _ _ _ us hl => match us, hl with | [_, _, _, _], _ => rfl),
    df_says X G c 20 20 rfl rfl (fun _ _ _ _ _ _ us hl => match us, hl with | [_, _], _ => rfl),
    df_says X G c 21 21 rfl rfl (fun _ _ _ _ _ _ us hl => match us, hl with | [_, _], _ => rfl),
    df_says X G c 22 22 rfl rfl (fun _ _ _ _ _ _ us hl => match us, hl with | [_, _], _ => rfl),
    df_says X G c 23 23 rfl rfl (fun _ _ _ _ _ _ us hl => match us, hl with | [_, _], _ => rfl),
    df_says X G c 24 24 rfl rfl (fun _ _ _ _ _ _ us hl => match us, hl with | [_, _], _ => rfl),
    df_says X G c 25 25 rfl rfl (fun _ _ _ _ _ _ us hl => match us, hl with | [_, _], _ => rfl),
    df_says X G c 26 26 rfl rfl (fun _ _ _ _ _ _ us hl => match us, hl with | [_, _], _ => rfl),
    df_says X G c 27 27 rfl rfl (fun _ _ _ _ _ _ us hl => match us, hl with | [_, _], _ => rfl),
    df_says X G c 28 28 rfl rfl (fun _ _ _ _ _ _ us hl => match us, hl with | [_, _, _], _ => rfl),
    df_says X G c 29 29 rfl rfl (fun _ _ _ _ _ _ us hl => match us, hl with | [_, _, _], _ => rfl),
    df_says X G c 30 30 rfl rfl (fun _ _ _ _ _ _ us hl => match us, hl with | [_], _ => rfl),
    df_says X G c 31 31 rfl rfl (fun _ _ _ _ _ _ us hl => match us, hl with | [_, _, _], _ => rfl),
    df_says X G c 32 32 rfl rfl (fun _ _ _ _ _ _ us hl => match us, hl with | [_, _], _ => rfl),
    df_says X G c 33 33 rfl rfl (fun _ _ _ _ _ _ us hl => match us, hl with | [_, _], _ => rfl),
    df_says X G c 34 34 rfl rfl (fun _ _ _ _ _ _ us hl => match us, hl with | [_, _, _], _ => rfl),
    dfk_says X G c 35 35 rfl rfl rfl (by decide) (fun _ _ _ _ _ _ us ws h1 h2 => match us, ws, h1, h2 with | [_, _], [_], _, _ => rfl),
    df_says X G c 36 36 rfl rfl (fun _ _ _ _ _ _ us hl => match us, hl with | [_, _, _], _ => rfl),
    df_says X G c 37 37 rfl rfl (fun _ _ _ _ _ _ us hl => match us, hl with | [_], _ => rfl),
    free_says X G c 38 rfl,
    free_says X G c 39 rfl,
    free_says X G c 40 rfl,
    free_says X G c 41 rfl,
    free_says X G c 42 rfl,
    free_says X G c 43 rfl,
    free_says X G c 44 rfl,
    free_says X G c 45 rfl,
    free_says X G c 46 rfl,
    free_says X G c 47 rfl,
    free_says X G c 48 rfl,
    free_says X G c 49 rfl,
    free_says X G c 50 rfl,
    free_says X G c 51 rfl,
    blt_says X G e0,
    num_says X G e1,
    num_says X G e2⟩
end Lw
theorem PySem.Challenge.cw_oddkeep_k72_whole_total_chances_holds : PySem.Challenge.rw_oddkeep_k72_whole_total_chances.Holds := by
  w_on; o_law
  refine HandSHeadRun.head_imp (r := (OpenLaw.row PySem.Challenge.rw_oddkeep_k72_whole_total_chances)) (q := viewL) (H := hkL) (ob := obL) (M := 4000) (loose := looseL) (d := HandSHeadRun.topDef (OpenLaw.row PySem.Challenge.rw_oddkeep_k72_whole_total_chances).prog 56) (kwd := []) obL_eq runL (by kernel_rfl) (by kernel_rfl) (by kernel_rfl) (by rfl) (by first | assumption | decide +kernel) (by decide +kernel) ⟨rfl, rfl, rfl, rfl, rfl, by decide +kernel⟩ ?hw ?hc
  case hw => w_witness2
  case hc =>
    refine claim_walk2 (l := PySem.Challenge.rw_oddkeep_k72_whole_total_chances) (n := 63) (y := "_law_script") rfl (by decide) (by kernel_rfl) ?F
    intro w mg fa h Y G hmg0
    obtain ⟨K, KX, sx⟩ := Y
    have hmg : mg ("law" : PySem.Str) = some (.ref fa) := by
      have e : (HandSHeadRun.topDef (OpenLaw.row PySem.Challenge.rw_oddkeep_k72_whole_total_chances).prog 56).name = ("law" : PySem.Str) := by kernel_rfl
      rw [← e]
      exact hmg0
    have T := tx_says KX G sx.t.d sx.more
    have t_law : DfL K mg "law" s_law "_law_script" fa := dfl_says KX G hmg sx.t.d 37 37 rfl rfl (fun _ _ _ _ _ _ us hl => match us, hl with | [_], _ => rfl) (fun _ _ _ _ _ _ s v => .of_eq rfl)
    obtain ⟨fd, F, bnd⟩ := t_law.ex
    exact ⟨K, spS K 1 f_law, fd, KX, bnd, fun Hs a ns hl sq => law_want Lw.plain_law hl sq, fun base _ _ => at_law T F⟩
end
