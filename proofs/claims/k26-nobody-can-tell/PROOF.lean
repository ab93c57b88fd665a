import PyProof.Rows.All
import Wide.All
import OpenK.AllK
import Wide.FinOn
import HandS.Base
import HandS.Call
import HandS.List
import HandS.Comp
import HandS.Ends
import HandS.Dict
import HandS.Iter
import HandS.Text
import HandS.More
import HandS.Words
import HandS.WordsList
import HandS.WordsDict
import HandS.Deep
import HandS.AnyAll
import HandS.Strs
import HandS.IsInst
import HandS.Conv
import HandS.SortInts
import HandS.Defaults
import HandS.Style
import HandS.Property
import HandS.TryOnly
import KE.GoesEnum
import HandS.Codes
import HandS.HeadHook4
import HandS.GenList
import HandS.DictComp
import KE.KDictZip
import KE.KTurns
import PySem.Challenge.RW_missesnone_k26_whole_nobody_can_tell_wit
import HandS.Head2
import HandS.HeadWalk
import KE.KStateDown
set_option Elab.async false
set_option linter.all false
set_option maxRecDepth 100000
set_option maxHeartbeats 0
/-! Layer A: abstract states without heaps: what a slot stands for, cells that are owned, readings over them. -/
namespace Mn
open PySem PySem.Spec PyProof.Rows L2
/-! ### readings may be made stronger -/
theorem pe_imp {X : Cx} {e : Expr} {t t' : TE} (h : PE X e t) (i : ∀ σ H Q, t' σ H Q → t σ H Q) : PE X e t' := ⟨fun pins s σ H Q I q => h.run pins s σ H Q I (i σ H Q q)⟩
theorem pt_imp {X : Cx} {e : Expr} {t t' : TT} (h : PT X e t) (i : ∀ σ H Q, t' σ H Q → t σ H Q) : PT X e t' := ⟨fun pins s σ H Q I q => h.run pins s σ H Q I (i σ H Q q)⟩
theorem pw_imp {X : Cx} {e : Expr} {t t' : TT} (h : PW X e t) (i : ∀ σ H Q, t' σ H Q → t σ H Q) : PW X e t' := ⟨fun wh pins s σ H Q I q => h.run wh pins s σ H Q I (i σ H Q q)⟩
theorem pa_imp {X : Cx} {es : List Expr} {t t' : TA} (h : PA X es t) (i : ∀ σ H Q, t' σ H Q → t σ H Q) : PA X es t' := ⟨fun pos pins s σ H Q I q => h.run pos pins s σ H Q I (i σ H Q q)⟩
theorem ps_imp {X : Cx} {st : Stmt} {t t' : TS} (h : PS X st t) (i : ∀ D σ H, t' D σ H → t D σ H) : PS X st t' := ⟨fun pins s σ H D I q => h.run pins s σ H D I (i D σ H q)⟩
theorem pss_imp {X : Cx} {st : List Stmt} {t t' : TS} (h : PSs X st t) (i : ∀ D σ H, t' D σ H → t D σ H) : PSs X st t' := ⟨fun pins s σ H D I q => h.run pins s σ H D I (i D σ H q)⟩
theorem pg_imp {X : Cx} {e : Expr} {t t' : TG} (h : PG X e t) (i : ∀ v σ H Q, t' v σ H Q → t v σ H Q) : PG X e t' := ⟨fun pins s σ H v u Q I r q => h.run pins s σ H v u Q I r (i v σ H Q q)⟩
theorem pgs_imp {X : Cx} {es : List Expr} {t t' : TGs} (h : PGs X es t) (i : ∀ v σ H Q, t' v σ H Q → t v σ H Q) : PGs X es t' := ⟨fun pins s σ H v u Q I r q => h.run pins s σ H v u Q I r (i v σ H Q q)⟩
theorem pi_imp {X : Cx} {tg e : Expr} {t t' : TI} (h : PI X tg e t) (i : ∀ σ H R, t' σ H R → t σ H R) : PI X tg e t' := ⟨fun pins s σ H R I q => h.run pins s σ H R I (i σ H R q)⟩
/-! ### what a slot stands for -/
structure Gp where
  T : List Addr
  CP : Addr
  CW : Addr
abbrev KDs := List (List L2.Key × PyData)
inductive En where
  | no
  | dat (d : PyData)
  | own (p : Addr)
  | prog (n p m t : PyData)
  | dic (kds : KDs)
  | two (a b : Addr)
  | scr (ns : List Int)
inductive OD where
  | lst (ds : List PyData)
  | dic (kds : KDs)
  | obj (C dx : Addr) (fs : List (Str × En))
abbrev Cell := Addr × OD
/-! data that stand in the heap, tracked one by one; a tuple of texts is known to the object (its method is called later on) -/
def isS : PyData → Bool
  | .str _ => true
  | _ => false
def isNam (ds : List PyData) : Bool := !ds.isEmpty && ds.all isS
mutual
inductive Dq (H : Hp) : V → PyData → Prop
  | non : Dq H .non .none
  | bl (b : Bool) : Dq H (.bl b) (.bool b)
  | int (i : Int) : Dq H (.int i) (.int i)
  | str (x : Str) : Dq H (.str x) (.str x)
  | lst {a : Addr} {xs : List V} {ds : List PyData} : H a = some (.lst xs) → DqAll H xs ds → Dq H (.ref a) (.list ds)
  | tup {a : Addr} {xs : List V} {ds : List PyData} : isNam ds = false → H a = some (.tup xs) → DqAll H xs ds → Dq H (.ref a) (.tuple ds)
  | nam {a : Addr} {ob : Obj} {xs : List V} {ds : List PyData} : isNam ds = true → H a = some (.frz ob (.tup xs)) → ob.cls = .type "tuple" → ob.dict = none → DqAll H xs ds → Dq H (.ref a) (.tuple ds)
inductive DqAll (H : Hp) : List V → List PyData → Prop
  | nil : DqAll H [] []
  | cons {v : V} {vs : List V} {d : PyData} {ds : List PyData} : Dq H v d → DqAll H vs ds → DqAll H (v :: vs) (d :: ds)
end
section
variable {K : PySem.W.Frag} {H H' : Hp}
theorem same_t {a : Addr} {xs : List V} (e : Same H H') (h : SqT K H a xs) : SqT K H' a xs := by
  rcases h with (h | ⟨o, h⟩) | h
  · exact .inl (.inl (e _ _ h))
  · exact .inl (.inr ⟨o, e _ _ h⟩)
  · exact .inr h
mutual
theorem dp_same (e : Same H H') : ∀ {v : V} {d : PyData}, Dq H v d → Dq H' v d
  | _, _, .non => .non
  | _, _, .bl b => .bl b
  | _, _, .int i => .int i
  | _, _, .str x => .str x
  | _, _, .lst h a => .lst (e _ _ h) (dpa_same e a)
  | _, _, .tup n h a => .tup n (e _ _ h) (dpa_same e a)
  | _, _, .nam n h c d a => .nam n (e _ _ h) c d (dpa_same e a)
theorem dpa_same (e : Same H H') : ∀ {vs : List V} {ds : List PyData}, DqAll H vs ds → DqAll H' vs ds
  | _, _, .nil => .nil
  | _, _, .cons h a => .cons (dp_same e h) (dpa_same e a)
end
mutual
theorem dq_dp : ∀ {v : V} {d : PyData}, Dq H v d → L2.Dp K H v d
  | _, _, .non => .non
  | _, _, .bl b => .bl b
  | _, _, .int i => .int i
  | _, _, .str x => .str x
  | _, _, .lst h a => .lst (SqL.of h) (dqa_dp a)
  | _, _, .tup _ h a => .tup (SqT.of h) (dqa_dp a)
  | _, _, .nam _ h _ _ a => .tup (.inl (.inr ⟨_, h⟩)) (dqa_dp a)
theorem dqa_dp : ∀ {vs : List V} {ds : List PyData}, DqAll H vs ds → L2.DpAll K H vs ds
  | _, _, .nil => .nil
  | _, _, .cons h a => .cons (dq_dp h) (dqa_dp a)
end
theorem dpa_len : ∀ {vs : List V} {ds : List PyData}, DqAll H vs ds → vs.length = ds.length
  | _, _, .nil => rfl
  | _, _, .cons _ a => congrArg Nat.succ (dpa_len a)
theorem dpa_get : ∀ {vs : List V} {ds : List PyData} {i : Nat} {d : PyData}, DqAll H vs ds → ds[i]? = some d → ∃ v, vs[i]? = some v ∧ Dq H v d
  | _, _, i, d, .nil, h => by simp at h
  | _, _, 0, d, .cons h a, e => by simp at e; subst e; exact ⟨_, rfl, h⟩
  | _, _, i + 1, d, .cons h a, e => by
    obtain ⟨v, h1, h2⟩ := dpa_get (i := i) (d := d) a (by simpa using e)
    exact ⟨v, by simpa using h1, h2⟩
theorem dpa_get' : ∀ {vs : List V} {ds : List PyData} {i : Nat} {v : V}, DqAll H vs ds → vs[i]? = some v → ∃ d, ds[i]? = some d ∧ Dq H v d
  | _, _, i, d, .nil, h => by simp at h
  | _, _, 0, d, .cons h a, e => by simp at e; subst e; exact ⟨_, rfl, h⟩
  | _, _, i + 1, v, .cons h a, e => by
    obtain ⟨d, h1, h2⟩ := dpa_get' (i := i) (v := v) a (by simpa using e)
    exact ⟨d, by simpa using h1, h2⟩
theorem dpa_app : ∀ {vs ws : List V} {ds es : List PyData}, DqAll H vs ds → DqAll H ws es → DqAll H (vs ++ ws) (ds ++ es)
  | _, _, _, _, .nil, b => b
  | _, _, _, _, .cons h a, b => .cons h (dpa_app a b)
theorem dpa_set {v : V} {d : PyData} (h : Dq H v d) : ∀ {vs : List V} {ds : List PyData} (i : Nat), DqAll H vs ds → DqAll H (vs.set i v) (ds.set i d)
  | _, _, _, .nil => .nil
  | _, _, 0, .cons _ a => .cons h a
  | _, _, i + 1, .cons g a => .cons g (dpa_set h i a)
theorem dpa_drop : ∀ {vs : List V} {ds : List PyData} (n : Nat), DqAll H vs ds → DqAll H (vs.drop n) (ds.drop n)
  | _, _, 0, a => a
  | _, _, _ + 1, .nil => .nil
  | _, _, n + 1, .cons _ a => dpa_drop n a
theorem dpa_take : ∀ {vs : List V} {ds : List PyData} (n : Nat), DqAll H vs ds → DqAll H (vs.take n) (ds.take n)
  | _, _, 0, _ => .nil
  | _, _, _ + 1, .nil => .nil
  | _, _, n + 1, .cons h a => .cons h (dpa_take n a)
theorem dpa_rev : ∀ {vs : List V} {ds : List PyData}, DqAll H vs ds → DqAll H vs.reverse ds.reverse
  | _, _, .nil => .nil
  | _, _, .cons h a => by
    rw [List.reverse_cons, List.reverse_cons]
    exact dpa_app (dpa_rev a) (.cons h .nil)
theorem dpa_int : ∀ {vs : List V} {ns : List Int}, DqAll H vs (ns.map PyData.int) → vs = ns.map V.int
  | _, [], .nil => rfl
  | _, _ :: _, .cons h a => by
    cases h
    rw [List.map_cons, dpa_int a]
theorem dpa_ints : ∀ {ns : List Int}, DqAll H (ns.map V.int) (ns.map PyData.int)
  | [] => .nil
  | _ :: _ => .cons (.int _) dpa_ints
theorem dpa_str : ∀ {vs : List V} {zs : List Str}, DqAll H vs (zs.map PyData.str) → vs = zs.map V.str
  | _, [], .nil => rfl
  | _, _ :: _, .cons h a => by
    cases h
    rw [List.map_cons, dpa_str a]
end
def KvOk (H : Hp) : List (List L2.Key × V) → KDs → Prop := Paired fun p q => p.1 = q.1 ∧ Dq H p.2 q.2
def VR (K : PySem.W.Frag) (G : Gp) (H : Hp) (v : V) : En → Prop
  | .no => True
  | .dat d => Dq H v d
  | .own p => v = .ref p
  | .prog n p m t => ∃ a dx vn vp vm vt, v = .ref a ∧ H a = some (.ins G.CP dx [("names", vn), ("ports", vp), ("modes", vm), ("table", vt)]) ∧ Dq H vn n ∧ Dq H vp p ∧ Dq H vm m ∧ Dq H vt t
  | .dic kds => ∃ a kvs, v = .ref a ∧ H a = some (.dT kvs) ∧ KvOk H kvs kds
  | .two a b => ∃ r, v = .ref r ∧ H r = some (.lst [.ref a, .ref b])
  | .scr ns => ∃ a, v = .ref a ∧ SqL K H a (ns.map V.int)
section
variable {K : PySem.W.Frag} {G : Gp} {H H' : Hp}
theorem kv_same (e : Same H H') {kvs : List (List L2.Key × V)} {kds : KDs} (h : KvOk H kvs kds) : KvOk H' kvs kds := L2.Paired.mapP h fun _ _ q => ⟨q.1, dp_same e q.2⟩
theorem vr_same (e : Same H H') {v : V} {en : En} (h : VR K G H v en) : VR K G H' v en := by
  cases en with
  | no => exact h
  | dat d => exact dp_same e h
  | own p => exact h
  | prog n p m t =>
    obtain ⟨a, dx, vn, vp, vm, vt, h1, h2, h3, h4, h5, h6⟩ := h
    exact ⟨a, dx, vn, vp, vm, vt, h1, e _ _ h2, dp_same e h3, dp_same e h4, dp_same e h5, dp_same e h6⟩
  | dic kds =>
    obtain ⟨a, kvs, h1, h2, h3⟩ := h
    exact ⟨a, kvs, h1, e _ _ h2, kv_same e h3⟩
  | two a b =>
    obtain ⟨r, h1, h2⟩ := h
    exact ⟨r, h1, e _ _ h2⟩
  | scr ns =>
    obtain ⟨a, h1, h2⟩ := h
    exact ⟨a, h1, e.seq h2⟩
end
def FsOk (K : PySem.W.Frag) (G : Gp) (H : Hp) : List (Str × V) → List (Str × En) → Prop := Paired fun p q => p.1 = q.1 ∧ VR K G H p.2 q.2
/-- an owned cell: what stands in the heap H; its data in the part Hs that stays -/
def OwnOk (K : PySem.W.Frag) (G : Gp) (Hs H : Hp) (p : Addr) : OD → Prop
  | .lst ds => ∃ xs, H p = some (.lst xs) ∧ DqAll Hs xs ds
  | .dic kds => ∃ kvs, H p = some (.dT kvs) ∧ KvOk Hs kvs kds
  | .obj C dx fs => ∃ vs, H p = some (.ins C dx vs) ∧ FsOk K G Hs vs fs
/-- Hs: what stays as it is; L: what is owned; T: the tables of code objects -/
structure Holds (K : PySem.W.Frag) (G : Gp) (Hs : Hp) (L : List Cell) (H : Hp) : Prop where
  st : Same Hs H
  ow : ∀ c ∈ L, OwnOk K G Hs H c.1 c.2 ∧ Hs c.1 = none
  nd : (L.map (·.1)).Nodup
  tb : ∀ P ∈ G.T, GxR.TabG H P ∧ Hs P = none ∧ P ∉ L.map (·.1)
def SR (K : PySem.W.Frag) (G : Gp) (Hs : Hp) (σ : L2.St) (env : List En) : Prop := σ.length = env.length ∧ ∀ (i : Nat) (en : En), env[i]? = some en → en ≠ .no → ∃ v, σ[i]? = some (some v) ∧ VR K G Hs v en
def VRs (K : PySem.W.Frag) (G : Gp) (Hs : Hp) : List V → List En → Prop := Paired (VR K G Hs)
section
variable {K : PySem.W.Frag} {G : Gp} {Hs Hs2 H H2 : Hp} {σ : L2.St} {env : List En} {L L' F : List Cell}
theorem sr_same (e : Same Hs Hs2) (h : SR K G Hs σ env) : SR K G Hs2 σ env := ⟨h.1, fun i en h1 h2 => by
  obtain ⟨v, h3, h4⟩ := h.2 i en h1 h2
  exact ⟨v, h3, vr_same e h4⟩⟩
theorem sr_set {v : V} {en : En} (h : SR K G Hs σ env) (r : VR K G Hs v en) (i : Nat) : SR K G Hs (σ.set i (some v)) (env.set i en) := by
  refine ⟨by simpa using h.1, fun j e h1 h2 => ?_⟩
  by_cases hj : i = j
  · subst hj
    by_cases hl : i < env.length
    · rw [List.getElem?_set_self hl] at h1
      cases h1
      exact ⟨v, by rw [List.getElem?_set_self (by rw [h.1]; exact hl)], r⟩
    · rw [List.getElem?_eq_none (by simp; omega)] at h1
      cases h1
  · rw [List.getElem?_set_ne hj] at h1 ⊢
    exact h.2 j e h1 h2
theorem vrs_same (e : Same Hs Hs2) {vs : List V} {ens : List En} (h : VRs K G Hs vs ens) : VRs K G Hs2 vs ens := L2.Paired.mapP h fun _ _ q => vr_same e q
theorem own_same (e : Same Hs Hs2) {p : Addr} {o : OD} (h : OwnOk K G Hs H p o) (hp : ∀ o, H p = some o → H2 p = some o) : OwnOk K G Hs2 H2 p o := by
  cases o with
  | lst ds =>
    obtain ⟨xs, h1, h2⟩ := h
    exact ⟨xs, hp _ h1, dpa_same e h2⟩
  | dic kds =>
    obtain ⟨kvs, h1, h2⟩ := h
    exact ⟨kvs, hp _ h1, kv_same e h2⟩
  | obj C dx fs =>
    obtain ⟨vs, h1, h2⟩ := h
    exact ⟨vs, hp _ h1, L2.Paired.mapP h2 fun _ _ q => ⟨q.1, vr_same e q.2⟩⟩
theorem own_some {p : Addr} {o : OD} (h : OwnOk K G Hs H p o) : ∃ u, H p = some u := by
  cases o with
  | lst ds => exact ⟨_, h.choose_spec.1⟩
  | dic kds => exact ⟨_, h.choose_spec.1⟩
  | obj C dx fs => exact ⟨_, h.choose_spec.1⟩
/-- the owned cells in another order -/
theorem Holds.perm (h : Holds K G Hs L H) (e : L.Perm L') : Holds K G Hs L' H :=
  ⟨h.st, fun c hc => h.ow c (e.mem_iff.mpr hc), (e.map _).nodup_iff.mp h.nd, fun P hP => ⟨(h.tb P hP).1, (h.tb P hP).2.1, fun z => (h.tb P hP).2.2 ((e.map _).mem_iff.mpr z)⟩⟩
/-- a cell is let go -/
theorem Holds.drop {c : Cell} (h : Holds K G Hs (c :: L) H) : Holds K G Hs L H :=
  ⟨h.st, fun x hx => h.ow x (List.mem_cons_of_mem _ hx), (List.nodup_cons.mp h.nd).2, fun P hP => ⟨(h.tb P hP).1, (h.tb P hP).2.1, fun z => (h.tb P hP).2.2 (List.mem_cons_of_mem _ z)⟩⟩
/-- a new object that stays -/
theorem Holds.new {p : Addr} {o : HO} (h : Holds K G Hs L H) (hp : H p = none) : Same Hs (upd Hs p o) ∧ Holds K G (upd Hs p o) L (upd H p o) := by
  have hs : Hs p = none := h.st.free hp
  have e : Same Hs (upd Hs p o) := fun b u q => by rw [upd_ne (ne_of_none q hs)]; exact q
  have ne : ∀ {q u}, H q = some u → q ≠ p := fun q => ne_of_none q hp
  refine ⟨e, fun b u q => ?_, fun c hc => ?_, h.nd, fun P hP => ?_⟩
  · by_cases hb : b = p
    · subst hb
      rw [upd_same] at q ⊢
      exact q
    · rw [upd_ne hb] at q ⊢
      exact h.st b u q
  · obtain ⟨h1, h2⟩ := h.ow c hc
    obtain ⟨u, hu⟩ := own_some h1
    refine ⟨own_same e h1 fun o q => by rw [upd_ne (ne q)]; exact q, ?_⟩
    rw [upd_ne (ne hu)]
    exact h2
  · obtain ⟨⟨ps, q1, q2⟩, q3, q4⟩ := h.tb P hP
    exact ⟨⟨ps, by rw [upd_ne (ne q1)]; exact q1, q2⟩, by rw [upd_ne (ne q1)]; exact q3, q4⟩
/-- a new owned object -/
theorem Holds.fresh {p : Addr} {u : HO} {o : OD} (h : Holds K G Hs L H) (hp : H p = none) (ho : OwnOk K G Hs (upd H p u) p o) : Holds K G Hs ((p, o) :: L) (upd H p u) := by
  have hs : Hs p = none := h.st.free hp
  have ne : ∀ {q u}, H q = some u → q ≠ p := fun q => ne_of_none q hp
  refine ⟨fun b u q => by rw [upd_ne (ne_of_none q hs)]; exact h.st b u q, fun c hc => ?_, ?_, fun P hP => ?_⟩
  · rcases List.mem_cons.mp hc with rfl | hc
    · exact ⟨ho, hs⟩
    · obtain ⟨h1, h2⟩ := h.ow c hc
      exact ⟨own_same (Same.refl _) h1 fun o q => by rw [upd_ne (ne q)]; exact q, h2⟩
  · rw [List.map_cons, List.nodup_cons]
    refine ⟨fun z => ?_, h.nd⟩
    obtain ⟨c, hc, e⟩ := List.mem_map.mp z
    obtain ⟨u, hu⟩ := own_some (h.ow c hc).1
    exact ne hu e
  · obtain ⟨⟨ps, q1, q2⟩, q3, q4⟩ := h.tb P hP
    refine ⟨⟨ps, by rw [upd_ne (ne q1)]; exact q1, q2⟩, q3, fun z => ?_⟩
    rcases List.mem_cons.mp z with z | z
    · exact ne q1 z
    · exact q4 z
/-- an owned object is written -/
theorem Holds.write {p : Addr} {u : HO} {o o' : OD} (h : Holds K G Hs ((p, o) :: L) H) (ho : OwnOk K G Hs (upd H p u) p o') : Holds K G Hs ((p, o') :: L) (upd H p u) := by
  have hs : Hs p = none := (h.ow (p, o) List.mem_cons_self).2
  have hnd := List.nodup_cons.mp h.nd
  refine ⟨fun b u q => by rw [upd_ne (ne_of_none q hs)]; exact h.st b u q, fun c hc => ?_, h.nd, fun P hP => ?_⟩
  · rcases List.mem_cons.mp hc with rfl | hc
    · exact ⟨ho, hs⟩
    · obtain ⟨h1, h2⟩ := h.ow c (List.mem_cons_of_mem _ hc)
      have ne : c.1 ≠ p := fun z => hnd.1 (List.mem_map.mpr ⟨c, hc, z⟩)
      exact ⟨own_same (Same.refl _) h1 fun o q => by rw [upd_ne ne]; exact q, h2⟩
  · obtain ⟨⟨ps, q1, q2⟩, q3, q4⟩ := h.tb P hP
    have ne : P ≠ p := fun z => q4 (by rw [z]; exact List.mem_cons_self)
    exact ⟨⟨ps, by rw [upd_ne ne]; exact q1, q2⟩, q3, q4⟩
/-- an owned object stays from here on -/
theorem Holds.freeze {p : Addr} {u : HO} {o : OD} (h : Holds K G Hs ((p, o) :: L) H) (hu : H p = some u) : Same Hs (upd Hs p u) ∧ Holds K G (upd Hs p u) L H := by
  have hs : Hs p = none := (h.ow (p, o) List.mem_cons_self).2
  have hnd := List.nodup_cons.mp h.nd
  have e : Same Hs (upd Hs p u) := fun b w q => by rw [upd_ne (ne_of_none q hs)]; exact q
  refine ⟨e, fun b w q => ?_, fun c hc => ?_, hnd.2, fun P hP => ?_⟩
  · by_cases hb : b = p
    · subst hb
      rw [upd_same] at q
      cases q
      exact hu
    · rw [upd_ne hb] at q
      exact h.st b w q
  · obtain ⟨h1, h2⟩ := h.ow c (List.mem_cons_of_mem _ hc)
    have ne : c.1 ≠ p := fun z => hnd.1 (List.mem_map.mpr ⟨c, hc, z⟩)
    exact ⟨own_same e h1 fun _ q => q, by rw [upd_ne ne]; exact h2⟩
  · obtain ⟨q1, q3, q4⟩ := h.tb P hP
    have ne : P ≠ p := fun z => q4 (by rw [z]; exact List.mem_cons_self)
    exact ⟨q1, by rw [upd_ne ne]; exact q3, fun z => q4 (List.mem_cons_of_mem _ z)⟩
/-- a table has grown -/
theorem Holds.tabbed {P : Addr} (h : Holds K G Hs L H) (hP : P ∈ G.T) (t : GxR.Tabbed P H H2) : Holds K G Hs L H2 := by
  obtain ⟨t1, t2⟩ := t
  obtain ⟨_, p2, p3⟩ := h.tb P hP
  refine ⟨fun b u q => by rw [t2 b (ne_of_none q p2)]; exact h.st b u q, fun c hc => ?_, h.nd, fun R hR => ?_⟩
  · obtain ⟨h1, h2⟩ := h.ow c hc
    have ne : c.1 ≠ P := fun z => p3 (List.mem_map.mpr ⟨c, hc, z⟩)
    exact ⟨own_same (Same.refl _) h1 fun o q => by rw [t2 _ ne]; exact q, h2⟩
  · obtain ⟨q1, q3, q4⟩ := h.tb R hR
    by_cases hb : R = P
    · subst hb
      exact ⟨t1, q3, q4⟩
    · obtain ⟨ps, z1, z2⟩ := q1
      exact ⟨⟨ps, by rw [t2 _ hb]; exact z1, z2⟩, q3, q4⟩
end
theorem set_perm {α : Type} : ∀ {L : List α} {j : Nat} {c : α}, L[j]? = some c → L.Perm (c :: L.eraseIdx j)
  | [], j, c, h => by simp at h
  | a :: L, 0, c, h => by
    simp at h
    subst h
    exact .refl _
  | a :: L, j + 1, c, h => by
    have ih := set_perm (L := L) (j := j) (c := c) (by simpa using h)
    rw [List.eraseIdx_cons_succ]
    exact (ih.cons a).trans (.swap c a _)
theorem set_perm' {α : Type} : ∀ {L : List α} {j : Nat} {c d : α}, L[j]? = some c → (L.set j d).Perm (d :: L.eraseIdx j)
  | [], j, c, d, h => by simp at h
  | a :: L, 0, c, d, h => .refl _
  | a :: L, j + 1, c, d, h => by
    have ih := set_perm' (L := L) (j := j) (c := c) (d := d) (by simpa using h)
    rw [List.eraseIdx_cons_succ, List.set_cons_succ]
    exact (ih.cons a).trans (.swap d a _)
section
variable {K : PySem.W.Frag} {Hs H : Hp} {G : Gp} {L F : List Cell}
/-- the j-th of the owned cells, the others behind it -/
theorem Holds.at_ {j : Nat} {c : Cell} (h : Holds K G Hs (L ++ F) H) (e : L[j]? = some c) : Holds K G Hs (c :: (L.eraseIdx j ++ F)) H := h.perm ((set_perm e).append_right F)
theorem Holds.back {j : Nat} {c d : Cell} (e : L[j]? = some c) (h : Holds K G Hs (d :: (L.eraseIdx j ++ F)) H) : Holds K G Hs (L.set j d ++ F) H := h.perm ((set_perm' e).append_right F).symm
end
end Mn
namespace Mn
open PySem PySem.Spec PyProof.Rows L2
/-! ### readings over abstract states -/
abbrev AE := List En → List Cell → (En → List Cell → Prop) → Prop
abbrev AT := List En → List Cell → (Bool → List Cell → Prop) → Prop
abbrev AA := List En → List Cell → (List En → List Cell → Prop) → Prop
structure AD where
  nx : List En → List Cell → Prop
  rt : En → List Cell → Prop
  bk : List En → List Cell → Prop := fun _ _ => False
  ct : List En → List Cell → Prop := fun _ _ => False
abbrev AS := AD → List En → List Cell → Prop
abbrev AG := En → List En → List Cell → (List En → List Cell → Prop) → Prop
/-- behind a value -/
abbrev Fin (K : PySem.W.Frag) (G : Gp) (Hs : Hp) (F : List Cell) (post : En → List Cell → Prop) (Q : VK) : Prop :=
  ∀ (v : V) (Hs2 H2 : Hp) (en : En) (L' : List Cell), post en L' → Same Hs Hs2 → Holds K G Hs2 (L' ++ F) H2 → VR K G Hs2 v en → Q v H2
/-- behind a state of the frame -/
abbrev FinS (K : PySem.W.Frag) (G : Gp) (Hs : Hp) (F : List Cell) (post : List En → List Cell → Prop) (Q : L2.St → Hp → Prop) : Prop :=
  ∀ (σ : L2.St) (Hs2 H2 : Hp) (env : List En) (L' : List Cell), post env L' → Same Hs Hs2 → Holds K G Hs2 (L' ++ F) H2 → SR K G Hs2 σ env → Q σ H2
def cE (K : PySem.W.Frag) (G : Gp) (a : AE) : TE := fun σ H Q => ∃ Hs F env L post, SR K G Hs σ env ∧ Holds K G Hs (L ++ F) H ∧ a env L post ∧ Fin K G Hs F post Q
def cT (K : PySem.W.Frag) (G : Gp) (a : AT) : TT := fun σ H Q => ∃ Hs F env L post, SR K G Hs σ env ∧ Holds K G Hs (L ++ F) H ∧ a env L post ∧
  ∀ (b : Bool) (Hs2 H2 : Hp) (L' : List Cell), post b L' → Same Hs Hs2 → Holds K G Hs2 (L' ++ F) H2 → Q b H2
def cA (K : PySem.W.Frag) (G : Gp) (a : AA) : TA := fun σ H Q => ∃ Hs F env L post, SR K G Hs σ env ∧ Holds K G Hs (L ++ F) H ∧ a env L post ∧
  ∀ (vs : List V) (Hs2 H2 : Hp) (ens : List En) (L' : List Cell), post ens L' → Same Hs Hs2 → Holds K G Hs2 (L' ++ F) H2 → VRs K G Hs2 vs ens → Q vs H2
def cG (K : PySem.W.Frag) (G : Gp) (a : AG) : TG := fun v σ H Q => ∃ Hs F en env L post, VR K G Hs v en ∧ SR K G Hs σ env ∧ Holds K G Hs (L ++ F) H ∧ a en env L post ∧ FinS K G Hs F post Q
def cS (K : PySem.W.Frag) (G : Gp) (a : AS) : TS := fun D σ H => ∃ Hs F env L AD, SR K G Hs σ env ∧ Holds K G Hs (L ++ F) H ∧ a AD env L ∧
  FinS K G Hs F AD.nx D.nx ∧ Fin K G Hs F AD.rt D.rt ∧ FinS K G Hs F AD.bk D.bk ∧ FinS K G Hs F AD.ct D.ct
abbrev DE (G : Gp) (X : Cx) (e : Expr) (a : AE) : Prop := PE X e (cE X.K G a)
abbrev DT (G : Gp) (X : Cx) (e : Expr) (a : AT) : Prop := PT X e (cT X.K G a)
abbrev DA (G : Gp) (X : Cx) (es : List Expr) (a : AA) : Prop := PA X es (cA X.K G a)
abbrev DG (G : Gp) (X : Cx) (e : Expr) (a : AG) : Prop := PG X e (cG X.K G a)
abbrev DS (G : Gp) (X : Cx) (st : Stmt) (a : AS) : Prop := PS X st (cS X.K G a)
abbrev DSs (G : Gp) (X : Cx) (st : List Stmt) (a : AS) : Prop := PSs X st (cS X.K G a)
section
variable {K : PySem.W.Frag} {G : Gp} {Hs Hs2 : Hp} {F : List Cell}
theorem Fin.same {post : En → List Cell → Prop} {Q : VK} (e : Same Hs Hs2) (h : Fin K G Hs F post Q) : Fin K G Hs2 F post Q := fun v Hs3 H3 en L' p s => h v Hs3 H3 en L' p (e.trans s)
theorem FinS.same {post : List En → List Cell → Prop} {Q : L2.St → Hp → Prop} (e : Same Hs Hs2) (h : FinS K G Hs F post Q) : FinS K G Hs2 F post Q := fun v Hs3 H3 en L' p s => h v Hs3 H3 en L' p (e.trans s)
end
/-! ### operators by values -/
abbrev AR2 := En → En → List Cell → (En → List Cell → Prop) → Prop
abbrev AR1 := En → List Cell → (En → List Cell → Prop) → Prop
abbrev ARn := List En → List Cell → (En → List Cell → Prop) → Prop
def RO (K : PySem.W.Frag) (G : Gp) (r : R2) (f : AR2) : Prop := ∀ (Hs : Hp) (F : List Cell) (H : Hp) (L : List Cell) (x y : V) (ex ey : En) (post : En → List Cell → Prop) (Q : VK),
  Holds K G Hs (L ++ F) H → VR K G Hs x ex → VR K G Hs y ey → f ex ey L post → Fin K G Hs F post Q → r x y H Q
def RU (K : PySem.W.Frag) (G : Gp) (r : V → Hp → VK → Prop) (f : AR1) : Prop := ∀ (Hs : Hp) (F : List Cell) (H : Hp) (L : List Cell) (x : V) (ex : En) (post : En → List Cell → Prop) (Q : VK),
  Holds K G Hs (L ++ F) H → VR K G Hs x ex → f ex L post → Fin K G Hs F post Q → r x H Q
def RN (K : PySem.W.Frag) (G : Gp) (r : List V → Hp → VK → Prop) (f : ARn) : Prop := ∀ (Hs : Hp) (F : List Cell) (H : Hp) (L : List Cell) (xs : List V) (ens : List En) (post : En → List Cell → Prop) (Q : VK),
  Holds K G Hs (L ++ F) H → VRs K G Hs xs ens → f ens L post → Fin K G Hs F post Q → r xs H Q
def RM (K : PySem.W.Frag) (G : Gp) (r : V → List V → Hp → VK → Prop) (f : En → ARn) : Prop := ∀ (Hs : Hp) (F : List Cell) (H : Hp) (L : List Cell) (x : V) (ex : En) (xs : List V) (ens : List En) (post : En → List Cell → Prop) (Q : VK),
  Holds K G Hs (L ++ F) H → VR K G Hs x ex → VRs K G Hs xs ens → f ex ens L post → Fin K G Hs F post Q → r x xs H Q
/-! ### names, constants, displays -/
def aVar (i : Nat) : AE := fun env L post => match env[i]? with
  | some .no => False
  | some en => post en L
  | none => False
def aC (d : PyData) : AE := fun _ L post => post (.dat d) L
def aNil : AA := fun _ L post => post [] L
def aCons (a : AE) (r : AA) : AA := fun env L post => a env L fun x L1 => r env L1 fun xs L2 => post (x :: xs) L2
/-- all of them data -/
def dats : List En → Option (List PyData)
  | [] => some []
  | .dat d :: r => (dats r).map (d :: ·)
  | _ :: _ => none
def aTup (a : AA) : AE := fun env L post => a env L fun ens L1 => ∃ ds, dats ens = some ds ∧ ds.length ≤ 100000 ∧ post (.dat (.tuple ds)) L1
def aLst (a : AA) : AE := fun env L post => a env L fun ens L1 => ∃ ds, dats ens = some ds ∧ ds.length ≤ 100000 ∧ post (.dat (.list ds)) L1
/-- a list that is changed later on -/
def aOwn (a : AA) : AE := fun env L post => a env L fun ens L1 => ∃ ds, dats ens = some ds ∧ ds.length ≤ 100000 ∧ ∀ p, post (.own p) ((p, .lst ds) :: L1)
section
variable {K : PySem.W.Frag} {G : Gp} {X : Cx}
theorem sz_ok {n : Nat} (h : n ≤ 100000) : n ≤ sizeLine := Nat.le_trans h (by decide)
theorem dats_ok {Hs : Hp} : ∀ {ens : List En} {ds : List PyData} {vs : List V}, dats ens = some ds → VRs K G Hs vs ens → DqAll Hs vs ds
  | [], ds, vs, e, h => by
    cases h
    cases e
    exact .nil
  | .dat d :: r, ds, vs, e, h => by
    have e2 : (dats r).map (d :: ·) = some ds := e
    cases q : dats r with
    | none => rw [q] at e2; cases e2
    | some rs =>
      rw [q] at e2
      cases e2
      cases h with
      | cons h1 h2 => exact .cons h1 (dats_ok q h2)
  | .no :: _, _, _, e, _ => by cases e
  | .own _ :: _, _, _, e, _ => by cases e
  | .prog _ _ _ _ :: _, _, _, e, _ => by cases e
  | .dic _ :: _, _, _, e, _ => by cases e
  | .two _ _ :: _, _, _, e, _ => by cases e
  | .scr _ :: _, _, _, e, _ => by cases e
theorem de_var {i : Nat} {x : Str} {pos : Pos} (h : PE X (.Name x pos) (tVar i)) : DE G X (.Name x pos) (aVar i) := pe_imp h fun σ H Q ⟨Hs, F, env, L, post, hs, hh, ha, hf⟩ => by
  have ha2 : (match env[i]? with
    | some .no => False
    | some en => post en L
    | none => False) := ha
  cases e : env[i]? with
  | none =>
    rw [e] at ha2
    exact ha2.elim
  | some en =>
    have key : en ≠ .no → post en L → tVar i σ H Q := fun h1 h2 => by
      obtain ⟨v, h3, h4⟩ := hs.2 i en e h1
      exact ⟨v, h3, hf v Hs H en L h2 (Same.refl _) hh h4⟩
    rw [e] at ha2
    cases en <;> first
      | exact ha2.elim
      | exact key (fun z => nomatch z) ha2
theorem de_c {e : Expr} {v : V} {d : PyData} (h : PE X e (tC v)) (hd : ∀ Hs, Dq Hs v d) : DE G X e (aC d) := pe_imp h fun σ H Q ⟨Hs, F, env, L, post, hs, hh, ha, hf⟩ => hf v Hs H _ L ha (Same.refl _) hh (hd Hs)
theorem de_int {i : Int} {j pos} : DE G X (.Constant (.int i) j pos) (aC (.int i)) := de_c pe_int fun _ => .int i
theorem de_str {x : Str} {j pos} : DE G X (.Constant (.str x) j pos) (aC (.str x)) := de_c pe_str fun _ => .str x
theorem de_bl {b : Bool} {j pos} : DE G X (.Constant (.bool b) j pos) (aC (.bool b)) := de_c pe_bl fun _ => .bl b
theorem de_non {j pos} : DE G X (.Constant .none j pos) (aC .none) := de_c pe_non fun _ => .non
theorem da_nil : DA G X [] aNil := pa_imp pa_nil fun σ H Q ⟨Hs, F, env, L, post, hs, hh, ha, hf⟩ => hf [] Hs H [] L ha (Same.refl _) hh .nil
theorem da_cons {e : Expr} {es : List Expr} {a : AE} {r : AA} (ha : DE G X e a) (hr : DA G X es r) (hs : starEach (e :: es) X.env = (false, eval e X.env) :: starEach es X.env := by rfl) : DA G X (e :: es) (aCons a r) :=
  pa_imp (pa_cons ha hr hs) fun σ H Q ⟨Hs, F, env, L, post, hs, hh, ha, hf⟩ =>
    ⟨Hs, F, env, L, _, hs, hh, ha, fun x Hs1 H1 ex L1 p1 e1 hh1 vr1 => ⟨Hs1, F, env, L1, _, sr_same e1 hs, hh1, p1, fun xs Hs2 H2 exs L2 p2 e2 hh2 vr2 =>
      hf (x :: xs) Hs2 H2 (ex :: exs) L2 p2 (e1.trans e2) hh2 (.cons (vr_same e2 vr1) vr2)⟩⟩
/-- a new tuple, tracked in one of two ways -/
def tTupZ (t : TA) : TE := fun σ H Q => t σ H fun xs H1 => xs.length ≤ sizeLine ∧ ∀ (p : Addr) (ob : Obj), H1 p = none → ob.cls = .type "tuple" → ob.dict = none → Q (.ref p) (upd H1 p (.tup xs)) ∨ Q (.ref p) (upd H1 p (.frz ob (.tup xs)))
theorem fin_tup {pins : List (Addr × Obj)} {σ : L2.St} {H1 : Hp} {s1 : Shared} {xs : List V} {us : List Value} {Q : VK} {p : Addr} (I1 : Inv X pins σ H1 s1) (hp : p = s1.heap.objs.size) (r : Vals xs us) (z : xs.length ≤ sizeLine)
    (q : Q (.ref p) (upd H1 p (.tup xs)) ∨ Q (.ref p) (upd H1 p (.frz { cls := .type "tuple", data := .seq us.toArray } (.tup xs)))) : EP X pins σ Q (.ref p) { s1 with heap := s1.heap.push { cls := .type "tuple", data := .seq us.toArray } } := by
  subst hp
  have e := Heap.get?_push_size s1.heap (o := { cls := .type "tuple", data := .seq us.toArray }) rfl
  rcases q with q | q
  · exact ⟨.ref s1.heap.objs.size, _, I1.laid (o := .tup xs) (t' := s1.toks) (fun b u e => Heap.get?_push_of_some _ e) (Nat.le_refl _) ⟨z, us, r, ⟨_, e, rfl, _, rfl⟩⟩, rfl, q⟩
  · exact ⟨.ref s1.heap.objs.size, _, I1.laid (o := .frz _ (.tup xs)) (t' := s1.toks) (fun b u e => Heap.get?_push_of_some _ e) (Nat.le_refl _) ⟨e, z, us, r, ⟨_, e, rfl, _, rfl⟩⟩, rfl, q⟩
theorem pe_tupZ {es : List Expr} {k : Nat} {pos : Pos} {t : TA} (h : PA X es t) : PE X (.Tuple es k pos) (tTupZ t) := by
  refine ⟨fun pins s σ H Q I hq => ?_⟩
  refine wpAny_Tuple_spliced (thn (h.run pos pins s σ H _ I hq) fun us s1 ⟨xs, H1, I1, r, z, q⟩ => ⟨by rw [← r.length]; exact z, ?_⟩)
  exact fin_tup I1 rfl r z (q _ _ (I1.hok.fresh (Nat.le_refl _)) rfl rfl)
/-- either way it is the data -/
theorem tup_dq {Hs H1 : Hp} {L F : List Cell} {xs : List V} {ds : List PyData} (hh : Holds K G Hs (L ++ F) H1) (hq : DqAll Hs xs ds) {p : Addr} {ob : Obj} (hp : H1 p = none) (hc : ob.cls = .type "tuple") (hd : ob.dict = none) {post : En → List Cell → Prop} {Q : VK} (fin : Fin K G Hs F post Q) (hpo : post (.dat (.tuple ds)) L) :
    Q (.ref p) (upd H1 p (.tup xs)) ∨ Q (.ref p) (upd H1 p (.frz ob (.tup xs))) := by
  cases q : isNam ds with
  | false =>
    obtain ⟨e2, hh2⟩ := hh.new (o := .tup xs) hp
    exact .inl (fin _ _ _ _ L hpo e2 hh2 (.tup q upd_same (dpa_same e2 hq)))
  | true =>
    obtain ⟨e2, hh2⟩ := hh.new (o := .frz ob (.tup xs)) hp
    exact .inr (fin _ _ _ _ L hpo e2 hh2 (.nam q upd_same hc hd (dpa_same e2 hq)))
theorem de_tup {es : List Expr} {k : Nat} {pos : Pos} {a : AA} (h : DA G X es a) : DE G X (.Tuple es k pos) (aTup a) := pe_imp (pe_tupZ h) fun σ H Q ⟨Hs, F, env, L, post, hs, hh, ha, hf⟩ =>
  ⟨Hs, F, env, L, _, hs, hh, ha, fun vs Hs1 H1 exs L1 ⟨ds, hd, hl, p1⟩ e1 hh1 vr1 => by
    have hq := dats_ok hd vr1
    exact ⟨sz_ok (by rw [dpa_len hq]; exact hl), fun p ob hp hc hd => tup_dq hh1 hq hp hc hd (hf.same e1) p1⟩⟩
theorem de_lst {es : List Expr} {pos : Pos} {a : AA} (h : DA G X es a) : DE G X (.List es pos) (aLst a) := pe_imp (pe_lst h) fun σ H Q ⟨Hs, F, env, L, post, hs, hh, ha, hf⟩ =>
  ⟨Hs, F, env, L, _, hs, hh, ha, fun vs Hs1 H1 exs L1 ⟨ds, hd, hl, p1⟩ e1 hh1 vr1 => by
    have hq := dats_ok hd vr1
    refine ⟨sz_ok (by rw [dpa_len hq]; exact hl), fun p hp => ?_⟩
    obtain ⟨e2, hh2⟩ := hh1.new (o := .lst vs) hp
    exact hf _ _ _ _ _ p1 (e1.trans e2) hh2 (.lst upd_same (dpa_same e2 hq))⟩
theorem de_own {es : List Expr} {pos : Pos} {a : AA} (h : DA G X es a) : DE G X (.List es pos) (aOwn a) := pe_imp (pe_lst h) fun σ H Q ⟨Hs, F, env, L, post, hs, hh, ha, hf⟩ =>
  ⟨Hs, F, env, L, _, hs, hh, ha, fun vs Hs1 H1 exs L1 ⟨ds, hd, hl, p1⟩ e1 hh1 vr1 => by
    have hq := dats_ok hd vr1
    refine ⟨sz_ok (by rw [dpa_len hq]; exact hl), fun p hp => ?_⟩
    exact hf _ _ _ _ _ (p1 p) e1 (hh1.fresh hp ⟨vs, upd_same, hq⟩) rfl⟩
/-- [o, o']: two owned ones -/
def aTwo (a : AA) : AE := fun env L post => a env L fun ens L1 => match ens with
  | [.own p, .own q] => post (.two p q) L1
  | _ => False
theorem two_of {exs : List En} {L1 : List Cell} {post : En → List Cell → Prop} (h : match exs with
  | [.own p, .own q] => post (.two p q) L1
  | _ => False) : ∃ p q, exs = [.own p, .own q] ∧ post (.two p q) L1 := by
  split at h
  · exact ⟨_, _, rfl, h⟩
  · exact h.elim
theorem de_two {es : List Expr} {pos : Pos} {a : AA} (h : DA G X es a) : DE G X (.List es pos) (aTwo a) := pe_imp (pe_lst h) fun σ H Q ⟨Hs, F, env, L, post, hs, hh, ha, hf⟩ =>
  ⟨Hs, F, env, L, _, hs, hh, ha, fun vs Hs1 H1 exs L1 p1 e1 hh1 vr1 => by
    obtain ⟨p, q, rfl, p2⟩ := two_of (post := post) p1
    cases vr1 with
    | cons h1 h2 =>
      cases h2 with
      | cons h3 h4 =>
        cases h4
        have e3 := (show _ = V.ref p from h1)
        have e4 := (show _ = V.ref q from h3)
        subst e3 e4
        refine ⟨sz_ok (by show 2 ≤ 100000; decide), fun r hr => ?_⟩
        obtain ⟨e2, hh2⟩ := hh1.new (o := .lst [.ref p, .ref q]) hr
        exact hf _ _ _ _ _ p2 (e1.trans e2) hh2 ⟨r, rfl, upd_same⟩⟩
end
end Mn
namespace Mn
open PySem PySem.Spec PyProof.Rows L2
def aOp (f : AR2) (a b : AE) : AE := fun env L post => a env L fun x L1 => b env L1 fun y L2 => f x y L2 post
def aUn (f : AR1) (a : AE) : AE := fun env L post => a env L fun x L1 => f x L1 post
def aNary (f : ARn) (a : AA) : AE := fun env L post => a env L fun xs L1 => f xs L1 post
def aMt (f : En → ARn) (a : AE) (b : AA) : AE := fun env L post => a env L fun x L1 => b env L1 fun xs L2 => f x xs L2 post
/-! ### what the operators do with data -/
def aI0 (g : Int → Int → PyData) : AR2 := fun x y L post => match x, y with
  | .dat (.int i), .dat (.int j) => post (.dat (g i j)) L
  | _, _ => False
def aI2 (C : Int → Int → Prop) (g : Int → Int → PyData) : AR2 := fun x y L post => match x, y with
  | .dat (.int i), .dat (.int j) => C i j ∧ post (.dat (g i j)) L
  | _, _ => False
section
variable {K : PySem.W.Frag} {G : Gp} {X : Cx} {Hs H : Hp} {L : List Cell}
theorem en_cases {P : En → Prop} {en : En} (h : P en) : P en := h
theorem ai0_of {g : Int → Int → PyData} {ex ey : En} {post : En → List Cell → Prop} (h : aI0 g ex ey L post) : ∃ i j, ex = .dat (.int i) ∧ ey = .dat (.int j) ∧ post (.dat (g i j)) L := by
  unfold aI0 at h
  split at h
  · exact ⟨_, _, rfl, rfl, h⟩
  · exact h.elim
theorem ai2_of {C : Int → Int → Prop} {g : Int → Int → PyData} {ex ey : En} {post : En → List Cell → Prop} (h : aI2 C g ex ey L post) : ∃ i j, ex = .dat (.int i) ∧ ey = .dat (.int j) ∧ C i j ∧ post (.dat (g i j)) L := by
  unfold aI2 at h
  split at h
  · exact ⟨_, _, rfl, rfl, h.1, h.2⟩
  · exact h.elim
theorem vr_int {x : V} {i : Int} (h : VR K G Hs x (.dat (.int i))) : x = .int i := by
  cases (show Dq Hs x (.int i) from h)
  rfl
theorem vr_str {x : V} {i : Str} (h : VR K G Hs x (.dat (.str i))) : x = .str i := by
  cases (show Dq Hs x (.str i) from h)
  rfl
theorem vr_bl {x : V} {i : Bool} (h : VR K G Hs x (.dat (.bool i))) : x = .bl i := by
  cases (show Dq Hs x (.bool i) from h)
  rfl
theorem vr_non {x : V} (h : VR K G Hs x (.dat .none)) : x = .non := by
  cases (show Dq Hs x .none from h)
  rfl
theorem vr_lst {x : V} {ds : List PyData} (h : VR K G Hs x (.dat (.list ds))) : ∃ a xs, x = .ref a ∧ Hs a = some (.lst xs) ∧ DqAll Hs xs ds := by
  cases (show Dq Hs x (.list ds) from h) with
  | lst h1 h2 => exact ⟨_, _, rfl, h1, h2⟩
theorem vr_tup {x : V} {ds : List PyData} (h : VR K G Hs x (.dat (.tuple ds))) : ∃ a xs, x = .ref a ∧ SqT K Hs a xs ∧ DqAll Hs xs ds := by
  cases (show Dq Hs x (.tuple ds) from h) with
  | tup _ h1 h2 => exact ⟨_, _, rfl, SqT.of h1, h2⟩
  | nam _ h1 _ _ h2 => exact ⟨_, _, rfl, .inl (.inr ⟨_, h1⟩), h2⟩
theorem ro_I0 {r : Int → Int → V} {g : Int → Int → PyData} (h : ∀ i j Hs, Dq Hs (r i j) (g i j)) : RO K G (rI0 r) (aI0 g) := fun Hs F H L x y ex ey post Q hh rx ry hf fin => by
  obtain ⟨i, j, rfl, rfl, p⟩ := ai0_of hf
  exact ⟨i, j, vr_int rx, vr_int ry, fin _ Hs H _ L p (Same.refl _) hh (h i j Hs)⟩
theorem ro_I {C : Int → Int → Prop} {r : Int → Int → V} {g : Int → Int → PyData} (h : ∀ i j Hs, Dq Hs (r i j) (g i j)) : RO K G (rI C r) (aI2 C g) := fun Hs F H L x y ex ey post Q hh rx ry hf fin => by
  obtain ⟨i, j, rfl, rfl, c, p⟩ := ai2_of hf
  exact ⟨i, j, vr_int rx, vr_int ry, c, fin _ Hs H _ L p (Same.refl _) hh (h i j Hs)⟩
/-! ### the rules -/
variable {a b : Expr} {ta tb : AE} {pos : Pos}
theorem op_gen {r : R2} {f : AR2} (hr : RO K G r f) : ∀ σ H Q, cE K G (aOp f ta tb) σ H Q → tOp r (cE K G ta) (cE K G tb) σ H Q := fun σ H Q ⟨Hs, F, env, L, post, hs, hh, ha, hf⟩ =>
  ⟨Hs, F, env, L, _, hs, hh, ha, fun x Hs1 H1 ex L1 p1 e1 hh1 r1 => ⟨Hs1, F, env, L1, _, sr_same e1 hs, hh1, p1, fun y Hs2 H2 ey L2 p2 e2 hh2 r2 =>
    hr Hs2 F H2 L2 x y ex ey post Q hh2 (vr_same e2 r1) r2 p2 (hf.same (e1.trans e2))⟩⟩
theorem de_op {op : Operator} {r : R2} {f : AR2} (ho : OpR X (binaryOp op) r) (hr : RO X.K G r f) (ha : DE G X a ta) (hb : DE G X b tb) : DE G X (.BinOp a op b pos) (aOp f ta tb) := pe_imp (pe_op ho ha hb) (op_gen hr)
theorem de_cmp {op : CmpOp} {r : R2} {f : AR2} (ho : OpR X (compareOp op) r) (hr : RO X.K G r f) (ha : DE G X a ta) (hb : DE G X b tb) (hm : behindInMarks op b = false) : DE G X (.Compare a [op] [b] pos) (aOp f ta tb) := pe_imp (pe_cmpR ho ha hb hm) (op_gen hr)
/-- a value that is a truth value, as a test -/
def aB (a : AE) : AT := fun env L post => a env L fun x L1 => match x with
  | .dat (.bool b) => post b L1
  | _ => False
theorem ab_of {x : En} {post : Bool → List Cell → Prop} (h : match x with
  | .dat (.bool b) => post b L
  | _ => False) : ∃ b, x = .dat (.bool b) ∧ post b L := by
  split at h
  · exact ⟨_, rfl, h⟩
  · exact h.elim
theorem test_gen {t : TE} {a : AE} (h : ∀ σ H Q, cE K G a σ H Q → t σ H Q) : ∀ σ H Q, cT K G (aB a) σ H Q → (t σ H fun x H1 => ∃ k, x = .bl k ∧ Q k H1) := fun σ H Q ⟨Hs, F, env, L, post, hs, hh, ha, hf⟩ =>
  h σ H _ ⟨Hs, F, env, L, _, hs, hh, ha, fun x Hs1 H1 ex L1 p1 e1 hh1 r1 => by
    obtain ⟨b, rfl, p⟩ := ab_of (post := post) p1
    exact ⟨b, vr_bl r1, hf b Hs1 H1 L1 p e1 hh1⟩⟩
theorem dt_cmp {op : CmpOp} {r : R2} {f : AR2} (ho : OpR X (compareOp op) r) (hr : RO X.K G r f) (ha : DE G X a ta) (hb : DE G X b tb) (hm : behindInMarks op b = false) : DT G X (.Compare a [op] [b] pos) (aB (aOp f ta tb)) := pt_imp (pt_cmpR ho ha hb hm) (test_gen (op_gen hr))
theorem dt_val {e : Expr} {t : AE} (h : DE G X e t) (he : ∀ whole, isTrue e X.env whole = (do let v ← whole; standAt e.pos; holding [v] (truthy v)) := by intro _; rfl) : DT G X e (aB t) := pt_imp (pt_val h he) (test_gen fun _ _ _ q => q)
/-! ### tests together -/
def aAnd (t u : AT) : AT := fun env L post => t env L fun c L1 => (c = true → u env L1 post) ∧ (c = false → post false L1)
def aOr (t u : AT) : AT := fun env L post => t env L fun c L1 => (c = true → post true L1) ∧ (c = false → u env L1 post)
def aNot (t : AT) : AT := fun env L post => t env L fun c L1 => post (!c) L1
variable {t u : AT}
theorem dt_and1 (ha : DT G X a t) : PW X (.BoolOp .And [a] pos) (cT X.K G t) := pw_and1 ha
theorem dt_or1 (ha : DT G X a t) : PW X (.BoolOp .Or [a] pos) (cT X.K G t) := pw_or1 ha
theorem dt_and {rest : List Expr} (ha : DT G X a t) (hb : PW X (.BoolOp .And (b :: rest) pos) (cT X.K G u)) : PW X (.BoolOp .And (a :: b :: rest) pos) (cT X.K G (aAnd t u)) := pw_imp (pw_and ha hb) fun σ H Q ⟨Hs, F, env, L, post, hs, hh, ha, hf⟩ =>
  ⟨Hs, F, env, L, _, hs, hh, ha, fun c Hs1 H1 L1 p1 e1 hh1 => by
    cases c with
    | true =>
      show cT X.K G u σ H1 Q
      exact ⟨Hs1, F, env, L1, post, sr_same e1 hs, hh1, p1.1 rfl, fun b Hs2 H2 L2 p2 e2 hh2 => hf b Hs2 H2 L2 p2 (e1.trans e2) hh2⟩
    | false =>
      show Q false H1
      exact hf false Hs1 H1 L1 (p1.2 rfl) e1 hh1⟩
theorem dt_or {rest : List Expr} (ha : DT G X a t) (hb : PW X (.BoolOp .Or (b :: rest) pos) (cT X.K G u)) : PW X (.BoolOp .Or (a :: b :: rest) pos) (cT X.K G (aOr t u)) := pw_imp (pw_or ha hb) fun σ H Q ⟨Hs, F, env, L, post, hs, hh, ha, hf⟩ =>
  ⟨Hs, F, env, L, _, hs, hh, ha, fun c Hs1 H1 L1 p1 e1 hh1 => by
    cases c with
    | true =>
      show Q true H1
      exact hf true Hs1 H1 L1 (p1.1 rfl) e1 hh1
    | false =>
      show cT X.K G u σ H1 Q
      exact ⟨Hs1, F, env, L1, post, sr_same e1 hs, hh1, p1.2 rfl, fun b Hs2 H2 L2 p2 e2 hh2 => hf b Hs2 H2 L2 p2 (e1.trans e2) hh2⟩⟩
theorem dt_not (ha : DT G X a t) : DT G X (.UnaryOp .Not a pos) (aNot t) := pt_imp (pt_not ha) fun σ H Q ⟨Hs, F, env, L, post, hs, hh, ha, hf⟩ =>
  ⟨Hs, F, env, L, _, hs, hh, ha, fun c Hs1 H1 L1 p1 e1 hh1 => hf _ Hs1 H1 L1 p1 e1 hh1⟩
/-- x and y, not x as values -/
def aAndV (a b : AE) : AE := fun env L post => aB a env L fun c L1 => (c = true → b env L1 post) ∧ (c = false → post (.dat (.bool false)) L1)
def aNotV (a : AE) : AE := fun env L post => aB a env L fun c L1 => post (.dat (.bool (!c))) L1
theorem de_one {op : BoolOp} (ha : DE G X a ta) : DE G X (.BoolOp op [a] pos) ta := pe_one ha
theorem de_and {rest : List Expr} (ha : DE G X a ta) (hb : DE G X (.BoolOp .And (b :: rest) pos) tb) : DE G X (.BoolOp .And (a :: b :: rest) pos) (aAndV ta tb) := pe_imp (pe_and ha hb) fun σ H Q ⟨Hs, F, env, L, post, hs, hh, ha, hf⟩ =>
  ⟨Hs, F, env, L, _, hs, hh, ha, fun x Hs1 H1 ex L1 p1 e1 hh1 r1 => by
    obtain ⟨c, rfl, p⟩ := ab_of (post := fun c L1 => (c = true → tb env L1 post) ∧ (c = false → post (.dat (.bool false)) L1)) p1
    refine ⟨c, vr_bl r1, ?_⟩
    cases c with
    | true =>
      show cE X.K G tb σ H1 Q
      exact ⟨Hs1, F, env, L1, post, sr_same e1 hs, hh1, p.1 rfl, hf.same e1⟩
    | false =>
      show Q (.bl false) H1
      exact hf _ Hs1 H1 _ L1 (p.2 rfl) e1 hh1 (.bl false)⟩
theorem de_not (ha : DE G X a ta) : DE G X (.UnaryOp .Not a pos) (aNotV ta) := pe_imp (pe_not ha) fun σ H Q ⟨Hs, F, env, L, post, hs, hh, ha, hf⟩ =>
  ⟨Hs, F, env, L, _, hs, hh, ha, fun x Hs1 H1 ex L1 p1 e1 hh1 r1 => by
    obtain ⟨c, rfl, p⟩ := ab_of (post := fun c L1 => post (.dat (.bool (!c))) L1) p1
    exact ⟨c, vr_bl r1, hf _ Hs1 H1 _ L1 p e1 hh1 (.bl _)⟩⟩
/-! ### ints -/
theorem ro_add : RO K G (rI0 fun i j => .int (i + j)) (aI0 fun i j => .int (i + j)) := ro_I0 fun _ _ _ => .int _
theorem ro_sub : RO K G (rI0 fun i j => .int (i - j)) (aI0 fun i j => .int (i - j)) := ro_I0 fun _ _ _ => .int _
theorem ro_mul : RO K G (rI CMul fun i j => .int (i * j)) (aI2 CMul fun i j => .int (i * j)) := ro_I fun _ _ _ => .int _
theorem ro_fdiv : RO K G (rI CDiv fun i j => .int (i / j)) (aI2 CDiv fun i j => .int (i / j)) := ro_I fun _ _ _ => .int _
theorem ro_mod : RO K G (rI (fun _ j => 0 < j) fun i j => .int (i % j)) (aI2 (fun _ j => 0 < j) fun i j => .int (i % j)) := ro_I fun _ _ _ => .int _
theorem ro_pow : RO K G (rI CPow fun i j => .int (i ^ j.toNat)) (aI2 CPow fun i j => .int (i ^ j.toNat)) := ro_I fun _ _ _ => .int _
theorem ro_lt : RO K G (rI0 fun i j => .bl (decide (i < j))) (aI0 fun i j => .bool (decide (i < j))) := ro_I0 fun _ _ _ => .bl _
theorem ro_le : RO K G (rI0 fun i j => .bl (decide (i ≤ j))) (aI0 fun i j => .bool (decide (i ≤ j))) := ro_I0 fun _ _ _ => .bl _
theorem ro_gt : RO K G (rI0 fun i j => .bl (decide (j < i))) (aI0 fun i j => .bool (decide (j < i))) := ro_I0 fun _ _ _ => .bl _
theorem ro_ge : RO K G (rI0 fun i j => .bl (decide (j ≤ i))) (aI0 fun i j => .bool (decide (j ≤ i))) := ro_I0 fun _ _ _ => .bl _
theorem d_add (ha : DE G X a ta) (hb : DE G X b tb) : DE G X (.BinOp a .Add b pos) (aOp (aI0 fun i j => .int (i + j)) ta tb) := de_op op_add ro_add ha hb
theorem d_sub (ha : DE G X a ta) (hb : DE G X b tb) : DE G X (.BinOp a .Sub b pos) (aOp (aI0 fun i j => .int (i - j)) ta tb) := de_op op_sub ro_sub ha hb
theorem d_mul (ha : DE G X a ta) (hb : DE G X b tb) : DE G X (.BinOp a .Mult b pos) (aOp (aI2 CMul fun i j => .int (i * j)) ta tb) := de_op op_mul ro_mul ha hb
theorem d_fdiv (ha : DE G X a ta) (hb : DE G X b tb) : DE G X (.BinOp a .FloorDiv b pos) (aOp (aI2 CDiv fun i j => .int (i / j)) ta tb) := de_op op_fdiv ro_fdiv ha hb
theorem d_mod (ha : DE G X a ta) (hb : DE G X b tb) : DE G X (.BinOp a .Mod b pos) (aOp (aI2 (fun _ j => 0 < j) fun i j => .int (i % j)) ta tb) := de_op op_mod ro_mod ha hb
theorem d_pow (ha : DE G X a ta) (hb : DE G X b tb) : DE G X (.BinOp a .Pow b pos) (aOp (aI2 CPow fun i j => .int (i ^ j.toNat)) ta tb) := de_op op_pow ro_pow ha hb
theorem d_lt (ha : DE G X a ta) (hb : DE G X b tb) : DE G X (.Compare a [.Lt] [b] pos) (aOp (aI0 fun i j => .bool (decide (i < j))) ta tb) := de_cmp op_lt ro_lt ha hb (nomark _)
theorem t_lt (ha : DE G X a ta) (hb : DE G X b tb) : DT G X (.Compare a [.Lt] [b] pos) (aB (aOp (aI0 fun i j => .bool (decide (i < j))) ta tb)) := dt_cmp op_lt ro_lt ha hb (nomark _)
theorem t_le (ha : DE G X a ta) (hb : DE G X b tb) : DT G X (.Compare a [.LtE] [b] pos) (aB (aOp (aI0 fun i j => .bool (decide (i ≤ j))) ta tb)) := dt_cmp op_le ro_le ha hb (nomark _)
theorem t_gt (ha : DE G X a ta) (hb : DE G X b tb) : DT G X (.Compare a [.Gt] [b] pos) (aB (aOp (aI0 fun i j => .bool (decide (j < i))) ta tb)) := dt_cmp op_gt ro_gt ha hb (nomark _)
theorem t_ge (ha : DE G X a ta) (hb : DE G X b tb) : DT G X (.Compare a [.GtE] [b] pos) (aB (aOp (aI0 fun i j => .bool (decide (j ≤ i))) ta tb)) := dt_cmp op_ge ro_ge ha hb (nomark _)
/-- lo <= x < hi -/
def aBetw (a b c : AE) : AE := fun env L post => a env L fun x L1 => b env L1 fun y L2 => match x, y with
  | .dat (.int i), .dat (.int j) => (i ≤ j → c env L2 fun z L3 => match z with
    | .dat (.int k) => post (.dat (.bool (decide (j < k)))) L3
    | _ => False) ∧ (¬ i ≤ j → post (.dat (.bool false)) L2)
  | _, _ => False
theorem d_betw {c : Expr} {tc : AE} (ha : DE G X a ta) (hb : DE G X b tb) (hc : DE G X c tc) (hm : lastMarks [CmpOp.LtE, .Lt] [b, c] = false := by with_unfolding_all rfl) : DE G X (.Compare a [.LtE, .Lt] [b, c] pos) (aBetw ta tb tc) :=
  pe_imp (pe_chain op_le op_lt ha hb hc hm) fun σ H Q ⟨Hs, F, env, L, post, hs, hh, ha, hf⟩ =>
    ⟨Hs, F, env, L, _, hs, hh, ha, fun x Hs1 H1 ex L1 p1 e1 hh1 r1 => ⟨Hs1, F, env, L1, _, sr_same e1 hs, hh1, p1, fun y Hs2 H2 ey L2 p2 e2 hh2 r2 => by
      have r1' := vr_same e2 r1
      split at p2
      · rename_i i j
        obtain ⟨p3, p4⟩ := p2
        refine ⟨i, j, vr_int r1', vr_int r2, decide (i ≤ j), rfl, ?_⟩
        by_cases hij : i ≤ j
        · rw [decide_eq_true hij]
          show cE X.K G tc σ H2 _
          refine ⟨Hs2, F, env, L2, _, sr_same (e1.trans e2) hs, hh2, p3 hij, fun z Hs3 H3 ez L3 p5 e3 hh3 r3 => ?_⟩
          split at p5
          · rename_i k
            have ej : y = V.int j := vr_int r2
            exact ⟨j, k, ej, vr_int r3, hf _ Hs3 H3 _ L3 p5 ((e1.trans e2).trans e3) hh3 (.bl _)⟩
          · exact p5.elim
        · rw [decide_eq_false hij]
          show Q (.bl false) H2
          exact hf _ Hs2 H2 _ L2 (p4 hij) (e1.trans e2) hh2 (.bl false)
      · exact p2.elim⟩⟩
/-! ### equality of data -/
def aEqD : AR2 := fun x y L post => match x, y with
  | .dat d, .dat e => SeqAt.shaped d = true ∧ SeqAt.shaped e = true ∧ post (.dat (.bool (PyData.eqv d e))) L
  | _, _ => False
def aNeD : AR2 := fun x y L post => match x, y with
  | .dat d, .dat e => SeqAt.shaped d = true ∧ SeqAt.shaped e = true ∧ post (.dat (.bool (!PyData.eqv d e))) L
  | _, _ => False
theorem ro_eqD : RO K G (rEqD K) aEqD := fun Hs F H L x y ex ey post Q hh rx ry hf fin => by
  unfold aEqD at hf
  split at hf
  · obtain ⟨h1, h2, h3⟩ := hf
    exact ⟨_, _, dq_dp (dp_same hh.st rx), dq_dp (dp_same hh.st ry), h1, h2, fin _ Hs H _ L h3 (Same.refl _) hh (.bl _)⟩
  · exact hf.elim
theorem ro_neD : RO K G (rNeD K) aNeD := fun Hs F H L x y ex ey post Q hh rx ry hf fin => by
  unfold aNeD at hf
  split at hf
  · obtain ⟨h1, h2, h3⟩ := hf
    exact ⟨_, _, dq_dp (dp_same hh.st rx), dq_dp (dp_same hh.st ry), h1, h2, fin _ Hs H _ L h3 (Same.refl _) hh (.bl _)⟩
  · exact hf.elim
theorem d_eq {k : Nat} (hr : Room k X.A) (ha : DE G X a ta) (hb : DE G X b tb) : DE G X (.Compare a [.Eq] [b] pos) (aOp aEqD ta tb) := de_cmp (op_eqD hr.units) ro_eqD ha hb (nomark _)
theorem t_eq {k : Nat} (hr : Room k X.A) (ha : DE G X a ta) (hb : DE G X b tb) : DT G X (.Compare a [.Eq] [b] pos) (aB (aOp aEqD ta tb)) := dt_cmp (op_eqD hr.units) ro_eqD ha hb (nomark _)
theorem d_ne {k : Nat} (hr : Room k X.A) (ha : DE G X a ta) (hb : DE G X b tb) : DE G X (.Compare a [.NotEq] [b] pos) (aOp aNeD ta tb) := de_cmp (op_neD hr.units) ro_neD ha hb (nomark _)
theorem t_ne {k : Nat} (hr : Room k X.A) (ha : DE G X a ta) (hb : DE G X b tb) : DT G X (.Compare a [.NotEq] [b] pos) (aB (aOp aNeD ta tb)) := dt_cmp (op_neD hr.units) ro_neD ha hb (nomark _)
/-- x is None -/
def aIsN (a : AE) : AE := fun env L post => a env L fun x L1 => match x with
  | .dat d => post (.dat (.bool (match d with
    | .none => true
    | _ => false))) L1
  | _ => False
theorem t_isN {j pos'} (ha : DE G X a ta) : DT G X (.Compare a [.Is] [.Constant .none j pos'] pos) (aB (aIsN ta)) := pt_imp (pt_cmpR op_isN ha pe_non (nomark _)) (test_gen fun σ H Q ⟨Hs, F, env, L, post, hs, hh, ha, hf⟩ =>
  ⟨Hs, F, env, L, _, hs, hh, ha, fun x Hs1 H1 ex L1 p1 e1 hh1 r1 => by
    split at p1
    · rename_i d
      refine ⟨rfl, hf _ Hs1 H1 _ L1 p1 e1 hh1 ?_⟩
      have r2 : Dq Hs1 x d := r1
      cases r2 <;> exact .bl _
    · exact p1.elim⟩)
/-! ### texts -/
def aAddS : AR2 := fun x y L post => match x, y with
  | .dat (.str i), .dat (.str j) => i.length + j.length ≤ sizeLine ∧ post (.dat (.str (i ++ j))) L
  | _, _ => False
theorem d_addS (ha : DE G X a ta) (hb : DE G X b tb) : DE G X (.BinOp a .Add b pos) (aOp aAddS ta tb) := de_op op_add_str (fun Hs F H L x y ex ey post Q hh rx ry hf fin => by
  unfold aAddS at hf
  split at hf
  · exact ⟨_, _, vr_str rx, vr_str ry, hf.1, fin _ Hs H _ L hf.2 (Same.refl _) hh (.str _)⟩
  · exact hf.elim) ha hb
/-! ### lists: + -/
def aCat : AR2 := fun x y L post => match x, y with
  | .dat (.list ds), .dat (.list es) => ds.length + es.length ≤ sizeLine ∧ post (.dat (.list (ds ++ es))) L
  | _, _ => False
theorem d_cat (ha : DE G X a ta) (hb : DE G X b tb) : DE G X (.BinOp a .Add b pos) (aOp aCat ta tb) := de_op op_cat (fun Hs F H L x y ex ey post Q hh rx ry hf fin => by
  unfold aCat at hf
  split at hf
  · obtain ⟨p, xs, rfl, h1, h2⟩ := vr_lst rx
    obtain ⟨q, ys, rfl, h3, h4⟩ := vr_lst ry
    refine ⟨p, q, xs, ys, rfl, rfl, hh.st _ _ h1, hh.st _ _ h3, by rw [dpa_len h2, dpa_len h4]; exact hf.1, fun l hl => ?_⟩
    obtain ⟨e2, hh2⟩ := hh.new (o := .lst (xs ++ ys)) hl
    exact fin _ _ _ _ L hf.2 e2 hh2 (.lst upd_same (dpa_same e2 (dpa_app h2 h4)))
  · exact hf.elim) ha hb
/-! ### subscripts -/
def aIx : AR2 := fun x y L post => match x, y with
  | .dat (.list ds), .dat (.int i) => ∃ d, atI ds i = some d ∧ post (.dat d) L
  | .dat (.tuple ds), .dat (.int i) => ∃ d, atI ds i = some d ∧ post (.dat d) L
  | .dat (.str z), .dat (.int i) => z.length ≤ sizeLine ∧ ∃ c, atI z.cps.toList i = some c ∧ post (.dat (.str ⟨#[c]⟩)) L
  | .own p, .dat (.int i) => ∃ (j : Nat) (ds : List PyData) (d : PyData), L[j]? = some (p, .lst ds) ∧ atI ds i = some d ∧ post (.dat d) L
  | .scr ns, .dat (.int i) => ∃ n, atI ns i = some n ∧ post (.dat (.int n)) L
  | _, _ => False
theorem atI_dq {xs : List V} {ds : List PyData} {i : Int} {d : PyData} (h : DqAll Hs xs ds) (e : atI ds i = some d) : ∃ v, atI xs i = some v ∧ Dq Hs v d := by
  unfold atI at e ⊢
  rw [dpa_len h]
  cases q : ixN ds.length i with
  | none => rw [q] at e; cases e
  | some j =>
    rw [q] at e
    obtain ⟨v, h1, h2⟩ := dpa_get h (show ds[j]? = some d from e)
    exact ⟨v, h1, h2⟩
theorem ro_ix : RO K G (fun x y H Q => rIxL K x y H Q ∨ rIxT K x y H Q ∨ rIxS x y H Q) aIx := fun Hs F H L x y ex ey post Q hh rx ry hf fin => by
  unfold aIx at hf
  split at hf
  · obtain ⟨d, h1, h2⟩ := hf
    obtain ⟨p, xs, rfl, h3, h4⟩ := vr_lst rx
    obtain ⟨v, h5, h6⟩ := atI_dq h4 h1
    exact .inl ⟨p, xs, _, v, rfl, vr_int ry, SqL.of (hh.st _ _ h3), h5, fin _ Hs H _ L h2 (Same.refl _) hh h6⟩
  · obtain ⟨d, h1, h2⟩ := hf
    obtain ⟨p, xs, rfl, h3, h4⟩ := vr_tup rx
    obtain ⟨v, h5, h6⟩ := atI_dq h4 h1
    exact .inr (.inl ⟨p, xs, _, v, rfl, vr_int ry, same_t hh.st h3, h5, fin _ Hs H _ L h2 (Same.refl _) hh h6⟩)
  · obtain ⟨h0, c, h1, h2⟩ := hf
    exact .inr (.inr ⟨_, _, c, vr_str rx, vr_int ry, h0, h1, fin _ Hs H _ L h2 (Same.refl _) hh (.str _)⟩)
  · obtain ⟨j, ds, d, h0, h1, h2⟩ := hf
    have e1 := (show x = V.ref _ from rx)
    subst e1
    obtain ⟨xs, h3, h4⟩ := (hh.ow _ (List.mem_append_left F (List.mem_of_getElem? h0))).1
    obtain ⟨v, h5, h6⟩ := atI_dq h4 h1
    exact .inl ⟨_, xs, _, v, rfl, vr_int ry, SqL.of h3, h5, fin _ Hs H _ L h2 (Same.refl _) hh h6⟩
  · obtain ⟨n, h1, h2⟩ := hf
    obtain ⟨a, rfl, h3⟩ := rx
    rename_i ns i
    have h4 : atI (ns.map V.int) i = some (V.int n) := by
      unfold atI at h1 ⊢
      rw [List.length_map]
      cases q : ixN ns.length i with
      | none => rw [q] at h1; cases h1
      | some j =>
        rw [q] at h1
        have h1 : ns[j]? = some n := h1
        show (ns.map V.int)[j]? = _
        rw [List.getElem?_map, h1]
        rfl
    exact .inl ⟨a, _, _, _, rfl, vr_int ry, hh.st.seq h3, h4, fin _ Hs H _ L h2 (Same.refl _) hh (.int _)⟩
  · exact hf.elim
theorem d_ix (ha : DE G X a ta) (hb : DE G X b tb) (hs : PlainIx b := by exact fun _ _ => rfl) : DE G X (.Subscript a b pos) (aOp aIx ta tb) := pe_imp (pe_ix (ix_list.or (ix_tup.or ix_str)) ha hb hs) (op_gen ro_ix)
/-! ### slices -/
def cutD {α : Type} (xs : List α) (lo hi : Option Int) : List α := (xs.drop (HT.sIx xs.length 0 lo)).take (HT.sIx xs.length xs.length hi - HT.sIx xs.length 0 lo)
theorem cut_dq {xs : List V} {ds : List PyData} (h : DqAll Hs xs ds) (lo hi : Option Int) : DqAll Hs (cutV xs lo hi) (cutD ds lo hi) := by
  unfold cutV cutD
  rw [dpa_len h]
  exact dpa_take _ (dpa_drop _ h)
abbrev AO := List En → List Cell → (Option Int → List Cell → Prop) → Prop
def cO (K : PySem.W.Frag) (G : Gp) (a : AO) : TO := fun σ H Q => ∃ Hs F env L post, SR K G Hs σ env ∧ Holds K G Hs (L ++ F) H ∧ a env L post ∧
  ∀ (b : Option Int) (Hs2 H2 : Hp) (L' : List Cell), post b L' → Same Hs Hs2 → Holds K G Hs2 (L' ++ F) H2 → Q b H2
def aNoO : AO := fun _ L post => post none L
def aSoO (a : AE) : AO := fun env L post => a env L fun x L1 => match x with
  | .dat (.int i) => post (some i) L1
  | _ => False
theorem do_none : PO X none (cO X.K G aNoO) := ⟨fun pins s σ H Q I ⟨Hs, F, env, L, post, hs, hh, ha, hf⟩ => po_none.run pins s σ H Q I (hf none Hs H L ha (Same.refl _) hh)⟩
theorem do_some {e : Expr} {a : AE} (h : DE G X e a) : PO X (some e) (cO X.K G (aSoO a)) := ⟨fun pins s σ H Q I ⟨Hs, F, env, L, post, hs, hh, ha, hf⟩ => (po_some h).run pins s σ H Q I ⟨Hs, F, env, L, _, hs, hh, ha, fun x Hs1 H1 ex L1 p1 e1 hh1 r1 => by
  split at p1
  · exact ⟨_, vr_int r1, hf _ Hs1 H1 L1 p1 e1 hh1⟩
  · exact p1.elim⟩⟩
def aSl (a : AE) (lo hi : AO) : AE := fun env L post => a env L fun x L1 => lo env L1 fun l L2 => hi env L2 fun u L3 => match x with
  | .dat (.list ds) => post (.dat (.list (cutD ds l u))) L3
  | .dat (.tuple ds) => ¬ (HT.sIx ds.length 0 l = 0 ∧ HT.sIx ds.length ds.length u = ds.length) ∧ isNam (cutD ds l u) = false ∧ post (.dat (.tuple (cutD ds l u))) L3
  | .dat (.str z) => z.length ≤ sizeLine ∧ post (.dat (.str (cutS z l u))) L3
  | _ => False
theorem d_sl {lo hi : Option Expr} {p2 : Pos} {tl th : AO} (ha : DE G X a ta) (hl : PO X lo (cO X.K G tl)) (hu : PO X hi (cO X.K G th)) : DE G X (.Subscript a (.Slice lo hi none p2) pos) (aSl ta tl th) :=
  pe_imp (pe_slice (sl_list.or (sl_tup.or sl_str)) ha hl hu) fun σ H Q ⟨Hs, F, env, L, post, hs, hh, ha, hf⟩ =>
    ⟨Hs, F, env, L, _, hs, hh, ha, fun x Hs1 H1 ex L1 p1 e1 hh1 r1 => ⟨Hs1, F, env, L1, _, sr_same e1 hs, hh1, p1, fun l Hs2 H2 L2 p2 e2 hh2 => ⟨Hs2, F, env, L2, _, sr_same (e1.trans e2) hs, hh2, p2, fun u Hs3 H3 L3 p3 e3 hh3 => by
      have rx := vr_same (e2.trans e3) r1
      have ee := (e1.trans e2).trans e3
      split at p3
      · obtain ⟨p, xs, rfl, h3, h4⟩ := vr_lst rx
        refine .inl ⟨p, xs, rfl, SqL.of (hh3.st _ _ h3), fun q hq => ?_⟩
        obtain ⟨e4, hh4⟩ := hh3.new (o := .lst (cutV xs l u)) hq
        exact hf _ _ _ _ L3 p3 (ee.trans e4) hh4 (.lst upd_same (dpa_same e4 (cut_dq h4 l u)))
      · obtain ⟨p, xs, rfl, h3, h4⟩ := vr_tup rx
        refine .inr (.inl ⟨p, xs, rfl, same_t hh3.st h3, by rw [dpa_len h4]; exact p3.1, fun q hq => ?_⟩)
        obtain ⟨e4, hh4⟩ := hh3.new (o := .tup (cutV xs l u)) hq
        exact hf _ _ _ _ L3 p3.2.2 (ee.trans e4) hh4 (.tup p3.2.1 upd_same (dpa_same e4 (cut_dq h4 l u)))
      · exact .inr (.inr ⟨_, vr_str rx, p3.1, hf _ Hs3 H3 _ L3 p3.2 ee hh3 (.str _)⟩)
      · exact p3.elim⟩⟩⟩
end
end Mn
namespace Mn
open PySem PySem.Spec PyProof.Rows L2
/-! ### defs -/
abbrev AC := List En → List Cell → (En → List Cell → Prop) → Prop
def spA (K : PySem.W.Frag) (G : Gp) (C : AC) : Sp := fun vs H Q _ => ∃ Hs F ens L post, VRs K G Hs vs ens ∧ Holds K G Hs (L ++ F) H ∧ C ens L post ∧ Fin K G Hs F post Q
/-- what is known of the text's surroundings -/
structure Sx where
  P : Program
  w : World
  K : PySem.W.Frag
  mg : Str → Option Value
  base : Heap
/-- a def of the module, called by its name -/
structure Dn (S : Sx) (G : Gp) (k : Nat) (x : Str) (ps : List Str) (C : AC) : Prop where
  ex : ∃ f fd, FnOk S.P S.w S.K S.mg S.base CX0 k f fd ps (spA S.K G C) ∧ S.mg x = some (.ref f) ∧ PySem.W.keepIn S.K (.ref f) = true ∧ Binds S.K fd ps []
/-- a method of the class at Cl -/
structure Dm (S : Sx) (G : Gp) (Cl : Addr) (k : Nat) (x : Str) (ps : List Str) (C : AC) : Prop where
  ex : ∃ f fd, FnOk S.P S.w S.K S.mg S.base CX0 k f fd ps (spA S.K G C) ∧ Meth S.K Cl x f ∧ Binds S.K fd ps []
abbrev sxOf (X : Cx) : Sx := ⟨X.prog, X.w, X.K, X.mg, X.base⟩
/-- the cells Lc go to the callee, the others Lr stay -/
def aCall (C : AC) (a : AA) : AE := fun env L post => a env L fun ens L1 => ∃ Lc Lr, L1.Perm (Lc ++ Lr) ∧ C ens Lc fun en L2 => ∃ L3, L3.Perm (L2 ++ Lr) ∧ post en L3
section
variable {G : Gp} {X : Cx} {K : PySem.W.Frag}
theorem sp_of {C : AC} {Hs H : Hp} {F L1 : List Cell} {vs : List V} {ens : List En} {post : En → List Cell → Prop} {Q : VK} {E : XK} (hh : Holds K G Hs (L1 ++ F) H) (r : VRs K G Hs vs ens)
    (h : ∃ Lc Lr, L1.Perm (Lc ++ Lr) ∧ C ens Lc fun en L2 => ∃ L3, L3.Perm (L2 ++ Lr) ∧ post en L3) (fin : Fin K G Hs F post Q) : spA K G C vs H Q E := by
  obtain ⟨Lc, Lr, hp, hc⟩ := h
  refine ⟨Hs, Lr ++ F, ens, Lc, _, r, ?_, hc, fun v Hs2 H2 en L' ⟨L3, hp3, p⟩ e hh2 vr => fin v Hs2 H2 en L3 p e ?_ vr⟩
  · have h2 := hh.perm (hp.append_right F)
    rw [List.append_assoc] at h2
    exact h2
  · rw [← List.append_assoc] at hh2
    exact hh2.perm (hp3.symm.append_right F)
theorem d_call {k : Nat} {x : Str} {ps : List Str} {C : AC} {a : AA} {e : Expr} {es : List Expr} {p pos : Pos} (D : Dn (sxOf X) G k x ps C) (hr : Room k X.A) (hg : Gl X x) (ha : DA G X (e :: es) a)
    (hdb : (x == ("__debug__" : Str)) = false := by decide) (he : starEach (e :: es) X.env = (false, eval e X.env) :: starEach es X.env := by rfl) (hpl : (backTo pos (starEach es X.env)).any (·.1) = false := by rfl) :
    DE G X (.Call (.Name x p) (e :: es) [] pos) (aCall C a) := by
  obtain ⟨f, fd, F, hm, hk, hb⟩ := D.ex
  exact pe_imp (pe_call F hr hg hm hk hb .nil pass0 ha hdb he hpl) fun σ H Q ⟨Hs, F, env, L, post, hs, hh, ha, hf⟩ =>
    ⟨Hs, F, env, L, _, hs, hh, ha, fun vs Hs1 H1 exs L1 p1 e1 hh1 r1 => by
      show spA X.K G C (vs ++ []) H1 Q E0
      rw [List.append_nil]
      exact sp_of hh1 r1 p1 (hf.same e1)⟩
/-! ### objects -/
theorem fs_look {Hs : Hp} : ∀ {vs : List (Str × V)} {fs : List (Str × En)} {f : Str} {en : En}, FsOk K G Hs vs fs → fs.lookup f = some en → ∃ v, vs.lookup f = some v ∧ VR K G Hs v en
  | _, _, f, en, .nil, h => by cases h
  | (g, v) :: vs, (g', e) :: fs, f, en, .cons h r, q => by
    obtain ⟨rfl, h2⟩ := (show g = g' ∧ VR K G Hs v e from h)
    rw [List.lookup_cons] at q ⊢
    cases hb : f == g with
    | true =>
      rw [hb] at q
      cases q
      exact ⟨v, rfl, h2⟩
    | false =>
      rw [hb] at q
      exact fs_look r q
theorem fs_none {Hs : Hp} : ∀ {vs : List (Str × V)} {fs : List (Str × En)} {f : Str}, FsOk K G Hs vs fs → fs.lookup f = none → vs.lookup f = none
  | _, _, f, .nil, h => rfl
  | (g, v) :: vs, (g', e) :: fs, f, .cons h r, q => by
    obtain ⟨rfl, h2⟩ := (show g = g' ∧ VR K G Hs v e from h)
    rw [List.lookup_cons] at q ⊢
    cases hb : f == g with
    | true =>
      rw [hb] at q
      cases q
    | false =>
      rw [hb] at q
      exact fs_none r q
def putE (f : Str) (en : En) : List (Str × En) → List (Str × En)
  | [] => [(f, en)]
  | p :: r => if p.1 = f then (p.1, en) :: r else p :: putE f en r
theorem fs_put {Hs : Hp} {v : V} {en : En} (hv : VR K G Hs v en) (f : Str) : ∀ {vs : List (Str × V)} {fs : List (Str × En)}, FsOk K G Hs vs fs → FsOk K G Hs (putF f v vs) (putE f en fs)
  | _, _, .nil => .cons ⟨rfl, hv⟩ .nil
  | (g, w) :: vs, (g', e) :: fs, .cons h r => by
    obtain ⟨rfl, h2⟩ := (show g = g' ∧ VR K G Hs w e from h)
    show FsOk K G Hs (if g = f then (g, v) :: vs else (g, w) :: putF f v vs) (if g = f then (g, en) :: fs else (g, e) :: putE f en fs)
    by_cases q : g = f
    · rw [if_pos q, if_pos q]
      exact .cons ⟨rfl, hv⟩ r
    · rw [if_neg q, if_neg q]
      exact .cons ⟨rfl, h2⟩ (fs_put hv f r)
theorem fs_len {Hs : Hp} {vs : List (Str × V)} {fs : List (Str × En)} (h : FsOk K G Hs vs fs) : vs.length = fs.length := Paired.length h
variable {o e value : Expr} {es : List Expr} {f m : Str} {pos pos' tpos apos p : Pos} {ta tv : AE} {aa : AA} {Cl : Addr} {k : Nat} {ps : List Str} {C : AC}
/-! o.f of an owned object -/
def aFld (Cl : Addr) (f : Str) (a : AE) : AE := fun env L post => a env L fun x L1 => ∃ (q : Addr) (j : Nat) (dx : Addr) (fs : List (Str × En)) (en : En), x = .own q ∧ L1[j]? = some (q, OD.obj Cl dx fs) ∧ fs.lookup f = some en ∧ post en L1
theorem d_fld (c : Cls X.K Cl) (n : NoAttr X.K Cl f) (ha : DE G X e ta) (hb : attributeBase e f X.env (eval e X.env) = eval e X.env := by rfl) : DE G X (.Attribute e f pos) (aFld Cl f ta) :=
  pe_imp (pe_fld ha hb) fun σ H Q ⟨Hs, F, env, L, post, hs, hh, ha, hf⟩ => ⟨Hs, F, env, L, _, hs, hh, ha, fun x Hs1 H1 ex L1 p1 e1 hh1 r1 => by
    obtain ⟨q, j, dx, fs, en, rfl, h1, h2, h3⟩ := p1
    have ex := (show x = V.ref q from r1)
    subst ex
    obtain ⟨vs, h4, h5⟩ := (hh1.ow _ (List.mem_append_left F (List.mem_of_getElem? h1))).1
    obtain ⟨v, h6, h7⟩ := fs_look h5 h2
    exact ⟨q, Cl, dx, vs, v, rfl, h4, c, n, h6, hf _ Hs1 H1 _ L1 h3 e1 hh1 h7⟩⟩
/-! a program's fields -/
def aProg (g : PyData → PyData → PyData → PyData → PyData) (a : AE) : AE := fun env L post => a env L fun x L1 => match x with
  | .prog n p m t => post (.dat (g n p m t)) L1
  | _ => False
theorem prog_gen {g : PyData → PyData → PyData → PyData → PyData} (c : Cls X.K G.CP) (n : NoAttr X.K G.CP f)
    (hg : ∀ (Hs : Hp) (vn vp vm vt : V) (dn dp dm dt : PyData), Dq Hs vn dn → Dq Hs vp dp → Dq Hs vm dm → Dq Hs vt dt → ∃ v, ([("names", vn), ("ports", vp), ("modes", vm), ("table", vt)] : List (Str × V)).lookup f = some v ∧ Dq Hs v (g dn dp dm dt))
    (ha : DE G X e ta) (hb : attributeBase e f X.env (eval e X.env) = eval e X.env := by rfl) : DE G X (.Attribute e f pos) (aProg g ta) :=
  pe_imp (pe_fld ha hb) fun σ H Q ⟨Hs, F, env, L, post, hs, hh, ha, hf⟩ => ⟨Hs, F, env, L, _, hs, hh, ha, fun x Hs1 H1 ex L1 p1 e1 hh1 r1 => by
    split at p1
    · obtain ⟨a, dx, vn, vp, vm, vt, rfl, h2, h3, h4, h5, h6⟩ := r1
      obtain ⟨v, h7, h8⟩ := hg Hs1 vn vp vm vt _ _ _ _ h3 h4 h5 h6
      exact ⟨a, G.CP, dx, _, v, rfl, hh1.st _ _ h2, c, n, h7, hf _ Hs1 H1 _ L1 p1 e1 hh1 h8⟩
    · exact p1.elim⟩
theorem d_names (c : Cls X.K G.CP) (n : NoAttr X.K G.CP "names") (ha : DE G X e ta) (hb : attributeBase e "names" X.env (eval e X.env) = eval e X.env := by rfl) : DE G X (.Attribute e "names" pos) (aProg (fun n _ _ _ => n) ta) :=
  prog_gen c n (fun Hs vn vp vm vt dn dp dm dt h1 h2 h3 h4 => ⟨vn, rfl, h1⟩) ha hb
theorem d_ports (c : Cls X.K G.CP) (n : NoAttr X.K G.CP "ports") (ha : DE G X e ta) (hb : attributeBase e "ports" X.env (eval e X.env) = eval e X.env := by rfl) : DE G X (.Attribute e "ports" pos) (aProg (fun _ p _ _ => p) ta) :=
  prog_gen c n (fun Hs vn vp vm vt dn dp dm dt h1 h2 h3 h4 => ⟨vp, rfl, h2⟩) ha hb
theorem d_modes (c : Cls X.K G.CP) (n : NoAttr X.K G.CP "modes") (ha : DE G X e ta) (hb : attributeBase e "modes" X.env (eval e X.env) = eval e X.env := by rfl) : DE G X (.Attribute e "modes" pos) (aProg (fun _ _ m _ => m) ta) :=
  prog_gen c n (fun Hs vn vp vm vt dn dp dm dt h1 h2 h3 h4 => ⟨vm, rfl, h3⟩) ha hb
theorem d_table (c : Cls X.K G.CP) (n : NoAttr X.K G.CP "table") (ha : DE G X e ta) (hb : attributeBase e "table" X.env (eval e X.env) = eval e X.env := by rfl) : DE G X (.Attribute e "table" pos) (aProg (fun _ _ _ t => t) ta) :=
  prog_gen c n (fun Hs vn vp vm vt dn dp dm dt h1 h2 h3 h4 => ⟨vt, rfl, h4⟩) ha hb
/-! ### methods of owned objects -/
def aMeth (Cl : Addr) (m : Str) (C : AC) (a : AE) (r : AA) : AE := fun env L post => a env L fun x L1 => ∃ (q : Addr) (j : Nat) (dx : Addr) (fs : List (Str × En)), x = .own q ∧ L1[j]? = some (q, OD.obj Cl dx fs) ∧ fs.lookup m = none ∧
  r env L1 fun ens L2 => ∃ Lc Lr, L2.Perm (Lc ++ Lr) ∧ C (x :: ens) Lc fun en L3 => ∃ L4, L4.Perm (L3 ++ Lr) ∧ post en L4
theorem d_meth {pl : Sem Bool} (c : Cls X.K Cl) (D : Dm (sxOf X) G Cl k m ps C) (hr : Room k X.A) (ho : DE G X o ta) (ha : DA G X (e :: es) aa)
    (hst : starEach (e :: es) X.env = (false, eval e X.env) :: starEach es X.env := by rfl) (hpl : (backTo pos (starEach es X.env)).any (·.1) = false := by rfl)
    (ht : eval (.Call (.Attribute o m apos) (e :: es) [] pos) X.env = (do
      let ov ← eval o X.env
      standAt apos.atName
      let (f, first) ← holding [ov] (getMethod ov m pl)
      callWith pos f first (backTo pos (starEach (e :: es) X.env)) (backToKw pos (keywordEach [] X.env))) := by rfl) :
    DE G X (.Call (.Attribute o m apos) (e :: es) [] pos) (aMeth Cl m C ta aa) := by
  obtain ⟨f, fd, F, hm, hb⟩ := D.ex
  exact pe_imp (pe_meth ho c hm F hr hb .nil pass0 ha hst hpl ht) fun σ H Q ⟨Hs, F, env, L, post, hs, hh, ha, hf⟩ =>
    ⟨Hs, F, env, L, _, hs, hh, ha, fun x Hs1 H1 ex L1 p1 e1 hh1 r1 => by
      obtain ⟨q, j, dx, fs, rfl, h1, h2, h3⟩ := p1
      have ex := (show x = V.ref q from r1)
      subst ex
      obtain ⟨vs, h4, h5⟩ := (hh1.ow _ (List.mem_append_left F (List.mem_of_getElem? h1))).1
      refine ⟨q, dx, vs, rfl, h4, fs_none h5 h2, Hs1, F, env, L1, _, sr_same e1 hs, hh1, h3, fun us Hs2 H2 exs L2 p2 e2 hh2 r2 => ?_⟩
      show spA X.K G C (V.ref q :: (us ++ [])) H2 Q E0
      rw [List.append_nil]
      exact sp_of hh2 (.cons (show VR X.K G Hs2 (.ref q) (.own q) from rfl) r2) p2 (hf.same (e1.trans e2))⟩
theorem d_meth0 {pl : Sem Bool} (c : Cls X.K Cl) (D : Dm (sxOf X) G Cl k m ps C) (hr : Room k X.A) (ho : DE G X o ta)
    (ht : eval (.Call (.Attribute o m apos) [] [] pos) X.env = (do
      let ov ← eval o X.env
      standAt apos.atName
      let (f, first) ← holding [ov] (getMethod ov m pl)
      callWith pos f first (backTo pos (starEach [] X.env)) (backToKw pos (keywordEach [] X.env))) := by rfl) :
    DE G X (.Call (.Attribute o m apos) [] [] pos) (aMeth Cl m C ta aNil) := by
  obtain ⟨f, fd, F, hm, hb⟩ := D.ex
  exact pe_imp (pe_meth0 ho c hm F hr hb .nil pass0 ht) fun σ H Q ⟨Hs, F, env, L, post, hs, hh, ha, hf⟩ =>
    ⟨Hs, F, env, L, _, hs, hh, ha, fun x Hs1 H1 ex L1 p1 e1 hh1 r1 => by
      obtain ⟨q, j, dx, fs, rfl, h1, h2, h3⟩ := p1
      have ex := (show x = V.ref q from r1)
      subst ex
      obtain ⟨vs, h4, h5⟩ := (hh1.ow _ (List.mem_append_left F (List.mem_of_getElem? h1))).1
      refine ⟨q, dx, vs, rfl, h4, fs_none h5 h2, ?_⟩
      show spA X.K G C [V.ref q] H1 Q E0
      exact sp_of hh1 (.cons (show VR X.K G Hs1 (.ref q) (.own q) from rfl) .nil) h3 (hf.same e1)⟩
/-! ### C(..): a new object -/
structure Dk (S : Sx) (G : Gp) (Cl : Addr) (k : Nat) (x : Str) (ps : List Str) (C : AC) : Prop where
  ex : ∃ f fd, FnOk S.P S.w S.K S.mg S.base CX0 k f fd ps (spA S.K G C) ∧ Mk S.K Cl f ∧ S.mg x = some (.ref Cl) ∧ Binds S.K fd ps []
/-- the new object stays owned -/
def aMake (Cl : Addr) (C : AC) (a : AA) : AE := fun env L post => a env L fun ens L1 => ∀ q dx, ∃ Lc Lr, ((q, OD.obj Cl dx []) :: L1).Perm (Lc ++ Lr) ∧ C (.own q :: ens) Lc fun en L2 => en = .dat .none ∧ ∃ L3, L3.Perm (L2 ++ Lr) ∧ post (.own q) L3
/-- a program: its __init__ leaves four fields that are data; it stays as it is from here on -/
def aMakeP (CP : Addr) (C : AC) (a : AA) : AE := fun env L post => a env L fun ens L1 => ∀ q dx, C (.own q :: ens) [(q, OD.obj CP dx [])] fun en L2 => en = .dat .none ∧ ∃ dx' n p m t, L2 = [(q, OD.obj CP dx' [("names", .dat n), ("ports", .dat p), ("modes", .dat m), ("table", .dat t)])] ∧ post (.prog n p m t) L1
theorem two_new {Hs H : Hp} {L F : List Cell} {x dx : Addr} (hh : Holds K G Hs (L ++ F) H) (h1 : H x = none) (h2 : H dx = none) (h3 : dx ≠ x) : Holds K G Hs ((x, OD.obj Cl dx []) :: L ++ F) (upd (upd H dx (.own x)) x (.ins Cl dx [])) := by
  have a : Holds K G Hs (L ++ F) (upd H dx (.own x)) := by
    have hs : Hs dx = none := hh.st.free h2
    have ne : ∀ {q u}, H q = some u → q ≠ dx := fun q => ne_of_none q h2
    refine ⟨fun b u q => by rw [upd_ne (ne (hh.st b u q))]; exact hh.st b u q, fun c hc => ?_, hh.nd, fun P hP => ?_⟩
    · obtain ⟨q1, q2⟩ := hh.ow c hc
      obtain ⟨u, hu⟩ := own_some q1
      exact ⟨own_same (Same.refl _) q1 fun o q => by rw [upd_ne (ne q)]; exact q, q2⟩
    · obtain ⟨⟨ps, q1, q2⟩, q3, q4⟩ := hh.tb P hP
      exact ⟨⟨ps, by rw [upd_ne (ne q1)]; exact q1, q2⟩, q3, q4⟩
  exact a.fresh (by rw [upd_ne (Ne.symm h3)]; exact h1) ⟨[], upd_same, .nil⟩
theorem d_make {x : Str} (D : Dk (sxOf X) G Cl k x ps C) (hr : Room (k + 1) X.A) (hg : Gl X x) (ha : DA G X (e :: es) aa) (hdb : (x == ("__debug__" : Str)) = false := by decide) (he : starEach (e :: es) X.env = (false, eval e X.env) :: starEach es X.env := by rfl) (hpl : (backTo pos (starEach es X.env)).any (·.1) = false := by rfl) :
    DE G X (.Call (.Name x p) (e :: es) [] pos) (aMake Cl C aa) := by
  obtain ⟨f, fd, F, M, hm, hb⟩ := D.ex
  exact pe_imp (pe_make M F hr hg hm hb .nil pass0 ha hdb he hpl) fun σ H Q ⟨Hs, F, env, L, post, hs, hh, ha, hf⟩ =>
    ⟨Hs, F, env, L, _, hs, hh, ha, fun vs Hs1 H1 exs L1 p1 e1 hh1 r1 x dx hx hdx ne => by
      obtain ⟨Lc, Lr, hp, hc⟩ := p1 x dx
      show spA X.K G C (V.ref x :: (vs ++ [])) _ _ E0
      rw [List.append_nil]
      have h2 := (two_new (Cl := Cl) hh1 hx hdx ne).perm (hp.append_right F)
      rw [List.append_assoc] at h2
      refine ⟨Hs1, Lr ++ F, _, Lc, _, .cons (show VR X.K G Hs1 (.ref x) (.own x) from rfl) r1, h2, hc, fun v Hs2 H2 en L' pp e hh2 vr => ?_⟩
      obtain ⟨rfl, L3, hp3, pp⟩ := pp
      refine ⟨vr_non vr, hf _ Hs2 H2 _ L3 pp (e1.trans e) ?_ rfl⟩
      rw [← List.append_assoc] at hh2
      exact hh2.perm (hp3.symm.append_right F)⟩
theorem d_makeP {x : Str} (D : Dk (sxOf X) G G.CP k x ps C) (hr : Room (k + 1) X.A) (hg : Gl X x) (ha : DA G X (e :: es) aa) (hdb : (x == ("__debug__" : Str)) = false := by decide) (he : starEach (e :: es) X.env = (false, eval e X.env) :: starEach es X.env := by rfl) (hpl : (backTo pos (starEach es X.env)).any (·.1) = false := by rfl) :
    DE G X (.Call (.Name x p) (e :: es) [] pos) (aMakeP G.CP C aa) := by
  obtain ⟨f, fd, F, M, hm, hb⟩ := D.ex
  exact pe_imp (pe_make M F hr hg hm hb .nil pass0 ha hdb he hpl) fun σ H Q ⟨Hs, F, env, L, post, hs, hh, ha, hf⟩ =>
    ⟨Hs, F, env, L, _, hs, hh, ha, fun vs Hs1 H1 exs L1 p1 e1 hh1 r1 x dx hx hdx ne => by
      have hc := p1 x dx
      show spA X.K G C (V.ref x :: (vs ++ [])) _ _ E0
      rw [List.append_nil]
      have h2 := two_new (Cl := G.CP) hh1 hx hdx ne
      refine ⟨Hs1, L1 ++ F, _, [(x, OD.obj G.CP dx [])], _, .cons (show VR X.K G Hs1 (.ref x) (.own x) from rfl) r1, h2, hc, fun v Hs2 H2 en L' pp e hh2 vr => ?_⟩
      obtain ⟨rfl, dx', n, q, m, t, rfl, pp⟩ := pp
      refine ⟨vr_non vr, ?_⟩
      obtain ⟨ws, h4, h5⟩ := (hh2.ow _ List.mem_cons_self).1
      have key : ∃ vn vp vm vt, ws = ([("names", vn), ("ports", vp), ("modes", vm), ("table", vt)] : List (Str × V)) ∧ Dq Hs2 vn n ∧ Dq Hs2 vp q ∧ Dq Hs2 vm m ∧ Dq Hs2 vt t := by
        cases h5 with
        | cons a1 b1 =>
          cases b1 with
          | cons a2 b2 =>
            cases b2 with
            | cons a3 b3 =>
              cases b3 with
              | cons a4 b4 =>
                cases b4
                rename_i w1 w2 w3 w4
                obtain ⟨k1, v1⟩ := w1
                obtain ⟨k2, v2⟩ := w2
                obtain ⟨k3, v3⟩ := w3
                obtain ⟨k4, v4⟩ := w4
                obtain ⟨z1, z2⟩ := a1
                obtain ⟨z3, z4⟩ := a2
                obtain ⟨z5, z6⟩ := a3
                obtain ⟨z7, z8⟩ := a4
                cases z1
                cases z3
                cases z5
                cases z7
                exact ⟨v1, v2, v3, v4, rfl, z2, z4, z6, z8⟩
      obtain ⟨vn, vp, vm, vt, rfl, d1, d2, d3, d4⟩ := key
      obtain ⟨e3, hh3⟩ := Holds.freeze hh2 h4
      exact hf _ _ _ _ _ pp ((e1.trans e).trans e3) hh3 ⟨x, dx', vn, vp, vm, vt, rfl, upd_same, dp_same e3 d1, dp_same e3 d2, dp_same e3 d3, dp_same e3 d4⟩⟩
/-! ### built-in functions and types by name -/
theorem rn_gen {r : List V → Hp → VK → Prop} {fn : ARn} (hr : RN K G r fn) {aa : AA} : ∀ σ H Q, cE K G (aNary fn aa) σ H Q → tCB r (cA K G aa) σ H Q := fun σ H Q ⟨Hs, F, env, L, post, hs, hh, ha, hf⟩ =>
  ⟨Hs, F, env, L, _, hs, hh, ha, fun vs Hs1 H1 exs L1 p1 e1 hh1 r1 => hr Hs1 F H1 L1 vs exs post Q hh1 r1 p1 (hf.same e1)⟩
theorem d_blt {id : String} {x : Str} {r : List V → Hp → VK → Prop} {fn : ARn} (hc : CallR X (.builtin id) r) (hr : RN X.K G r fn) (hg : Gl X x) (hm : X.mg x = none) (hv : bootBuiltins x = some (.builtin id)) (ha : DA G X (e :: es) aa) (hn : x ≠ "__name__" := by decide) (hdb : (x == ("__debug__" : Str)) = false := by decide)
    (he : starEach (e :: es) X.env = (false, eval e X.env) :: starEach es X.env := by rfl) (hpl : (backTo pos (starEach es X.env)).any (·.1) = false := by rfl) : DE G X (.Call (.Name x p) (e :: es) [] pos) (aNary fn aa) :=
  pe_imp (pe_callB hc hg hm hv ha hn hdb he hpl) (rn_gen hr)
theorem d_bty {T : String} {x : Str} {r : List V → Hp → VK → Prop} {fn : ARn} (hc : CallR X (.type T) r) (hr : RN X.K G r fn) (hg : Gl X x) (hm : X.mg x = none) (hv : bootBuiltins x = some (.type T)) (ha : DA G X (e :: es) aa) (hn : x ≠ "__name__" := by decide) (hdb : (x == ("__debug__" : Str)) = false := by decide)
    (he : starEach (e :: es) X.env = (false, eval e X.env) :: starEach es X.env := by rfl) (hpl : (backTo pos (starEach es X.env)).any (·.1) = false := by rfl) : DE G X (.Call (.Name x p) (e :: es) [] pos) (aNary fn aa) :=
  pe_imp (pe_callTy hc hg hm hv ha hn hdb he hpl) (rn_gen hr)
theorem vrs1 {Hs : Hp} {vs : List V} {en : En} (h : VRs K G Hs vs [en]) : ∃ v, vs = [v] ∧ VR K G Hs v en := by
  cases h with
  | cons a b =>
    cases b
    exact ⟨_, rfl, a⟩
/-- len -/
def aLen : ARn := fun ens L post => match ens with
  | [.dat (.list ds)] => post (.dat (.int ds.length)) L
  | [.dat (.tuple ds)] => post (.dat (.int ds.length)) L
  | [.dat (.str z)] => z.length ≤ sizeLine ∧ post (.dat (.int z.length)) L
  | [.scr ns] => post (.dat (.int ns.length)) L
  | [.own p] => ∃ (j : Nat) (ds : List PyData), L[j]? = some (p, .lst ds) ∧ post (.dat (.int ds.length)) L
  | _ => False
theorem rn_len : RN K G (fun xs H Q => ∃ x n, xs = [x] ∧ LenV K x H n ∧ Q (.int n) H) aLen := fun Hs F H L xs ens post Q hh rs hf fin => by
  unfold aLen at hf
  split at hf
  · obtain ⟨v, rfl, h1⟩ := vrs1 rs
    obtain ⟨a, xs, rfl, h2, h3⟩ := vr_lst h1
    exact ⟨_, _, rfl, .inl ⟨xs, SqL.of (hh.st _ _ h2), rfl⟩, fin _ Hs H _ L hf (Same.refl _) hh (by rw [dpa_len h3]; exact .int _)⟩
  · obtain ⟨v, rfl, h1⟩ := vrs1 rs
    obtain ⟨a, xs, rfl, h2, h3⟩ := vr_tup h1
    exact ⟨_, _, rfl, .inr ⟨xs, same_t hh.st h2, rfl⟩, fin _ Hs H _ L hf (Same.refl _) hh (by rw [dpa_len h3]; exact .int _)⟩
  · obtain ⟨v, rfl, h1⟩ := vrs1 rs
    have e := vr_str h1
    subst e
    exact ⟨_, _, rfl, ⟨hf.1, rfl⟩, fin _ Hs H _ L hf.2 (Same.refl _) hh (.int _)⟩
  · obtain ⟨v, rfl, h1⟩ := vrs1 rs
    obtain ⟨a, rfl, h2⟩ := h1
    exact ⟨_, _, rfl, .inl ⟨_, hh.st.seq h2, rfl⟩, fin _ Hs H _ L hf (Same.refl _) hh (by rw [List.length_map]; exact .int _)⟩
  · obtain ⟨v, rfl, h1⟩ := vrs1 rs
    obtain ⟨j, ds, h2, h3⟩ := hf
    have e1 := (show v = V.ref _ from h1)
    subst e1
    obtain ⟨xs, h4, h5⟩ := (hh.ow _ (List.mem_append_left F (List.mem_of_getElem? h2))).1
    exact ⟨_, _, rfl, .inl ⟨xs, SqL.of h4, rfl⟩, fin _ Hs H _ L h3 (Same.refl _) hh (by rw [dpa_len h5]; exact .int _)⟩
  · exact hf.elim
theorem d_len (hg : Gl X "len") (hm : X.mg "len" = none) (ha : DA G X [e] aa) (he : starEach [e] X.env = (false, eval e X.env) :: starEach [] X.env := by rfl) : DE G X (.Call (.Name "len" p) [e] [] pos) (aNary aLen aa) := d_blt call_len rn_len hg hm boot_len ha (he := he)
/-- int(n), abs(n) -/
def aIntU (g : Int → Int) : ARn := fun ens L post => match ens with
  | [.dat (.int i)] => post (.dat (.int (g i))) L
  | _ => False
theorem d_int (hg : Gl X "int") (hm : X.mg "int" = none) (ha : DA G X [e] aa) (he : starEach [e] X.env = (false, eval e X.env) :: starEach [] X.env := by rfl) : DE G X (.Call (.Name "int" p) [e] [] pos) (aNary (aIntU fun i => i) aa) :=
  d_bty call_int1 (fun Hs F H L xs ens post Q hh rs hf fin => by
    unfold aIntU at hf
    split at hf
    · obtain ⟨v, rfl, h1⟩ := vrs1 rs
      exact .inl ⟨_, congrArg (fun z => [z]) (vr_int h1), fin _ Hs H _ L hf (Same.refl _) hh (.int _)⟩
    · exact hf.elim) hg hm (by decide +kernel) ha (he := he)
theorem d_abs (hg : Gl X "abs") (hm : X.mg "abs" = none) (ha : DA G X [e] aa) (he : starEach [e] X.env = (false, eval e X.env) :: starEach [] X.env := by rfl) : DE G X (.Call (.Name "abs" p) [e] [] pos) (aNary (aIntU fun i => if i < 0 then -i else i) aa) :=
  d_blt call_abs (fun Hs F H L xs ens post Q hh rs hf fin => by
    unfold aIntU at hf
    split at hf
    · obtain ⟨v, rfl, h1⟩ := vrs1 rs
      exact ⟨_, congrArg (fun z => [z]) (vr_int h1), fin _ Hs H _ L hf (Same.refl _) hh (.int _)⟩
    · exact hf.elim) hg hm (by decide +kernel) ha (he := he)
/-- list(x): a new list that stays -/
def aListOf : ARn := fun ens L post => match ens with
  | [.dat (.list ds)] => post (.dat (.list ds)) L
  | [.dat (.tuple ds)] => post (.dat (.list ds)) L
  | _ => False
theorem d_list (hg : Gl X "list") (hm : X.mg "list" = none) (ha : DA G X [e] aa) (he : starEach [e] X.env = (false, eval e X.env) :: starEach [] X.env := by rfl) : DE G X (.Call (.Name "list" p) [e] [] pos) (aNary aListOf aa) :=
  d_bty call_list_of (fun Hs F H L xs ens post Q hh rs hf fin => by
    unfold aListOf at hf
    split at hf
    · obtain ⟨v, rfl, h1⟩ := vrs1 rs
      obtain ⟨a, ys, rfl, h2, h3⟩ := vr_lst h1
      refine ⟨a, ys, rfl, .inl (SqL.of (hh.st _ _ h2)), fun l hl => ?_⟩
      obtain ⟨e2, hh2⟩ := hh.new (o := .lst ys) hl
      exact fin _ _ _ _ L hf e2 hh2 (.lst upd_same (dpa_same e2 h3))
    · obtain ⟨v, rfl, h1⟩ := vrs1 rs
      obtain ⟨a, ys, rfl, h2, h3⟩ := vr_tup h1
      refine ⟨a, ys, rfl, .inr (same_t hh.st h2), fun l hl => ?_⟩
      obtain ⟨e2, hh2⟩ := hh.new (o := .lst ys) hl
      exact fin _ _ _ _ L hf e2 hh2 (.lst upd_same (dpa_same e2 h3))
    · exact hf.elim) hg hm (by decide +kernel) ha (he := he)
/-- tuple(x): a new tuple of a list; a tuple itself -/
def rTupZ (K : PySem.W.Frag) : List V → Hp → VK → Prop := fun xs H Q => ∃ p ys, xs = [.ref p] ∧ ((SqL K H p ys ∧ ∀ (l : Addr) (ob : Obj), H l = none → ob.cls = .type "tuple" → ob.dict = none → Q (.ref l) (upd H l (.tup ys)) ∨ Q (.ref l) (upd H l (.frz ob (.tup ys)))) ∨ (SqT K H p ys ∧ Q (.ref p) H))
theorem call_tupZ : CallR X (.type "tuple") (rTupZ X.K) := by
  intro pins s σ H xs us Q I r h
  obtain ⟨p, ys, rfl, h⟩ := h
  obtain ⟨u, rfl, rx⟩ := vals1 r
  cases rx
  rcases h with ⟨hq, q⟩ | ⟨hq, q⟩
  · obtain ⟨its, r', pl, hz⟩ := I.list hq
    have hlen := r'.length
    refine call_tuple_list pl.isList (fun h' kp => ?_) (by simp only [List.size_toArray] <;> omega)
    have I1 : Inv X pins σ H { s with heap := h' } := I.kept (t' := s.toks) kp
    exact fin_tup I1 rfl r' hz (q _ _ (I1.hok.fresh (Nat.le_refl _)) rfl rfl)
  · obtain ⟨its, r', pl, hz⟩ := I.tuple hq
    exact call_tuple_same pl ⟨.ref p, H, I, rfl, q⟩
def aTupOf : ARn := fun ens L post => match ens with
  | [.dat (.list ds)] => post (.dat (.tuple ds)) L
  | [.dat (.tuple ds)] => post (.dat (.tuple ds)) L
  | _ => False
theorem d_tuple (hg : Gl X "tuple") (hm : X.mg "tuple" = none) (ha : DA G X [e] aa) (he : starEach [e] X.env = (false, eval e X.env) :: starEach [] X.env := by rfl) : DE G X (.Call (.Name "tuple" p) [e] [] pos) (aNary aTupOf aa) :=
  d_bty call_tupZ (fun Hs F H L xs ens post Q hh rs hf fin => by
    unfold aTupOf at hf
    split at hf
    · obtain ⟨v, rfl, h1⟩ := vrs1 rs
      obtain ⟨a, ys, rfl, h2, h3⟩ := vr_lst h1
      exact ⟨a, ys, rfl, .inl ⟨SqL.of (hh.st _ _ h2), fun l ob hl hc hd => tup_dq hh h3 hl hc hd fin hf⟩⟩
    · obtain ⟨v, rfl, h1⟩ := vrs1 rs
      have h9 := h1
      obtain ⟨a, ys, rfl, h2, h3⟩ := vr_tup h1
      exact ⟨a, ys, rfl, .inr ⟨same_t hh.st h2, fin _ Hs H _ L hf (Same.refl _) hh h9⟩⟩
    · exact hf.elim) hg hm (by decide +kernel) ha (he := he)
/-- sorted of ints -/
def aSorted : ARn := fun ens L post => ∃ ns : List Int, ens = [.dat (.list (ns.map .int))] ∧ ∀ ns' : List Int, ns'.Perm ns → ns'.Pairwise (· ≤ ·) → post (.dat (.list (ns'.map .int))) L
theorem d_sorted (hg : Gl X "sorted") (hm : X.mg "sorted" = none) (ha : DA G X [e] aa) (he : starEach [e] X.env = (false, eval e X.env) :: starEach [] X.env := by rfl) : DE G X (.Call (.Name "sorted" p) [e] [] pos) (aNary aSorted aa) :=
  d_blt cr_sortedI (fun Hs F H L xs ens post Q hh rs hf fin => by
    obtain ⟨ns, rfl, hf⟩ := hf
    obtain ⟨v, rfl, h1⟩ := vrs1 rs
    obtain ⟨a, ys, rfl, h2, h3⟩ := vr_lst h1
    have e1 := dpa_int h3
    subst e1
    refine ⟨a, ns, rfl, SqL.of (hh.st _ _ h2), fun ns' q h4 h5 h6 => ?_⟩
    obtain ⟨e2, hh2⟩ := hh.new (o := .lst (ns'.map V.int)) h6
    exact fin _ _ _ _ L (hf ns' h4 h5) e2 hh2 (.lst upd_same dpa_ints)) hg hm (by decide +kernel) ha (he := he)
end
end Mn
namespace Mn
open PySem PySem.Spec PyProof.Rows L2
section
variable {G : Gp} {X : Cx} {K : PySem.W.Frag} {o e value a b : Expr} {es : List Expr} {f m : Str} {pos pos' tpos apos p cpos : Pos} {ta tb tv : AE} {aa : AA} {Cl : Addr} {k : Nat} {ps : List Str} {C : AC}
/-! ### in -/
theorem op_either {f : Value → Value → Sem Value} {r r' : R2} (h : OpR X f r) (h' : OpR X f r') : OpR X f (fun x y H Q => r x y H Q ∨ r' x y H Q) := by
  intro pins s σ H x y v u Q I rx ry q
  rcases q with q | q
  · exact h pins s σ H x y v u Q I rx ry q
  · exact h' pins s σ H x y v u Q I rx ry q
theorem in_ints {i : Int} : ∀ {ns : List Int}, inV (.int i) (ns.map V.int) = decide (i ∈ ns)
  | [] => rfl
  | n :: ns => by
    show (eqV (.int n) (.int i) || inV (.int i) (ns.map V.int)) = _
    rw [in_ints (ns := ns)]
    show ((n == i) || _) = _
    by_cases h : n = i
    · subst h
      simp
    · have h2 : ¬ i = n := fun z => h z.symm
      simp [h, h2]
theorem in_strs {i : Str} : ∀ {ns : List Str}, inV (.str i) (ns.map V.str) = decide (i ∈ ns)
  | [] => rfl
  | n :: ns => by
    show (eqV (.str n) (.str i) || inV (.str i) (ns.map V.str)) = _
    rw [in_strs (ns := ns)]
    show ((n == i) || _) = _
    by_cases h : n = i
    · subst h
      simp
    · have h2 : ¬ i = n := fun z => h z.symm
      simp [h, h2]
theorem flat_ints : ∀ {ns : List Int}, (ns.map V.int).all flatV = true
  | [] => rfl
  | n :: ns => by
    rw [List.map_cons, List.all_cons, flat_ints]
    rfl
/-- a list of data where it stands: a tuple, a list, an owned list -/
def seqOf (y : En) (L : List Cell) (ds : List PyData) : Prop := y = .dat (.list ds) ∨ y = .dat (.tuple ds) ∨ ∃ (p : Addr) (j : Nat), y = .own p ∧ L[j]? = some (p, .lst ds)
theorem seq_rd {Hs H : Hp} {L F : List Cell} {y : V} {ey : En} {ds : List PyData} (hh : Holds K G Hs (L ++ F) H) (ry : VR K G Hs y ey) (h : seqOf ey L ds) : ∃ p xs, y = .ref p ∧ (SqL K H p xs ∨ SqT K H p xs) ∧ DqAll Hs xs ds := by
  rcases h with rfl | rfl | ⟨p, j, rfl, hj⟩
  · obtain ⟨p, xs, rfl, h1, h2⟩ := vr_lst ry
    exact ⟨p, xs, rfl, .inl (SqL.of (hh.st _ _ h1)), h2⟩
  · obtain ⟨p, xs, rfl, h1, h2⟩ := vr_tup ry
    exact ⟨p, xs, rfl, .inr (same_t hh.st h1), h2⟩
  · have e := (show y = V.ref p from ry)
    subst e
    obtain ⟨xs, h1, h2⟩ := (hh.ow _ (List.mem_append_left F (List.mem_of_getElem? hj))).1
    exact ⟨p, xs, rfl, .inl (SqL.of h1), h2⟩
def aIn (neg : Bool) : AR2 := fun x y L post =>
  (∃ (i : Int) (ns : List Int), x = .dat (.int i) ∧ seqOf y L (ns.map PyData.int) ∧ post (.dat (.bool (neg ^^ decide (i ∈ ns)))) L) ∨
  (∃ (i : Str) (ns : List Str), x = .dat (.str i) ∧ seqOf y L (ns.map PyData.str) ∧ post (.dat (.bool (neg ^^ decide (i ∈ ns)))) L) ∨
  (∃ d ds, x = .dat d ∧ y = .dat (.list ds) ∧ SeqAt.shaped d = true ∧ SeqAt.shaped (.list ds) = true ∧ post (.dat (.bool (neg ^^ ds.any fun z => PyData.eqv z d))) L)
theorem xor_if {neg c : Bool} : (if neg then !c else c) = (neg ^^ c) := by cases neg <;> cases c <;> rfl
theorem ro_in {neg : Bool} : RO K G (fun x y H Q => rIn K neg x y H Q ∨ ∃ d ds, Dp K H x d ∧ Dp K H y (.list ds) ∧ SeqAt.shaped d = true ∧ SeqAt.shaped (.list ds) = true ∧ Q (.bl (neg ^^ ds.any fun z => PyData.eqv z d)) H) (aIn neg) := fun Hs F H L x y ex ey post Q hh rx ry hf fin => by
  rcases hf with ⟨i, ns, rfl, hs, hp⟩ | ⟨i, ns, rfl, hs, hp⟩ | ⟨d, ds, rfl, rfl, s1, s2, hp⟩
  · obtain ⟨p, xs, rfl, h1, h2⟩ := seq_rd hh ry hs
    have e1 := dpa_int h2
    subst e1
    have e2 := vr_int rx
    subst e2
    refine .inl ⟨p, _, rfl, h1, rfl, flat_ints, ?_⟩
    rw [in_ints, xor_if]
    exact fin _ Hs H _ L hp (Same.refl _) hh (.bl _)
  · obtain ⟨p, xs, rfl, h1, h2⟩ := seq_rd hh ry hs
    have e1 := dpa_str h2
    subst e1
    have e2 := vr_str rx
    subst e2
    refine .inl ⟨p, _, rfl, h1, rfl, flat_strs ns, ?_⟩
    rw [in_strs, xor_if]
    exact fin _ Hs H _ L hp (Same.refl _) hh (.bl _)
  · exact .inr ⟨d, ds, dq_dp (dp_same hh.st rx), dq_dp (dp_same hh.st ry), s1, s2, fin _ Hs H _ L hp (Same.refl _) hh (.bl _)⟩
theorem in_or (hu : X.A.units + 65 < cLine) : OpR X (compareOp .In) (fun x y H Q => rIn X.K false x y H Q ∨ ∃ d ds, Dp X.K H x d ∧ Dp X.K H y (.list ds) ∧ SeqAt.shaped d = true ∧ SeqAt.shaped (.list ds) = true ∧ Q (.bl (false ^^ ds.any fun z => PyData.eqv z d)) H) :=
  op_either op_in_seq fun pins s σ H x y v u Q I rx ry ⟨d, ds, h1, h2, h3, h4, h5⟩ => op_inD hu pins s σ H x y v u Q I rx ry ⟨d, ds, h1, h2, h3, h4, by rw [Bool.false_xor] at h5; exact h5⟩
theorem notIn_or (hu : X.A.units + 65 < cLine) : OpR X (compareOp .NotIn) (fun x y H Q => rIn X.K true x y H Q ∨ ∃ d ds, Dp X.K H x d ∧ Dp X.K H y (.list ds) ∧ SeqAt.shaped d = true ∧ SeqAt.shaped (.list ds) = true ∧ Q (.bl (true ^^ ds.any fun z => PyData.eqv z d)) H) :=
  op_either op_notIn_seq fun pins s σ H x y v u Q I rx ry ⟨d, ds, h1, h2, h3, h4, h5⟩ => op_notInD hu pins s σ H x y v u Q I rx ry ⟨d, ds, h1, h2, h3, h4, by rw [Bool.true_xor] at h5; exact h5⟩
theorem room65 (hr : Room k X.A) : X.A.units + 65 < cLine := by
  have := hr.un
  omega
theorem d_in (hr : Room k X.A) (ha : DE G X a ta) (hb : DE G X b tb) (hm : behindInMarks .In b = false := by rfl) : DE G X (.Compare a [.In] [b] pos) (aOp (aIn false) ta tb) := de_cmp (in_or (room65 hr)) ro_in ha hb hm
theorem t_in (hr : Room k X.A) (ha : DE G X a ta) (hb : DE G X b tb) (hm : behindInMarks .In b = false := by rfl) : DT G X (.Compare a [.In] [b] pos) (aB (aOp (aIn false) ta tb)) := dt_cmp (in_or (room65 hr)) ro_in ha hb hm
theorem t_notIn (hr : Room k X.A) (ha : DE G X a ta) (hb : DE G X b tb) (hm : behindInMarks .NotIn b = false := by rfl) : DT G X (.Compare a [.NotIn] [b] pos) (aB (aOp (aIn true) ta tb)) := dt_cmp (notIn_or (room65 hr)) ro_in ha hb hm
/-! ### isinstance -/
theorem ty_int {H : Hp} {i : Int} : TyX K H (.int i) (.type "int") := .base (.int i)
theorem dq_ty {Hs H : Hp} {v : V} {d : PyData} (e : Same Hs H) (h : Dq Hs v d) : TyX K H v (match d with
  | .none => .type "NoneType"
  | .bool _ => .type "bool"
  | .int _ => .type "int"
  | .str _ => .type "str"
  | .list _ => .type "list"
  | .tuple _ => .type "tuple"
  | _ => .none) := by
  cases h with
  | non => exact .base .non
  | bl b => exact .base (.bl b)
  | int i => exact .base (.int i)
  | str x => exact .base (.str x)
  | lst h1 h2 => exact .base (.lst (e _ _ h1))
  | tup n h1 h2 => exact .base (.tup (e _ _ h1))
  | nam n h1 c d h2 => exact .fTuple (e _ _ h1)
/-- what kind of thing -/
def kindOf : PyData → Nat
  | .none => 0
  | .bool _ => 1
  | .int _ => 2
  | .str _ => 3
  | .list _ => 4
  | .tuple _ => 5
  | _ => 6
def isiInt (d : PyData) : Bool := kindOf d == 1 || kindOf d == 2
def isiBool (d : PyData) : Bool := kindOf d == 1
def isiTup (d : PyData) : Bool := kindOf d == 5
def isiLT (d : PyData) : Bool := kindOf d == 4 || kindOf d == 5
def aIsi (q : PyData → Bool) (a : AE) : AE := fun env L post => a env L fun x L1 => match x with
  | .dat d => post (.dat (.bool (q d))) L1
  | _ => False
theorem aisi_of {q : PyData → Bool} {x : En} {L1 : List Cell} {post : En → List Cell → Prop} (h : match x with
  | .dat d => post (.dat (.bool (q d))) L1
  | _ => False) : ∃ d, x = .dat d ∧ post (.dat (.bool (q d))) L1 := by
  split at h
  · exact ⟨_, rfl, h⟩
  · exact h.elim
theorem isi_gen {q : PyData → Bool} {T : String}
    (hk : ∀ (Hs H : Hp) (v : V) (d : PyData), Same Hs H → Dq Hs v d → ∃ t, TyX K H v t ∧ PySem.W.kitOne K t (.type T) = some (q d)) :
    ∀ σ H Q, cE K G (aIsi q ta) σ H Q → tCB (rIsi K) (tCons (cE K G ta) (tCons (tC (.ty T)) tNil)) σ H Q := fun σ H Q ⟨Hs, F, env, L, post, hs, hh, ha, hf⟩ =>
  ⟨Hs, F, env, L, _, hs, hh, ha, fun x Hs1 H1 ex L1 p1 e1 hh1 r1 => by
    obtain ⟨d, rfl, p2⟩ := aisi_of p1
    obtain ⟨t, h3, h4⟩ := hk Hs1 H1 x d hh1.st r1
    exact ⟨x, .ty T, t, .type T, q d, rfl, .ty T, h3, h4, hf _ Hs1 H1 _ L1 p2 e1 hh1 (.bl _)⟩⟩
theorem kd_int {Hs H : Hp} {v : V} {d : PyData} (e : Same Hs H) (h : Dq Hs v d) : ∃ t, TyX K H v t ∧ PySem.W.kitOne K t (.type "int") = some (isiInt d) := by
  cases h with
  | non => exact ⟨_, .base .non, kit_ty (show kitB "NoneType" "int" = some false by decide +kernel)⟩
  | bl b => exact ⟨_, .base (.bl b), kit_ty (show kitB "bool" "int" = some true by decide +kernel)⟩
  | int i => exact ⟨_, .base (.int i), kit_ty (show kitB "int" "int" = some true by decide +kernel)⟩
  | str x => exact ⟨_, .base (.str x), kit_ty (show kitB "str" "int" = some false by decide +kernel)⟩
  | lst h1 h2 => exact ⟨_, .base (.lst (e _ _ h1)), kit_ty (show kitB "list" "int" = some false by decide +kernel)⟩
  | tup n h1 h2 => exact ⟨_, .base (.tup (e _ _ h1)), kit_ty (show kitB "tuple" "int" = some false by decide +kernel)⟩
  | nam n h1 c d h2 => exact ⟨_, .fTuple (e _ _ h1), kit_ty (show kitB "tuple" "int" = some false by decide +kernel)⟩
theorem kd_bool {Hs H : Hp} {v : V} {d : PyData} (e : Same Hs H) (h : Dq Hs v d) : ∃ t, TyX K H v t ∧ PySem.W.kitOne K t (.type "bool") = some (isiBool d) := by
  cases h with
  | non => exact ⟨_, .base .non, kit_ty (show kitB "NoneType" "bool" = some false by decide +kernel)⟩
  | bl b => exact ⟨_, .base (.bl b), kit_ty (show kitB "bool" "bool" = some true by decide +kernel)⟩
  | int i => exact ⟨_, .base (.int i), kit_ty (show kitB "int" "bool" = some false by decide +kernel)⟩
  | str x => exact ⟨_, .base (.str x), kit_ty (show kitB "str" "bool" = some false by decide +kernel)⟩
  | lst h1 h2 => exact ⟨_, .base (.lst (e _ _ h1)), kit_ty (show kitB "list" "bool" = some false by decide +kernel)⟩
  | tup n h1 h2 => exact ⟨_, .base (.tup (e _ _ h1)), kit_ty (show kitB "tuple" "bool" = some false by decide +kernel)⟩
  | nam n h1 c d h2 => exact ⟨_, .fTuple (e _ _ h1), kit_ty (show kitB "tuple" "bool" = some false by decide +kernel)⟩
theorem kd_tup {Hs H : Hp} {v : V} {d : PyData} (e : Same Hs H) (h : Dq Hs v d) : ∃ t, TyX K H v t ∧ PySem.W.kitOne K t (.type "tuple") = some (isiTup d) := by
  cases h with
  | non => exact ⟨_, .base .non, kit_ty (show kitB "NoneType" "tuple" = some false by decide +kernel)⟩
  | bl b => exact ⟨_, .base (.bl b), kit_ty (show kitB "bool" "tuple" = some false by decide +kernel)⟩
  | int i => exact ⟨_, .base (.int i), kit_ty (show kitB "int" "tuple" = some false by decide +kernel)⟩
  | str x => exact ⟨_, .base (.str x), kit_ty (show kitB "str" "tuple" = some false by decide +kernel)⟩
  | lst h1 h2 => exact ⟨_, .base (.lst (e _ _ h1)), kit_ty (show kitB "list" "tuple" = some false by decide +kernel)⟩
  | tup n h1 h2 => exact ⟨_, .base (.tup (e _ _ h1)), kit_ty (show kitB "tuple" "tuple" = some true by decide +kernel)⟩
  | nam n h1 c d h2 => exact ⟨_, .fTuple (e _ _ h1), kit_ty (show kitB "tuple" "tuple" = some true by decide +kernel)⟩
theorem kd_lt {Hs H : Hp} {v : V} {d : PyData} (e : Same Hs H) (h : Dq Hs v d) : ∃ t, TyX K H v t ∧ PySem.W.kitAny K t [.type "list", .type "tuple"] = some (isiLT d) := by
  have no : ∀ {T : String}, kitB T "list" = some false → kitB T "tuple" = some false → PySem.W.kitAny K (.type T) [.type "list", .type "tuple"] = some false := fun h1 h2 =>
    kitAny_cons (kit_ty h1) (fun _ => kitAny_cons (kit_ty h2) (fun _ => kitAny_nil) fun z => nomatch z) fun z => nomatch z
  have l : PySem.W.kitAny K (.type "list") [.type "list", .type "tuple"] = some true := kitAny_cons (b := true) (kit_ty (by decide +kernel)) (fun z => nomatch z) fun _ => rfl
  have t : PySem.W.kitAny K (.type "tuple") [.type "list", .type "tuple"] = some true :=
    kitAny_cons (b := false) (kit_ty (by decide +kernel)) (fun _ => kitAny_cons (b := true) (kit_ty (by decide +kernel)) (fun z => nomatch z) fun _ => rfl) fun z => nomatch z
  cases h with
  | non => exact ⟨_, .base .non, no (by decide +kernel) (by decide +kernel)⟩
  | bl b => exact ⟨_, .base (.bl b), no (by decide +kernel) (by decide +kernel)⟩
  | int i => exact ⟨_, .base (.int i), no (by decide +kernel) (by decide +kernel)⟩
  | str x => exact ⟨_, .base (.str x), no (by decide +kernel) (by decide +kernel)⟩
  | lst h1 h2 => exact ⟨_, .base (.lst (e _ _ h1)), l⟩
  | tup n h1 h2 => exact ⟨_, .base (.tup (e _ _ h1)), t⟩
  | nam n h1 c d h2 => exact ⟨_, .fTuple (e _ _ h1), t⟩
theorem d_isi {q : PyData → Bool} {T : String} {x : Str} {p2 : Pos} (hk : ∀ (Hs H : Hp) (v : V) (d : PyData), Same Hs H → Dq Hs v d → ∃ t, TyX X.K H v t ∧ PySem.W.kitOne X.K t (.type T) = some (q d))
    (hg : Gl X "isinstance") (hm : X.mg "isinstance" = none) (gt : Gl X x) (mt : X.mg x = none) (bt : bootBuiltins x = some (.type T)) (ha : DE G X e ta) (hn : x ≠ "__name__" := by decide) (hd : (x == ("__debug__" : Str)) = false := by decide)
    (h1 : starEach [e, .Name x p2] X.env = (false, eval e X.env) :: starEach [.Name x p2] X.env := by rfl) (h2 : (backTo pos (starEach [.Name x p2] X.env)).any (·.1) = false := by rfl) (h3 : starEach [.Name x p2] X.env = (false, eval (.Name x p2) X.env) :: starEach [] X.env := by rfl) :
    DE G X (.Call (.Name "isinstance" p) [e, .Name x p2] [] pos) (aIsi q ta) :=
  pe_imp (pe_callB call_isi hg hm (by decide +kernel) (pa_cons ha (pa_cons (pe_bltn (v := .ty T) gt mt bt rfl hn hd) pa_nil h3) h1) (by decide) (by decide) h1 h2) (isi_gen hk)
theorem d_isiLT {p1 p2 p3 : Pos} {k : Nat} (hg : Gl X "isinstance") (hm : X.mg "isinstance" = none) (gl : Gl X "list") (ml : X.mg "list" = none) (gt : Gl X "tuple") (mt : X.mg "tuple" = none) (ha : DE G X e ta)
    (h1 : starEach [e, .Tuple [.Name "list" p1, .Name "tuple" p2] k p3] X.env = (false, eval e X.env) :: starEach [.Tuple [.Name "list" p1, .Name "tuple" p2] k p3] X.env := by rfl) (h2 : (backTo pos (starEach [.Tuple [.Name "list" p1, .Name "tuple" p2] k p3] X.env)).any (·.1) = false := by rfl)
    (h3 : starEach [.Tuple [.Name "list" p1, .Name "tuple" p2] k p3] X.env = (false, eval (.Tuple [.Name "list" p1, .Name "tuple" p2] k p3) X.env) :: starEach [] X.env := by rfl)
    (h4 : starEach [.Name "list" p1, .Name "tuple" p2] X.env = (false, eval (.Name "list" p1) X.env) :: starEach [.Name "tuple" p2] X.env := by rfl) (h5 : starEach [.Name "tuple" p2] X.env = (false, eval (.Name "tuple" p2) X.env) :: starEach [] X.env := by rfl) :
    DE G X (.Call (.Name "isinstance" p) [e, .Tuple [.Name "list" p1, .Name "tuple" p2] k p3] [] pos) (aIsi isiLT ta) :=
  pe_imp (pe_callB call_isiT hg hm (by decide +kernel) (pa_cons ha (pa_cons (pe_tup (pa_cons (pe_bltn (v := .ty "list") gl ml (by decide +kernel) rfl) (pa_cons (pe_bltn (v := .ty "tuple") gt mt (by decide +kernel) rfl) pa_nil h5) h4)) pa_nil h3) h1) (by decide) (by decide) h1 h2)
    fun σ H Q ⟨Hs, F, env, L, post, hs, hh, ha, hf⟩ =>
  ⟨Hs, F, env, L, _, hs, hh, ha, fun x Hs1 H1 ex L1 p1 e1 hh1 r1 => by
    obtain ⟨d, rfl, p2⟩ := aisi_of p1
    refine ⟨sz_ok (n := 2) (by decide), fun tp htp => ?_⟩
    obtain ⟨e2, hh2⟩ := hh1.new (o := .tup [.ty "list", .ty "tuple"]) htp
    obtain ⟨t, h3, h4⟩ := kd_lt (K := X.K) (e2.trans hh2.st) r1
    exact ⟨x, tp, [.ty "list", .ty "tuple"], t, [.type "list", .type "tuple"], isiLT d, rfl, upd_same, .cons (.ty _) (.cons (.ty _) .nil), h3, h4, hf _ _ _ _ L1 p2 (e1.trans e2) hh2 (.bl _)⟩⟩
/-! ### names.index(x) -/
theorem all_strs : ∀ {ds : List PyData}, ds.all isS = true → ∃ zs : List Str, ds = zs.map PyData.str
  | [], _ => ⟨[], rfl⟩
  | d :: ds, h => by
    rw [List.all_cons, Bool.and_eq_true] at h
    obtain ⟨zs, rfl⟩ := all_strs h.2
    cases d with
    | str z => exact ⟨z :: zs, rfl⟩
    | _ => exact absurd (show false = true from h.1) (by decide)
theorem nam_strs {zs : List Str} (h : zs ≠ []) : isNam (zs.map PyData.str) = true := by
  cases zs with
  | nil => exact absurd rfl h
  | cons z zs =>
    unfold isNam
    rw [List.map_cons, List.isEmpty_cons, List.all_cons]
    have e : (zs.map PyData.str).all isS = true := by
      rw [List.all_map]
      exact List.all_eq_true.mpr fun _ _ => rfl
    rw [e]
    rfl
def aIndex (a b : AE) : AE := fun env L post => a env L fun x L1 => ∃ zs : List Str, x = .dat (.tuple (zs.map PyData.str)) ∧ zs ≠ [] ∧ b env L1 fun y L2 => ∃ (z : Str) (j : Nat), y = .dat (.str z) ∧ zs[j]? = some z ∧ (∀ m, m < j → zs[m]? ≠ some z) ∧ post (.dat (.int j)) L2
theorem d_index (ho : DE G X o ta) (he : DE G X e tb) (hbase : attributeBase o "index" X.env (eval o X.env) = eval o X.env := by rfl)
    (hfew : ((backTo cpos (starEach [e] X.env)).all (fun x => !x.1) && (backToKw cpos (keywordEach [] X.env)).all (fun x => x.1.isSome)
      && decide ([e].length + ([] : List Keyword).length + (if ([] : List Keyword).isEmpty then 0 else 1) < 30)) = true := by rfl)
    (hline : (apos.endLine == cpos.line) = true := by rfl) (hs : starEach [e] X.env = (false, eval e X.env) :: starEach [] X.env := by rfl) :
    DE G X (.Call (.Attribute o "index" apos) [e] [] cpos) (aIndex ta tb) := by
  refine ⟨fun pins s σ H Q I ⟨Hs, F, env, L, post, hs', hh, ha, hf⟩ => ?_⟩
  refine wpAny_Call_method_late hbase hfew hline rfl (thn (ho.run pins s σ H (fun x H1 => ∃ (Hs1 : Hp) (L1 : List Cell) (zs : List Str), Same Hs Hs1 ∧ Holds X.K G Hs1 (L1 ++ F) H1 ∧ VR X.K G Hs1 x (.dat (.tuple (zs.map PyData.str))) ∧ zs ≠ [] ∧ tb env L1 fun y L2 => ∃ (z : Str) (j : Nat), y = .dat (.str z) ∧ zs[j]? = some z ∧ (∀ m, m < j → zs[m]? ≠ some z) ∧ post (.dat (.int j)) L2) I
    ⟨Hs, F, env, L, _, hs', hh, ha, fun x Hs1 H1 ex L1 ⟨zs, ez, hz, p1⟩ e1 hh1 r1 => ⟨Hs1, L1, zs, e1, hh1, by rw [ez] at r1; exact r1, hz, p1⟩⟩) fun v s1 ⟨x, H1, I1, r1, Hs1, L1, zs, e1, hh1, rx, hz, q1⟩ => ?_)
  have key : ∃ q ob xs, x = .ref q ∧ Hs1 q = some (.frz ob (.tup xs)) ∧ ob.cls = .type "tuple" ∧ ob.dict = none ∧ DqAll Hs1 xs (zs.map PyData.str) := by
    cases (show Dq Hs1 x (.tuple (zs.map PyData.str)) from rx) with
    | tup n h1 h2 =>
      rw [nam_strs hz] at n
      cases n
    | nam n h1 c d h2 => exact ⟨_, _, _, rfl, h1, c, d, h2⟩
  obtain ⟨q, ob, xs, rfl, h1, hc, hd, h2⟩ := key
  have e2 := dpa_str h2
  subst e2
  obtain rfl : v = Value.ref q := r1
  have hob : s1.heap.get? q = some ob := (I1.hok q _ (hh1.st _ _ h1)).1
  refine ⟨"tuple", "tuple.index", PySem.F.plainAttrs_tuple, PySem.F.slot_tuple_index, PySem.F.type_tuple_index, ⟨ob, hob, hc⟩, fun a ea => ?_, ?_⟩
  · cases ea
    exact ⟨ob, hob, hd⟩
  have hA := (da_cons (es := []) he da_nil hs).run cpos pins s1 σ H1 (fun ys H2 => ∃ (z : Str) (j : Nat), ys = [.str z] ∧ (∃ Hs2, Same Hs1 Hs2 ∧ ∃ L2, Holds X.K G Hs2 (L2 ++ F) H2 ∧ post (.dat (.int j)) L2) ∧ zs[j]? = some z ∧ (∀ m, m < j → zs[m]? ≠ some z)) I1
    ⟨Hs1, F, env, L1, fun ens L2 => match ens with
    | [y] => ∃ (z : Str) (j : Nat), y = .dat (.str z) ∧ zs[j]? = some z ∧ (∀ m, m < j → zs[m]? ≠ some z) ∧ post (.dat (.int j)) L2
    | _ => False, sr_same e1 hs', hh1, q1, fun vs Hs2 H2 ens L2 g e2 hh2 r2 => ?_⟩
  · rw [hs] at hA ⊢
    refine Calls.callWith_builtin rfl (Calls.evalArgs_plain ?_)
    exact thn hA fun us s2 ⟨vs, H2, I2, r2, z, j, ev, ⟨Hs2, e2, L2, hh2, g3⟩, g1, g2⟩ => mt_tup_index pins s2 σ H2 (.ref q) vs (.ref q) us Q I2 rfl r2
      ⟨q, zs, z, j, rfl, ev, .inl (.inr ⟨ob, (e2.trans hh2.st) _ _ h1⟩), g1, g2, hf _ Hs2 H2 _ L2 g3 (e1.trans e2) hh2 (.int _)⟩
  · dsimp only at g
    split at g
    · rename_i y
      obtain ⟨z, j, ez, g1, g2, g3⟩ := g
      subst ez
      obtain ⟨v2, rfl, r3⟩ := vrs1 r2
      have e3 := vr_str r3
      subst e3
      exact ⟨z, j, rfl, ⟨Hs2, e2, L2, hh2, g3⟩, g1, g2⟩
    · exact g.elim
end
end Mn
namespace Mn
open PySem PySem.Spec PyProof.Rows L2
section
variable {G : Gp} {X : Cx} {K : PySem.W.Frag} {o e value a b i : Expr} {es : List Expr} {f m : Str} {pos pos' tpos apos p cpos : Pos} {ta tb tv : AE} {aa : AA} {Cl : Addr} {k : Nat} {ps : List Str} {C : AC}
/-! ### what a value stands for, read another way -/
/-- an owned list stays as it is from here on -/
def aFrz (a : AE) : AE := fun env L post => a env L fun x L1 => ∃ (q : Addr) (j : Nat) (ds : List PyData), x = .own q ∧ L1[j]? = some (q, .lst ds) ∧ post (.dat (.list ds)) (L1.eraseIdx j)
theorem de_frz (h : DE G X e ta) : DE G X e (aFrz ta) := pe_imp h fun σ H Q ⟨Hs, F, env, L, post, hs, hh, ha, hf⟩ =>
  ⟨Hs, F, env, L, _, hs, hh, ha, fun x Hs1 H1 ex L1 ⟨q, j, ds, ez, hj, p1⟩ e1 hh1 r1 => by
    subst ez
    have e2 := (show x = V.ref q from r1)
    subst e2
    have h2 := hh1.at_ hj
    obtain ⟨xs, h3, h4⟩ := (h2.ow _ List.mem_cons_self).1
    obtain ⟨e3, hh3⟩ := h2.freeze h3
    exact hf _ _ _ _ _ p1 (e1.trans e3) hh3 (.lst upd_same (dpa_same e3 h4))⟩
/-- an owned dict stays as it is from here on -/
def aFrzD (a : AE) : AE := fun env L post => a env L fun x L1 => ∃ (q : Addr) (j : Nat) (kds : KDs), x = .own q ∧ L1[j]? = some (q, .dic kds) ∧ post (.dic kds) (L1.eraseIdx j)
theorem de_frzD (h : DE G X e ta) : DE G X e (aFrzD ta) := pe_imp h fun σ H Q ⟨Hs, F, env, L, post, hs, hh, ha, hf⟩ =>
  ⟨Hs, F, env, L, _, hs, hh, ha, fun x Hs1 H1 ex L1 ⟨q, j, kds, ez, hj, p1⟩ e1 hh1 r1 => by
    subst ez
    have e2 := (show x = V.ref q from r1)
    subst e2
    have h2 := hh1.at_ hj
    obtain ⟨kvs, h3, h4⟩ := (h2.ow _ List.mem_cons_self).1
    obtain ⟨e3, hh3⟩ := h2.freeze h3
    exact hf _ _ _ _ _ p1 (e1.trans e3) hh3 ⟨q, kvs, rfl, upd_same, kv_same e3 h4⟩⟩
/-! ### tuple(range(n)), xs[::-1] -/
def aTupRg (a : AE) : AE := fun env L post => a env L fun x L1 => ∃ n : Int, x = .dat (.int n) ∧ 0 ≤ n ∧ n ≤ 1000 ∧ post (.dat (.tuple ((List.range n.toNat).map fun (i : Nat) => PyData.int i))) L1
theorem d_tupRg {p2 pos2 : Pos} (hc : X.calm = true) (hg : Gl X "tuple") (hm : X.mg "tuple" = none) (gr : Gl X "range") (mr : X.mg "range" = none) (ha : DE G X e ta) (na : starEach [e] X.env = (false, eval e X.env) :: starEach [] X.env := by rfl)
    (nb : starEach [.Call (.Name "range" p2) [e] [] pos2] X.env = (false, eval (.Call (.Name "range" p2) [e] [] pos2) X.env) :: starEach [] X.env := by rfl) :
    DE G X (.Call (.Name "tuple" p) [.Call (.Name "range" p2) [e] [] pos2] [] pos) (aTupRg ta) := pe_imp (pe_tupRg hc hg hm (prg_1 gr mr ha na) nb) fun σ H Q ⟨Hs, F, env, L, post, hs, hh, ha, hf⟩ =>
  ⟨Hs, F, env, L, _, hs, hh, ha, fun x Hs1 H1 ex L1 ⟨n, ez, h0, h1, p1⟩ e1 hh1 r1 => by
    subst ez
    refine ⟨n, vr_int r1, RgOk.of_le (by omega) (by omega) (by omega) (by omega), fun q hq => ?_⟩
    obtain ⟨e2, hh2⟩ := hh1.new (o := .tup (rgV 0 n)) hq
    refine hf _ _ _ _ L1 p1 (e1.trans e2) hh2 (.tup ?_ upd_same ?_)
    · cases n.toNat with
      | zero => rfl
      | succ k =>
        rw [List.range_succ_eq_map]
        rfl
    · have z : rgV 0 n = (((List.range n.toNat).map fun (i : Nat) => (i : Int)).map V.int) := by
        unfold rgV
        rw [List.map_map, Int.sub_zero]
        apply List.map_congr_left
        intro a _
        show V.int (0 + (a : Int)) = V.int a
        rw [Int.zero_add]
      have z2 : ((List.range n.toNat).map fun (i : Nat) => PyData.int i) = (((List.range n.toNat).map fun (i : Nat) => (i : Int)).map PyData.int) := by
        rw [List.map_map]
        rfl
      rw [z, z2]
      exact dpa_ints⟩
def aRev (a : AE) : AE := fun env L post => a env L fun x L1 => match x with
  | .dat (.list ds) => post (.dat (.list ds.reverse)) L1
  | _ => False
theorem d_rev {k : Nat} {p1 p2 p3 : Pos} (ha : DE G X e ta) : DE G X (.Subscript e (.Slice none none (some (.UnaryOp .USub (.Constant (.int 1) k p1) p2)) p3) pos) (aRev ta) := pe_imp (pe_revL ha) fun σ H Q ⟨Hs, F, env, L, post, hs, hh, ha, hf⟩ =>
  ⟨Hs, F, env, L, _, hs, hh, ha, fun x Hs1 H1 ex L1 p1 e1 hh1 r1 => by
    split at p1
    · obtain ⟨a, ys, rfl, h2, h3⟩ := vr_lst r1
      refine ⟨a, ys, rfl, SqL.of (hh1.st _ _ h2), fun l hl => ?_⟩
      obtain ⟨e2, hh2⟩ := hh1.new (o := .lst ys.reverse) hl
      exact hf _ _ _ _ L1 p1 (e1.trans e2) hh2 (.lst upd_same (dpa_same e2 (dpa_rev h3)))
    · exact p1.elim⟩
/-! ### dicts -/
def keyD : L2.Key → PyData
  | .inl i => .int i
  | .inr z => .str z
def aDNew : AE := fun _ L post => ∀ q, post (.own q) ((q, .dic []) :: L)
theorem d_dnew : DE G X (.Dict [] [] pos) aDNew := pe_imp pe_dnewT fun σ H Q ⟨Hs, F, env, L, post, hs, hh, ha, hf⟩ q hq =>
  hf _ Hs _ _ _ (ha q) (Same.refl _) (hh.fresh (u := .dT []) hq ⟨[], upd_same, .nil⟩) rfl
theorem kv_key {Hs : Hp} {v : V} : ∀ {ks : List L2.Key} , ks.all (fun k => match k with | .inl _ => true | .inr _ => false) = true → ∀ {xs : List V}, DqAll Hs xs (ks.map keyD) → xs = ks.map kV
  | [], _, _, .nil => rfl
  | .inl i :: ks, h, _, .cons h1 h2 => by
    rw [List.all_cons, Bool.and_eq_true] at h
    have e := kv_key (v := v) h.2 h2
    cases h1
    rw [e]
    rfl
  | .inr z :: ks, h, _, .cons h1 h2 => by
    rw [List.all_cons, Bool.and_eq_true] at h
    exact absurd h.1 Bool.false_ne_true
def intK (ns : List Int) : List L2.Key := ns.map Sum.inl
theorem key_rd {Hs : Hp} {v : V} {ns : List Int} (h : VR K G Hs v (.dat (.tuple (ns.map PyData.int)))) : ∃ q, v = .ref q ∧ Hs q = some (.tup ((intK ns).map kV)) := by
  have no : isNam (ns.map PyData.int) = false := by
    cases ns with
    | nil => rfl
    | cons n ns => rfl
  cases (show Dq Hs v (.tuple (ns.map PyData.int)) from h) with
  | tup n h1 h2 =>
    have e := dpa_int h2
    subst e
    refine ⟨_, rfl, ?_⟩
    rw [h1]
    unfold intK
    rw [List.map_map]
    rfl
  | nam n h1 c d h2 =>
    rw [no] at n
    cases n
def valD (kds : KDs) (k : List L2.Key) : Option PyData := (kds.find? fun kv => decide (kv.1 = k)).map (·.2)
def putD (kds : KDs) (k : List L2.Key) (d : PyData) : KDs :=
  if (kds.any fun kv => decide (kv.1 = k)) = true then kds.map (fun kv => if kv.1 = k then (kv.1, d) else kv) else kds ++ [(k, d)]
theorem kv_val {Hs : Hp} {k : List L2.Key} : ∀ {kvs : List (List L2.Key × V)} {kds : KDs}, KvOk Hs kvs kds → (match valD kds k with
    | some d => ∃ v, valV kvs k = some v ∧ Dq Hs v d
    | none => valV kvs k = none)
  | _, _, .nil => rfl
  | (j, v) :: kvs, (j', d) :: kds, .cons h r => by
    obtain ⟨rfl, h2⟩ := (show j = j' ∧ Dq Hs v d from h)
    unfold valD valV
    rw [List.find?_cons, List.find?_cons]
    by_cases e : j = k
    · rw [decide_eq_true e]
      exact ⟨v, rfl, h2⟩
    · rw [decide_eq_false e]
      exact kv_val (k := k) r
theorem kv_any {Hs : Hp} {k : List L2.Key} : ∀ {kvs : List (List L2.Key × V)} {kds : KDs}, KvOk Hs kvs kds → (kvs.any fun kv => decide (kv.1 = k)) = kds.any fun kv => decide (kv.1 = k)
  | _, _, .nil => rfl
  | (j, v) :: kvs, (j', d) :: kds, .cons h r => by
    obtain ⟨rfl, h2⟩ := (show j = j' ∧ Dq Hs v d from h)
    rw [List.any_cons, List.any_cons, kv_any r]
theorem kv_map {Hs : Hp} {k : List L2.Key} {v : V} {d : PyData} (q : Dq Hs v d) : ∀ {kvs : List (List L2.Key × V)} {kds : KDs}, KvOk Hs kvs kds → KvOk Hs (kvs.map fun kv => if kv.1 = k then (kv.1, v) else kv) (kds.map fun kv => if kv.1 = k then (kv.1, d) else kv)
  | _, _, .nil => .nil
  | (j, x) :: kvs, (j', y) :: kds, .cons h r => by
    obtain ⟨rfl, h2⟩ := (show j = j' ∧ Dq Hs x y from h)
    rw [List.map_cons, List.map_cons]
    refine .cons ?_ (kv_map q r)
    show (if j = k then (j, v) else (j, x)).1 = (if j = k then (j, d) else (j, y)).1 ∧ Dq Hs (if j = k then (j, v) else (j, x)).2 (if j = k then (j, d) else (j, y)).2
    by_cases e : j = k
    · rw [if_pos e, if_pos e]
      exact ⟨rfl, q⟩
    · rw [if_neg e, if_neg e]
      exact ⟨rfl, h2⟩
theorem kv_app {Hs : Hp} {k : List L2.Key} {v : V} {d : PyData} (q : Dq Hs v d) : ∀ {kvs : List (List L2.Key × V)} {kds : KDs}, KvOk Hs kvs kds → KvOk Hs (kvs ++ [(k, v)]) (kds ++ [(k, d)])
  | _, _, .nil => .cons ⟨rfl, q⟩ .nil
  | _ :: _, _ :: _, .cons h r => .cons h (kv_app q r)
theorem kv_put {Hs : Hp} {k : List L2.Key} {v : V} {d : PyData} (q : Dq Hs v d) {kvs : List (List L2.Key × V)} {kds : KDs} (h : KvOk Hs kvs kds) : KvOk Hs (putK kvs k v) (putD kds k d) := by
  unfold putK putD
  rw [kv_any h]
  split
  · exact kv_map q h
  · exact kv_app q h
theorem kv_len {Hs : Hp} {kvs : List (List L2.Key × V)} {kds : KDs} (h : KvOk Hs kvs kds) : kvs.length = kds.length := Paired.length h
theorem room1 (hr : Room k X.A) : X.A.units + 1 < cLine := by
  have := hr.un
  omega
/-- d[key], key in d: a dict, owned or not -/
def dicOf (x : En) (L : List Cell) (kds : KDs) : Prop := x = .dic kds ∨ ∃ (q : Addr) (j : Nat), x = .own q ∧ L[j]? = some (q, .dic kds)
theorem dic_rd {Hs H : Hp} {L F : List Cell} {x : V} {ex : En} {kds : KDs} (hh : Holds K G Hs (L ++ F) H) (rx : VR K G Hs x ex) (h : dicOf ex L kds) : ∃ q kvs, x = .ref q ∧ H q = some (.dT kvs) ∧ KvOk Hs kvs kds := by
  rcases h with rfl | ⟨q, j, rfl, hj⟩
  · obtain ⟨q, kvs, rfl, h1, h2⟩ := rx
    exact ⟨q, kvs, rfl, hh.st _ _ h1, h2⟩
  · have e := (show x = V.ref q from rx)
    subst e
    obtain ⟨kvs, h1, h2⟩ := (hh.ow _ (List.mem_append_left F (List.mem_of_getElem? hj))).1
    exact ⟨q, kvs, rfl, h1, h2⟩
def aDGet (a b : AE) : AE := fun env L post => a env L fun x L1 => b env L1 fun y L2 => ∃ (kds : KDs) (ns : List Int) (d : PyData), dicOf x L2 kds ∧ y = .dat (.tuple (ns.map PyData.int)) ∧ valD kds (intK ns) = some d ∧ post (.dat d) L2
theorem d_dget (hr : Room k X.A) (ho : DE G X o ta) (hi : DE G X i tb) (hs : NoSl i := by exact fun _ _ => rfl) : DE G X (.Subscript o i pos) (aDGet ta tb) := pe_imp (pe_dget (room1 hr) ho hi hs) fun σ H Q ⟨Hs, F, env, L, post, hs, hh, ha, hf⟩ =>
  ⟨Hs, F, env, L, _, hs, hh, ha, fun x Hs1 H1 ex L1 p1 e1 hh1 r1 => ⟨Hs1, F, env, L1, _, sr_same e1 hs, hh1, p1, fun y Hs2 H2 ey L2 ⟨kds, ns, d, h1, h2, h3, p2⟩ e2 hh2 r2 => by
    obtain ⟨q, kvs, rfl, h4, h5⟩ := dic_rd hh2 (vr_same e2 r1) h1
    subst h2
    obtain ⟨q2, rfl, h6⟩ := key_rd r2
    have z := kv_val (k := intK ns) h5
    rw [h3] at z
    obtain ⟨v, h7, h8⟩ := z
    exact ⟨q, v, rfl, h7 ▸ DGet.t h4 (hh2.st _ _ h6), hf _ Hs2 H2 _ L2 p2 (e1.trans e2) hh2 h8⟩⟩⟩
def aDIn (b a : AE) : AE := fun env L post => b env L fun y L1 => a env L1 fun x L2 => ∃ (kds : KDs) (ns : List Int), dicOf x L2 kds ∧ y = .dat (.tuple (ns.map PyData.int)) ∧ post (.dat (.bool (valD kds (intK ns)).isSome)) L2
theorem t_din (hr : Room k X.A) (hi : DE G X i tb) (ho : DE G X o ta) (hm : behindInMarks .In o = false := by rfl) : DT G X (.Compare i [.In] [o] pos) (aB (aDIn tb ta)) := pt_imp (pt_cmp (pc_din (room1 hr) hi ho) hm) (test_gen fun σ H Q ⟨Hs, F, env, L, post, hs, hh, ha, hf⟩ =>
  ⟨Hs, F, env, L, _, hs, hh, ha, fun y Hs1 H1 ey L1 p1 e1 hh1 r1 => ⟨Hs1, F, env, L1, _, sr_same e1 hs, hh1, p1, fun x Hs2 H2 ex L2 ⟨kds, ns, h1, h2, p2⟩ e2 hh2 r2 => by
    obtain ⟨q, kvs, rfl, h4, h5⟩ := dic_rd hh2 r2 h1
    subst h2
    obtain ⟨q2, rfl, h6⟩ := key_rd (vr_same e2 r1)
    have z := kv_val (k := intK ns) h5
    refine ⟨q, valV kvs (intK ns), rfl, DGet.t h4 (hh2.st _ _ h6), ?_⟩
    have ee : (valV kvs (intK ns)).isSome = (valD kds (intK ns)).isSome := by
      cases hv : valD kds (intK ns) with
      | none =>
        rw [hv] at z
        have z : valV kvs (intK ns) = none := z
        rw [z]
        rfl
      | some d =>
        rw [hv] at z
        obtain ⟨v, z, _⟩ := z
        rw [z]
        rfl
    rw [ee]
    exact hf _ Hs2 H2 _ L2 p2 (e1.trans e2) hh2 (.bl _)⟩⟩)
/-! ### owned lists are written -/
theorem a_one {Hs H : Hp} {F L : List Cell} {env : List En} {σ : L2.St} {P : En → List Cell → Prop} {Q : List V → Hp → Prop} (hs : SR K G Hs σ env) (hh : Holds K G Hs (L ++ F) H) (h : tb env L P)
    (fin : ∀ (v : V) (Hs2 H2 : Hp) (en : En) (L' : List Cell), P en L' → Same Hs Hs2 → Holds K G Hs2 (L' ++ F) H2 → VR K G Hs2 v en → Q [v] H2) : cA K G (aCons tb aNil) σ H Q :=
  ⟨Hs, F, env, L, fun ens L2 => match ens with
    | [y] => P y L2
    | _ => False, hs, hh, h, fun vs Hs2 H2 ens L2 g e2 hh2 r2 => by
    dsimp only at g
    split at g
    · obtain ⟨v, rfl, r3⟩ := vrs1 r2
      exact fin v Hs2 H2 _ L2 g e2 hh2 r3
    · exact g.elim⟩
def aApp (a b : AE) : AE := fun env L post => a env L fun x L1 => ∃ (q : Addr) (j0 : Nat) (ds0 : List PyData), x = .own q ∧ L1[j0]? = some (q, .lst ds0) ∧ b env L1 fun y L2 => ∃ (j : Nat) (ds : List PyData) (d : PyData), L2[j]? = some (q, .lst ds) ∧ y = .dat d ∧ ds.length < 100000 ∧ post (.dat .none) (L2.set j (q, .lst (ds ++ [d])))
theorem d_app (ho : DE G X o ta) (he : DE G X e tb) (hbase : attributeBase o "append" X.env (eval o X.env) = eval o X.env := by rfl)
    (hfew : ((backTo cpos (starEach [e] X.env)).all (fun x => !x.1) && (backToKw cpos (keywordEach [] X.env)).all (fun x => x.1.isSome)
      && decide ([e].length + ([] : List Keyword).length + (if ([] : List Keyword).isEmpty then 0 else 1) < 30)) = true := by rfl)
    (hline : (apos.endLine == cpos.line) = true := by rfl) (hs : starEach [e] X.env = (false, eval e X.env) :: starEach [] X.env := by rfl) (hplain : (backTo cpos (starEach [] X.env)).any (·.1) = false := by rfl) :
    DE G X (.Call (.Attribute o "append" apos) [e] [] cpos) (aApp ta tb) := pe_imp (pe_bm PySem.F.plainAttrs_list PySem.F.slot_list_append PySem.F.type_list_append mt_append ho (da_cons (es := []) he da_nil hs) hbase hfew hline hs hplain)
  fun σ H Q ⟨Hs, F, env, L, post, hs, hh, ha, hf⟩ => ⟨Hs, F, env, L, _, hs, hh, ha, fun x Hs1 H1 ex L1 ⟨q, j0, ds0, ez, h0, p1⟩ e1 hh1 r1 => by
    subst ez
    have ex := (show x = V.ref q from r1)
    subst ex
    obtain ⟨xs0, g1, g2⟩ := (hh1.ow _ (List.mem_append_left F (List.mem_of_getElem? h0))).1
    refine ⟨.inl ⟨rfl, xs0, SqL.of g1⟩, a_one (sr_same e1 hs) hh1 p1 fun v Hs2 H2 en L2 ⟨j, ds, d, g3, g4, g5, p2⟩ e2 hh2 r2 => ?_⟩
    subst g4
    have h2 := hh2.at_ g3
    obtain ⟨xs, g6, g7⟩ := (h2.ow _ List.mem_cons_self).1
    refine ⟨q, xs, v, rfl, rfl, g6, Nat.lt_of_lt_of_le (by rw [dpa_len g7]; exact g5) (by decide : 100000 ≤ sizeLine), ?_⟩
    have h3 := h2.write (u := .lst (xs ++ [v])) (o' := .lst (ds ++ [d])) ⟨_, upd_same, dpa_app g7 (.cons r2 .nil)⟩
    exact hf _ Hs2 _ _ _ p2 (e1.trans e2) (Holds.back g3 h3) .non⟩
/-- o[i] = v, o owned -/
def aSetIx (a b : AE) : AG := fun v env L post => a env L fun x L1 => b env L1 fun y L2 => ∃ (q : Addr) (i : Int) (d : PyData) (j n : Nat) (ds : List PyData), x = .own q ∧ y = .dat (.int i) ∧ v = .dat d ∧ L2[j]? = some (q, .lst ds) ∧ ixN ds.length i = some n ∧ post env (L2.set j (q, .lst (ds.set n d)))
theorem g_setIx (ho : DE G X o ta) (hi : DE G X i tb)
    (ha : ∀ v, assign (.Subscript o i pos) X.env v = (do
      let ov ← holding [v] (eval o X.env)
      let iv ← holding [v, ov] (eval i X.env)
      standAt pos
      holding [v, ov, iv] (setItem ov iv v)
      release [v, ov, iv] []) := by intro _; rfl) : DG G X (.Subscript o i pos) (aSetIx ta tb) := pg_imp (pg_sub ho hi set_list ha) fun v σ H Q ⟨Hs, F, en, env, L, post, rv, hs, hh, ha, hf⟩ =>
  ⟨Hs, F, env, L, _, hs, hh, ha, fun x Hs1 H1 ex L1 p1 e1 hh1 r1 => ⟨Hs1, F, env, L1, _, sr_same e1 hs, hh1, p1, fun y Hs2 H2 ey L2 ⟨q, i, d, j, n, ds, h1, h2, h3, h4, h5, p2⟩ e2 hh2 r2 => by
    subst h1 h2 h3
    have ex := (show x = V.ref q from r1)
    subst ex
    have ey := vr_int r2
    subst ey
    have h2 := hh2.at_ h4
    obtain ⟨xs, g6, g7⟩ := (h2.ow _ List.mem_cons_self).1
    have ee := e1.trans e2
    refine ⟨q, xs, i, n, rfl, rfl, g6, by rw [dpa_len g7]; exact h5, ?_⟩
    have h3 := h2.write (u := .lst (xs.set n v)) (o' := .lst (ds.set n d)) ⟨_, upd_same, dpa_set (show Dq Hs2 v d from vr_same ee rv) n g7⟩
    exact hf σ Hs2 _ env _ p2 ee (Holds.back h4 h3) (sr_same ee hs)⟩⟩
/-! ### statements -/
def aSeq (t u : AS) : AS := fun D env L => t { D with nx := u D } env L
def aNext : AS := fun D env L => D.nx env L
def aExpr (a : AE) : AS := fun D env L => a env L fun _ L1 => D.nx env L1
def aRet (a : AE) : AS := fun D env L => a env L D.rt
def aIf (c : AT) (t u : AS) : AS := fun D env L => c env L fun b L1 => (b = true → t D env L1) ∧ (b = false → u D env L1)
def aAsg (a : AE) (g : AG) : AS := fun D env L => a env L fun x L1 => g x env L1 D.nx
def aNever : AS := fun _ _ _ => False
section
variable {st : Stmt} {rest : List Stmt} {t u : AS} {c : Expr} {tc : AT} {body orelse : List Stmt} {tg : Expr} {g : AG}
theorem s_nil : DSs G X [] aNext := pss_imp pss_nil fun D σ H ⟨Hs, F, env, L, AD, hs, hh, ha, h1, h2, h3, h4⟩ => h1 σ Hs H env L ha (Same.refl _) hh hs
theorem s_cons (h1 : DS G X st t) (h2 : DSs G X rest u) : DSs G X (st :: rest) (aSeq t u) := pss_imp (pss_cons h1 h2) fun D σ H ⟨Hs, F, env, L, AD, hs, hh, ha, g1, g2, g3, g4⟩ =>
  ⟨Hs, F, env, L, _, hs, hh, ha, fun σ2 Hs2 H2 env2 L2 p2 e2 hh2 hs2 => ⟨Hs2, F, env2, L2, AD, hs2, hh2, p2, g1.same e2, g2.same e2, g3.same e2, g4.same e2⟩, g2, g3, g4⟩
theorem s_one (h1 : DS G X st t) : DSs G X [st] t := pss_one h1
theorem s_expr (he : DE G X e ta) (hs : swapsWith e none pos.line X.env = pure false := by rfl) : DS G X (.Expr e pos) (aExpr ta) := ps_imp (ps_expr he hs) fun D σ H ⟨Hs, F, env, L, AD, hs, hh, ha, g1, g2, g3, g4⟩ =>
  ⟨Hs, F, env, L, _, hs, hh, ha, fun v Hs2 H2 en L2 p2 e2 hh2 _ => g1 σ Hs2 H2 env L2 p2 e2 hh2 (sr_same e2 hs)⟩
theorem s_ret (he : DE G X e ta) : DS G X (.Return (some e) pos) (aRet ta) := ps_imp (ps_ret he) fun D σ H ⟨Hs, F, env, L, AD, hs, hh, ha, g1, g2, g3, g4⟩ => ⟨Hs, F, env, L, _, hs, hh, ha, g2⟩
theorem s_if (hc : DT G X c tc) (h1 : DSs G X body t) (h2 : DSs G X orelse u) : DS G X (.If c body orelse pos) (aIf tc t u) := ps_imp (ps_if hc h1 h2) fun D σ H ⟨Hs, F, env, L, AD, hs, hh, ha, g1, g2, g3, g4⟩ =>
  ⟨Hs, F, env, L, _, hs, hh, ha, fun b Hs2 H2 L2 p2 e2 hh2 => by
    cases b with
    | true =>
      show cS X.K G t D σ H2
      exact ⟨Hs2, F, env, L2, AD, sr_same e2 hs, hh2, p2.1 rfl, g1.same e2, g2.same e2, g3.same e2, g4.same e2⟩
    | false =>
      show cS X.K G u D σ H2
      exact ⟨Hs2, F, env, L2, AD, sr_same e2 hs, hh2, p2.2 rfl, g1.same e2, g2.same e2, g3.same e2, g4.same e2⟩⟩
theorem s_never : DS G X st aNever := ps_imp ps_never fun D σ H ⟨Hs, F, env, L, AD, hs, hh, ha, _⟩ => ha.elim
theorem ss_never : DSs G X rest aNever := pss_imp pss_never fun D σ H ⟨Hs, F, env, L, AD, hs, hh, ha, _⟩ => ha.elim
theorem s_asg (he : DE G X e ta) (hg : DG G X tg g) (hs : swapsWithSole [tg] e pos.line X.env = pure false := by rfl) (hw : swappedStores [tg] e X.env = pure none := by rfl)
    (h1 : (assignEach [tg] X.env).map (·.2) = [assign tg X.env] := by rfl) : DS G X (.Assign [tg] e pos) (aAsg ta g) := ps_imp (ps_asg he hg hs hw h1) fun D σ H ⟨Hs, F, env, L, AD, hs, hh, ha, g1, g2, g3, g4⟩ =>
  ⟨Hs, F, env, L, _, hs, hh, ha, fun v Hs2 H2 en L2 p2 e2 hh2 r2 => ⟨Hs2, F, en, env, L2, _, r2, sr_same e2 hs, hh2, p2, g1.same e2⟩⟩
def aName (i : Nat) : AG := fun v env L post => post (env.set i v) L
theorem s_set {i : Nat} {x : Str} {pos' : Pos} (hN : X.N.Nodup) (hi : X.N[i]? = some x) (hx : Loc X.env.scope x) (he : DE G X e ta) (hs : swapsWith e (some (.Name x pos')) pos.line X.env = pure false := by rfl) (hf : X.fn x = true ∨ X.env.scope.names.lookup x = some .local := by first | exact .inl rfl | exact .inr rfl | assumption) :
    DS G X (.Assign [.Name x pos'] e pos) (aAsg ta (aName i)) := ps_imp (ps_set hN hi hx he hs hf) fun D σ H ⟨Hs, F, env, L, AD, hs, hh, ha, g1, g2, g3, g4⟩ =>
  ⟨Hs, F, env, L, _, hs, hh, ha, fun v Hs2 H2 en L2 p2 e2 hh2 r2 => g1 _ Hs2 H2 _ L2 p2 e2 hh2 (sr_set (sr_same e2 hs) r2 i)⟩
def aAug (i : Nat) (a : AE) : AS := fun D env L => ∃ x : Int, env[i]? = some (.dat (.int x)) ∧ a env L fun y L1 => ∃ n : Int, y = .dat (.int n) ∧ D.nx (env.set i (.dat (.int (x + n)))) L1
theorem s_aug {i : Nat} {x : Str} {pos' : Pos} (hN : X.N.Nodup) (hi : X.N[i]? = some x) (hx : Loc X.env.scope x) (he : DE G X e ta) (hf : X.fn x = true ∨ X.env.scope.names.lookup x = some .local := by first | exact .inl rfl | exact .inr rfl | assumption) :
    DS G X (.AugAssign (.Name x pos') .Add e pos) (aAug i ta) := ps_imp (ps_aug hN hi hx he ip_add hf) fun D σ H ⟨Hs, F, env, L, AD, hs, hh, ⟨x, hx, ha⟩, g1, g2, g3, g4⟩ => by
  obtain ⟨v, h1, h2⟩ := hs.2 i _ hx (fun z => nomatch z)
  have e1 := vr_int h2
  subst e1
  exact ⟨_, h1, Hs, F, env, L, _, hs, hh, ha, fun y Hs1 H1 ey L1 ⟨n, ez, p1⟩ e1 hh1 r1 => by
    subst ez
    exact ⟨x, n, rfl, vr_int r1, g1 _ Hs1 H1 _ L1 p1 e1 hh1 (sr_set (sr_same e1 hs) (show VR X.K G Hs1 (.int (x + n)) (.dat (.int (x + n))) from .int _) i)⟩⟩
/-! o.f = v, o.f += v, o owned -/
def aFSt (Cl : Addr) (f : Str) (a v : AE) : AS := fun D env L => v env L fun y L1 => a env L1 fun x L2 => ∃ (q : Addr) (j : Nat) (dx : Addr) (fs : List (Str × En)), x = .own q ∧ L2[j]? = some (q, OD.obj Cl dx fs) ∧ fs.length < 1000 ∧ D.nx env (L2.set j (q, OD.obj Cl dx (putE f y fs)))
theorem s_fst (c : Cls X.K Cl) (n : NoAttr X.K Cl f) (ha : DE G X o ta) (hv : DE G X value tv) (hs : swapsWith value (some (.Attribute o f pos')) pos.line X.env = pure false := by rfl) : DS G X (.Assign [.Attribute o f pos'] value pos) (aFSt Cl f ta tv) :=
  ps_imp (ps_fld ha hv hs) fun D σ H ⟨Hs, F, env, L, AD, hs, hh, ha, g1, g2, g3, g4⟩ => ⟨Hs, F, env, L, _, hs, hh, ha, fun y Hs1 H1 ey L1 p1 e1 hh1 r1 => ⟨Hs1, F, env, L1, _, sr_same e1 hs, hh1, p1, fun x Hs2 H2 ex L2 ⟨q, j, dx, fs, ez, h1, h2, p2⟩ e2 hh2 r2 => by
    subst ez
    have e3 := (show x = V.ref q from r2)
    subst e3
    have h3 := hh2.at_ h1
    obtain ⟨vs, h4, h5⟩ := (h3.ow _ List.mem_cons_self).1
    refine ⟨q, Cl, dx, vs, rfl, h4, c, n, by rw [fs_len h5]; exact h2, ?_⟩
    have h6 := h3.write (u := .ins Cl dx (putF f y vs)) (o' := OD.obj Cl dx (putE f ey fs)) ⟨_, upd_same, fs_put (vr_same e2 r1) f h5⟩
    exact g1 σ Hs2 _ env _ p2 (e1.trans e2) (Holds.back h1 h6) (sr_same (e1.trans e2) hs)⟩⟩
def aFAug (Cl : Addr) (f : Str) (a v : AE) : AS := fun D env L => a env L fun x L1 => ∃ (q : Addr) (j : Nat) (dx : Addr) (fs : List (Str × En)) (i : Int), x = .own q ∧ L1[j]? = some (q, OD.obj Cl dx fs) ∧ fs.lookup f = some (.dat (.int i)) ∧
  v env L1 fun y L2 => ∃ (n : Int) (j : Nat) (dx : Addr) (fs : List (Str × En)), y = .dat (.int n) ∧ L2[j]? = some (q, OD.obj Cl dx fs) ∧ fs.length < 1000 ∧ D.nx env (L2.set j (q, OD.obj Cl dx (putE f (.dat (.int (i + n))) fs)))
theorem s_faug (c : Cls X.K Cl) (n : NoAttr X.K Cl f) (ha : DE G X o ta) (hv : DE G X value tv) : DS G X (.AugAssign (.Attribute o f pos') .Add value pos) (aFAug Cl f ta tv) :=
  ps_imp (ps_fldaug ha hv in_add) fun D σ H ⟨Hs, F, env, L, AD, hs, hh, ha, g1, g2, g3, g4⟩ => ⟨Hs, F, env, L, _, hs, hh, ha, fun x Hs1 H1 ex L1 ⟨q, j, dx, fs, i, ez, h1, h2, p1⟩ e1 hh1 r1 => by
    subst ez
    have e3 := (show x = V.ref q from r1)
    subst e3
    have h3 := hh1.at_ h1
    obtain ⟨vs, h4, h5⟩ := (h3.ow _ List.mem_cons_self).1
    obtain ⟨v, h6, h7⟩ := fs_look h5 h2
    have e4 := vr_int h7
    subst e4
    refine ⟨q, Cl, dx, vs, _, rfl, h4, c, n, h6, Hs1, F, env, L1, _, sr_same e1 hs, hh1, p1, fun y Hs2 H2 ey L2 ⟨m, j, dx, fs, ez, h1, h2, p2⟩ e2 hh2 r2 => ?_⟩
    subst ez
    have h3 := hh2.at_ h1
    obtain ⟨vs, h4, h5⟩ := (h3.ow _ List.mem_cons_self).1
    refine ⟨i, m, rfl, vr_int r2, dx, vs, h4, by rw [fs_len h5]; exact h2, ?_⟩
    have h6 := h3.write (u := .ins Cl dx (putF f (.int (i + m)) vs)) (o' := OD.obj Cl dx (putE f (.dat (.int (i + m))) fs)) ⟨_, upd_same, fs_put (show VR X.K G Hs2 (.int (i + m)) (.dat (.int (i + m))) from .int _) f h5⟩
    exact g1 σ Hs2 _ env _ p2 (e1.trans e2) (Holds.back h1 h6) (sr_same (e1.trans e2) hs)⟩
/-! d[key] = v, d owned -/
def aDPut (a b v : AE) : AS := fun D env L => v env L fun z L1 => a env L1 fun x L2 => b env L2 fun y L3 => ∃ (q : Addr) (j : Nat) (kds : KDs) (ns : List Int) (d : PyData), x = .own q ∧ L3[j]? = some (q, .dic kds) ∧ y = .dat (.tuple (ns.map PyData.int)) ∧ z = .dat d ∧ kds.length < 100000 ∧ D.nx env (L3.set j (q, .dic (putD kds (intK ns) d)))
theorem s_dput (hr : Room k X.A) (ho : DE G X o ta) (hi : DE G X i tb) (hv : DE G X value tv) (hs : swapsWith value (some (.Subscript o i pos')) pos.line X.env = pure false := by rfl) : DS G X (.Assign [.Subscript o i pos'] value pos) (aDPut ta tb tv) :=
  ps_imp (ps_dput (room1 hr) ho hi hv hs) fun D σ H ⟨Hs, F, env, L, AD, hs, hh, ha, g1, g2, g3, g4⟩ => ⟨Hs, F, env, L, _, hs, hh, ha, fun z Hs1 H1 ez L1 p1 e1 hh1 r1 => ⟨Hs1, F, env, L1, _, sr_same e1 hs, hh1, p1, fun x Hs2 H2 ex L2 p2 e2 hh2 r2 =>
    ⟨Hs2, F, env, L2, _, sr_same (e1.trans e2) hs, hh2, p2, fun y Hs3 H3 ey L3 ⟨q, j, kds, ns, d, h1, h2, h3, h4, h5, p3⟩ e3 hh3 r3 => by
      subst h1 h3 h4
      have ee := (e1.trans e2).trans e3
      have e4 := (show x = V.ref q from r2)
      subst e4
      have h6 := hh3.at_ h2
      obtain ⟨kvs, h7, h8⟩ := (h6.ow _ List.mem_cons_self).1
      obtain ⟨q2, rfl, h9⟩ := key_rd r3
      refine ⟨q, _, rfl, DPut.t h7 (hh3.st _ _ h9) (Nat.lt_of_lt_of_le (by rw [kv_len h8]; exact h5) (by decide : 100000 ≤ sizeLine)), ?_⟩
      have h10 := h6.write (u := .dT (putK kvs (intK ns) z)) (o' := .dic (putD kds (intK ns) d)) ⟨_, upd_same, kv_put (show Dq Hs3 z d from vr_same (e2.trans e3) r1) h8⟩
      exact g1 σ Hs3 _ env _ p3 ee (Holds.back h2 h10) (sr_same ee hs)⟩⟩⟩
end
end
end Mn
namespace Mn
open PySem PySem.Spec PyProof.Rows L2
/-! ### targets -/
mutual
inductive Tg where
  | nm (i : Nat)
  | tp (l : TgL)
inductive TgL where
  | nil
  | cons (t : Tg) (l : TgL)
end
def TgL.len : TgL → Nat
  | .nil => 0
  | .cons _ l => l.len + 1
mutual
def gT (K : PySem.W.Frag) : Tg → TG
  | .nm i => gName i
  | .tp l => gTup K l.len (gTL K l)
def gTL (K : PySem.W.Frag) : TgL → TGs
  | .nil => gNil
  | .cons t l => gCons (gT K t) (gTL K l)
end
mutual
def bindT : Tg → PyData → List En → Option (List En)
  | .nm i, d, env => some (env.set i (.dat d))
  | .tp l, .tuple ds, env => bindL l ds env
  | .tp _, _, _ => none
def bindL : TgL → List PyData → List En → Option (List En)
  | .nil, [], env => some env
  | .cons t l, d :: ds, env => match bindT t d env with
    | some env' => bindL l ds env'
    | none => none
  | _, _, _ => none
end
mutual
def slT : Tg → List Nat
  | .nm i => [i]
  | .tp l => slL l
def slL : TgL → List Nat
  | .nil => []
  | .cons t l => slT t ++ slL l
end
theorem wipe_set {σ : L2.St} {i : Nat} {x : Option V} : ∀ {vs : List Nat}, i ∈ vs → wipe (σ.set i x) vs = wipe σ vs
  | [], h => absurd h (by simp)
  | v :: vs, h => by
    show (wipe (σ.set i x) vs).set v none = (wipe σ vs).set v none
    by_cases hv : i ∈ vs
    · rw [wipe_set hv]
    · have e : i = v := by simpa [hv] using h
      subst e
      have key : ∀ (vs : List Nat) (σ : L2.St), i ∉ vs → wipe (σ.set i x) vs = (wipe σ vs).set i x := fun vs => by
        induction vs with
        | nil => intro σ _; rfl
        | cons v vs ih =>
          intro σ hn
          simp only [List.mem_cons, not_or] at hn
          show (wipe (σ.set i x) vs).set v none = ((wipe σ vs).set v none).set i x
          rw [ih σ hn.2, List.set_comm _ _ hn.1]
      rw [key vs σ hv, List.set_set]
section
variable {K : PySem.W.Frag} {G : Gp} {Hs H : Hp}
theorem len_bind : ∀ {l : TgL} {ds : List PyData} {env env' : List En}, bindL l ds env = some env' → ds.length = l.len
  | .nil, [], _, _, _ => rfl
  | .nil, _ :: _, _, _, h => by cases h
  | .cons _ _, [], _, _, h => by cases h
  | .cons t l, d :: ds, env, env', h => by
    unfold bindL at h
    split at h
    · show ds.length + 1 = l.len + 1
      rw [len_bind h]
    · cases h
mutual
theorem gT_run : ∀ {t : Tg} {v : V} {d : PyData} {σ : L2.St} {env env' : List En}, Dq Hs v d → SR K G Hs σ env → bindT t d env = some env' → Same Hs H →
    ∃ σ', SR K G Hs σ' env' ∧ (∀ Q : L2.St → Hp → Prop, Q σ' H → gT K t v σ H Q) ∧ ∀ vs, (∀ i ∈ slT t, i ∈ vs) → wipe σ' vs = wipe σ vs
  | .nm i, v, d, σ, env, env', hd, hs, hb, e => by
    cases hb
    exact ⟨σ.set i (some v), sr_set hs (show VR K G Hs v (.dat d) from hd) i, fun Q q => q, fun vs hv => wipe_set (hv i (by simp [slT]))⟩
  | .tp l, v, d, σ, env, env', hd, hs, hb, e => by
    cases d with
    | tuple ds =>
      obtain ⟨a, xs, rfl, h1, h2⟩ := vr_tup (K := K) (G := G) (show VR K G Hs v (.dat (.tuple ds)) from hd)
      obtain ⟨σ', g1, g2, g3⟩ := gTL_run (l := l) h2 hs hb e
      exact ⟨σ', g1, fun Q q => ⟨a, xs, rfl, same_t e h1, by rw [dpa_len h2]; exact len_bind hb, g2 Q q⟩, g3⟩
    | _ => cases hb
theorem gTL_run : ∀ {l : TgL} {xs : List V} {ds : List PyData} {σ : L2.St} {env env' : List En}, DqAll Hs xs ds → SR K G Hs σ env → bindL l ds env = some env' → Same Hs H →
    ∃ σ', SR K G Hs σ' env' ∧ (∀ Q : L2.St → Hp → Prop, Q σ' H → gTL K l xs σ H Q) ∧ ∀ vs, (∀ i ∈ slL l, i ∈ vs) → wipe σ' vs = wipe σ vs
  | .nil, xs, [], σ, env, env', hd, hs, hb, e => by
    cases hb
    cases hd
    exact ⟨σ, hs, fun Q q => ⟨rfl, q⟩, fun vs _ => rfl⟩
  | .nil, _, _ :: _, _, _, _, _, _, hb, _ => by cases hb
  | .cons _ _, _, [], _, _, _, _, _, hb, _ => by cases hb
  | .cons t l, xs, d :: ds, σ, env, env', hd, hs, hb, e => by
    cases hd with
    | cons h1 h2 =>
      unfold bindL at hb
      split at hb
      · rename_i env1 hb1
        obtain ⟨σ1, g1, g2, g3⟩ := gT_run (t := t) h1 hs hb1 e
        obtain ⟨σ2, k1, k2, k3⟩ := gTL_run (l := l) h2 g1 hb e
        exact ⟨σ2, k1, fun Q q => ⟨_, _, rfl, g2 _ (k2 Q q)⟩, fun vs hv => by
          rw [k3 vs fun i hi => hv i (by simp [slL, hi]), g3 vs fun i hi => hv i (by simp [slL, hi])]⟩
      · cases hb
end
/-! the slots of a block's own names forgotten -/
def wipeE (env : List En) : List Nat → List En
  | [] => env
  | v :: vs => (wipeE env vs).set v .no
theorem sr_no {σ : L2.St} {env : List En} (h : SR K G Hs σ env) (i : Nat) (x : Option V) : SR K G Hs (σ.set i x) (env.set i .no) := by
  refine ⟨by simpa using h.1, fun j e h1 h2 => ?_⟩
  by_cases hj : i = j
  · subst hj
    by_cases hl : i < env.length
    · rw [List.getElem?_set_self hl] at h1
      cases h1
      exact absurd rfl h2
    · rw [List.getElem?_eq_none (by simp; omega)] at h1
      cases h1
  · rw [List.getElem?_set_ne hj] at h1 ⊢
    exact h.2 j e h1 h2
theorem sr_wipe {σ : L2.St} {env : List En} (h : SR K G Hs σ env) : ∀ vs, SR K G Hs (wipe σ vs) (wipeE env vs)
  | [] => h
  | v :: vs => sr_no (sr_wipe h vs) v none
end
/-- the tree of a target as its pattern tells -/
abbrev DTg (X : Cx) (e : Expr) (t : Tg) : Prop := PG X e (gT X.K t)
abbrev DTgs (X : Cx) (es : List Expr) (l : TgL) : Prop := PGs X es (gTL X.K l)
section
variable {G : Gp} {X : Cx} {pos : Pos}
theorem tg_nm {i : Nat} {x : Str} (hN : X.N.Nodup) (hi : X.N[i]? = some x) (hx : Loc X.env.scope x) (hf : X.fn x = true ∨ X.env.scope.names.lookup x = some .local := by first | exact .inl rfl | exact .inr rfl | assumption) : DTg X (.Name x pos) (.nm i) := pg_name hN hi hx hf
theorem tg_tp {es : List Expr} {k : Nat} {l : TgL} (hc : X.calm = true) (h : DTgs X es l) (hn : (assignEach es X.env).length = l.len := by rfl) (hst : (assignEach es X.env).findIdx? (·.1) = none := by rfl) : DTg X (.Tuple es k pos) (.tp l) := pg_tup hc h hn hst
theorem tg_nil : DTgs X [] .nil := pgs_nil
theorem tg_cons {e : Expr} {es : List Expr} {t : Tg} {l : TgL} (h1 : DTg X e t) (h2 : DTgs X es l) (hs : (assignEach (e :: es) X.env).map (·.2) = assign e X.env :: (assignEach es X.env).map (·.2) := by rfl) : DTgs X (e :: es) (.cons t l) := pgs_cons h1 h2 hs
/-- as a target of =, of data -/
def aTg (t : Tg) : AG := fun v env L post => ∃ d env', v = .dat d ∧ bindT t d env = some env' ∧ post env' L
theorem g_tg {e : Expr} {t : Tg} (h : DTg X e t) : DG G X e (aTg t) := pg_imp h fun v σ H Q ⟨Hs, F, en, env, L, post, rv, hs, hh, ⟨d, env', ed, hb, p⟩, hf⟩ => by
  subst ed
  obtain ⟨σ', g1, g2, _⟩ := gT_run (show Dq Hs v d from rv) hs hb hh.st
  exact g2 Q (hf σ' Hs H env' L p (Same.refl _) hh g1)
/-- a, b, .. = a list of data -/
def aUnL (l : TgL) : AG := fun v env L post => ∃ ds env', v = .dat (.list ds) ∧ bindL l ds env = some env' ∧ post env' L
theorem g_unL {es : List Expr} {k : Nat} {l : TgL} (hc : X.calm = true) (h : DTgs X es l) (hn : (assignEach es X.env).length = l.len := by rfl) (hst : (assignEach es X.env).findIdx? (·.1) = none := by rfl) : DG G X (.Tuple es k pos) (aUnL l) :=
  pg_imp (pg_lst hc h hn hst) fun v σ H Q ⟨Hs, F, en, env, L, post, rv, hs, hh, ⟨ds, env', ed, hb, p⟩, hf⟩ => by
  subst ed
  obtain ⟨a, xs, rfl, h1, h2⟩ := vr_lst rv
  obtain ⟨σ', g1, g2, _⟩ := gTL_run h2 hs hb hh.st
  exact ⟨a, xs, rfl, SqL.of (hh.st _ _ h1), by rw [dpa_len h2]; exact len_bind hb, g2 Q (hf σ' Hs H env' L p (Same.refl _) hh g1)⟩
/-- x, y = [two owned ones] -/
def aUn2 (i j : Nat) : AG := fun v env L post => ∃ p q, v = .two p q ∧ post ((env.set i (.own p)).set j (.own q)) L
theorem g_un2 {x y : Str} {i j : Nat} {k : Nat} {p1 p2 : Pos} (hc : X.calm = true) (h : DTgs X [.Name x p1, .Name y p2] (.cons (.nm i) (.cons (.nm j) .nil))) (hn : (assignEach [.Name x p1, .Name y p2] X.env).length = 2 := by rfl) (hst : (assignEach [.Name x p1, .Name y p2] X.env).findIdx? (·.1) = none := by rfl) : DG G X (.Tuple [.Name x p1, .Name y p2] k pos) (aUn2 i j) :=
  pg_imp (pg_lst hc h hn hst) fun v σ H Q ⟨Hs, F, en, env, L, post, rv, hs, hh, ⟨p, q, ed, po⟩, hf⟩ => by
  subst ed
  obtain ⟨r, rfl, h1⟩ := rv
  refine ⟨r, _, rfl, SqL.of (hh.st _ _ h1), rfl, _, _, rfl, _, _, rfl, rfl, ?_⟩
  exact hf _ Hs H _ L po (Same.refl _) hh (sr_set (sr_set hs (show VR X.K G Hs (.ref p) (.own p) from rfl) i) (show VR X.K G Hs (.ref q) (.own q) from rfl) j)
end
/-! ### what a loop walks -/
abbrev AI := List En → List Cell → (List PyData → (List Cell → Prop) → List Cell → Prop) → Prop
def ItOk (K : PySem.W.Frag) (G : Gp) (Hs : Hp) (J : It) (items : List PyData) (kp : List Cell → Prop) : Prop :=
  ∀ (F : List Cell) (i : Nat) (Hs3 H3 : Hp) (L3 : List Cell), Same Hs Hs3 → Holds K G Hs3 (L3 ++ F) H3 → kp L3 →
    (∀ d, items[i]? = some d → J.go i H3 ∧ ∀ x H', J.yld i H3 x H' → ∃ Hs4, Same Hs3 Hs4 ∧ Holds K G Hs4 (L3 ++ F) H' ∧ Dq Hs4 x d) ∧ (items.length ≤ i → J.stop i H3)
def cI (K : PySem.W.Frag) (G : Gp) (a : AI) : TI := fun σ H R => ∃ Hs F env L post, SR K G Hs σ env ∧ Holds K G Hs (L ++ F) H ∧ a env L post ∧
  ∀ (J : It) (items : List PyData) (kp : List Cell → Prop) (Hs2 H2 : Hp) (L' : List Cell), post items kp L' → Same Hs Hs2 → Holds K G Hs2 (L' ++ F) H2 → ItOk K G Hs2 J items kp → R J H2
abbrev DI (G : Gp) (X : Cx) (tg e : Expr) (a : AI) : Prop := PI X tg e (cI X.K G a)
section
variable {G : Gp} {X : Cx} {K : PySem.W.Frag} {tg e a : Expr} {p pos tpos : Pos} {ta : AE}
def aWalk (a : AE) : AI := fun env L post => a env L fun x L1 => ∃ ds, seqOf x L1 ds ∧ post ds (fun L => seqOf x L ds) L1
theorem it_l {Hs : Hp} {ds : List PyData} {a : Addr} {kp : List Cell → Prop} (h : ∀ (F : List Cell) (Hs3 H3 : Hp) (L3 : List Cell), Same Hs Hs3 → Holds K G Hs3 (L3 ++ F) H3 → kp L3 → ∃ xs, SqL K H3 a xs ∧ DqAll Hs3 xs ds) : ItOk K G Hs (Itl K a) ds kp := fun F i Hs3 H3 L3 e3 hh3 hk => by
  obtain ⟨xs, h1, h2⟩ := h F Hs3 H3 L3 e3 hh3 hk
  refine ⟨fun d hd => ?_, fun hl => ⟨xs, h1, by rw [dpa_len h2]; exact hl⟩⟩
  obtain ⟨v, h3, h4⟩ := dpa_get h2 hd
  refine ⟨⟨xs, v, h1, h3⟩, fun y H' hy => ?_⟩
  obtain ⟨rfl, hy⟩ := hy
  have e := hy xs h1
  rw [h3] at e
  cases e
  exact ⟨Hs3, Same.refl _, hh3, h4⟩
theorem it_t {Hs : Hp} {ds : List PyData} {a : Addr} {kp : List Cell → Prop} (h : ∀ (F : List Cell) (Hs3 H3 : Hp) (L3 : List Cell), Same Hs Hs3 → Holds K G Hs3 (L3 ++ F) H3 → kp L3 → ∃ xs, SqT K H3 a xs ∧ DqAll Hs3 xs ds) : ItOk K G Hs (Itt K a) ds kp := fun F i Hs3 H3 L3 e3 hh3 hk => by
  obtain ⟨xs, h1, h2⟩ := h F Hs3 H3 L3 e3 hh3 hk
  refine ⟨fun d hd => ?_, fun hl => ⟨xs, h1, by rw [dpa_len h2]; exact hl⟩⟩
  obtain ⟨v, h3, h4⟩ := dpa_get h2 hd
  refine ⟨⟨xs, v, h1, h3⟩, fun y H' hy => ?_⟩
  obtain ⟨rfl, hy⟩ := hy
  have e := hy xs h1
  rw [h3] at e
  cases e
  exact ⟨Hs3, Same.refl _, hh3, h4⟩
/-- which of the two it is -/
theorem seq_it {Hs : Hp} {x : V} {ex : En} {ds : List PyData} {F L : List Cell} {H : Hp} (rx : VR K G Hs x ex) (hh : Holds K G Hs (L ++ F) H) (h : seqOf ex L ds) :
    ∃ a, x = .ref a ∧ ((∃ xs, SqL K H a xs ∧ ItOk K G Hs (Itl K a) ds fun L => seqOf ex L ds) ∨ (∃ xs, SqT K H a xs ∧ ItOk K G Hs (Itt K a) ds fun L => seqOf ex L ds)) := by
  rcases h with rfl | rfl | ⟨q, j, rfl, hj⟩
  · obtain ⟨a, xs, rfl, h1, h2⟩ := vr_lst rx
    exact ⟨a, rfl, .inl ⟨xs, SqL.of (hh.st _ _ h1), it_l fun F Hs3 H3 L3 e3 hh3 _ => ⟨xs, SqL.of (hh3.st _ _ (e3 _ _ h1)), dpa_same e3 h2⟩⟩⟩
  · obtain ⟨a, xs, rfl, h1, h2⟩ := vr_tup rx
    exact ⟨a, rfl, .inr ⟨xs, same_t hh.st h1, it_t fun F Hs3 H3 L3 e3 hh3 _ => ⟨xs, same_t (e3.trans hh3.st) h1, dpa_same e3 h2⟩⟩⟩
  · have e := (show x = V.ref q from rx)
    subst e
    obtain ⟨xs, h1, h2⟩ := (hh.ow _ (List.mem_append_left F (List.mem_of_getElem? hj))).1
    refine ⟨q, rfl, .inl ⟨xs, SqL.of h1, it_l fun F Hs3 H3 L3 e3 hh3 hk => ?_⟩⟩
    rcases hk with z | z | ⟨q', j', z, hj'⟩
    · cases z
    · cases z
    · cases z
      obtain ⟨ys, h3, h4⟩ := (hh3.ow _ (List.mem_append_left F (List.mem_of_getElem? hj'))).1
      exact ⟨ys, SqL.of h3, h4⟩
theorem pi_lt {l : Expr} {tl : TE} (hl : PE X l tl) : PI X tg l fun σ H R => tl σ H fun x H1 => ∃ a, x = .ref a ∧ (((∃ xs, SqL X.K H1 a xs) ∧ R (Itl X.K a) H1) ∨ ((∃ xs, SqT X.K H1 a xs) ∧ R (Itt X.K a) H1)) := by
  refine ⟨fun pins s σ H R I h => ?_⟩
  refine thn (hl.run pins s σ H _ I h) fun v s1 ⟨x, H1, I1, r1, q1⟩ => ?_
  obtain ⟨a, e, q⟩ := q1
  subst e
  cases r1
  rcases q with ⟨⟨xs, hq⟩, q⟩ | ⟨⟨xs, hq⟩, q⟩
  · obtain ⟨its, rv, p, hz⟩ := I1.list hq
    refine wpAny_pyIter_list p.isList ?_
    refine ⟨s1.heap.objs.size, [s1.heap.objs.size], _, _, H1, rfl, I1.kept (t' := s1.toks) fun b o e => Heap.get?_push_of_some _ e, turn_list a _, ⟨_, Heap.get?_push_size _ rfl, rfl, rfl⟩, fun b hb => ?_, q⟩
    have e : b = s1.heap.objs.size := by simpa using hb
    subst e
    exact I1.fpOk (Nat.le_refl _) (I1.hok.fresh (Nat.le_refl _))
  · obtain ⟨its, rv, p, hz⟩ := I1.tuple hq
    refine wpAny_pyIter_tuple (show s1.heap.IsTuple a its.toArray from p) ?_
    refine ⟨s1.heap.objs.size, [s1.heap.objs.size], _, _, H1, rfl, I1.kept (t' := s1.toks) fun b o e => Heap.get?_push_of_some _ e, turn_tuple a _, ⟨_, Heap.get?_push_size _ rfl, rfl, rfl⟩, fun b hb => ?_, q⟩
    have e : b = s1.heap.objs.size := by simpa using hb
    subst e
    exact I1.fpOk (Nat.le_refl _) (I1.hok.fresh (Nat.le_refl _))
theorem di_walk (h : DE G X e ta) : DI G X tg e (aWalk ta) := pi_imp (pi_lt h) fun σ H R ⟨Hs, F, env, L, post, hs, hh, ha, hf⟩ =>
  ⟨Hs, F, env, L, _, hs, hh, ha, fun x Hs1 H1 ex L1 ⟨ds, h1, p1⟩ e1 hh1 r1 => by
    obtain ⟨a, rfl, h2⟩ := seq_it r1 hh1 h1
    rcases h2 with ⟨xs, h3, h4⟩ | ⟨xs, h3, h4⟩
    · exact ⟨a, rfl, .inl ⟨⟨xs, h3⟩, hf _ _ _ Hs1 H1 L1 p1 e1 hh1 h4⟩⟩
    · exact ⟨a, rfl, .inr ⟨⟨xs, h3⟩, hf _ _ _ Hs1 H1 L1 p1 e1 hh1 h4⟩⟩⟩
/-! range(n) -/
def rgD (n : Int) : List PyData := (List.range n.toNat).map fun (i : Nat) => PyData.int i
def aRange (a : AE) : AI := fun env L post => a env L fun x L1 => ∃ n : Int, x = .dat (.int n) ∧ -1000000 ≤ n ∧ n ≤ 1000000 ∧ post (rgD n) (fun _ => True) L1
theorem rgD_get {n : Int} {i : Nat} {d : PyData} (h : (rgD n)[i]? = some d) : i < n.toNat ∧ d = .int i := by
  unfold rgD at h
  rw [List.getElem?_map] at h
  by_cases hi : i < n.toNat
  · rw [List.getElem?_range hi] at h
    cases h
    exact ⟨hi, rfl⟩
  · rw [List.getElem?_eq_none (by simpa using hi)] at h
    cases h
theorem rgD_len {n : Int} : (rgD n).length = n.toNat := by simp [rgD]
theorem di_range (hg : Gl X "range") (hm : X.mg "range" = none) (h : DE G X a ta) (hs : starEach [a] X.env = [(false, eval a X.env)] := by rfl) : DI G X tg (.Call (.Name "range" p) [a] [] pos) (aRange ta) :=
  pi_imp (pi_range1 hg hm (da_cons (es := []) h da_nil hs) hs) fun σ H R ⟨Hs, F, env, L, post, hs, hh, ha, hf⟩ =>
  a_one hs hh ha fun x Hs1 H1 ex L1 ⟨n, ez, h0, h1, p1⟩ e1 hh1 r1 => by
    subst ez
    refine ⟨n, congrArg (fun z => [z]) (vr_int r1), by omega, by omega, hf _ _ _ Hs1 H1 L1 p1 e1 hh1 fun F i Hs3 H3 L3 e3 hh3 _ => ⟨fun d hd => ?_, fun hl => ?_⟩⟩
    · obtain ⟨h2, rfl⟩ := rgD_get hd
      refine ⟨h2, fun y H' hy => ?_⟩
      obtain ⟨rfl, rfl⟩ := hy
      refine ⟨Hs3, Same.refl _, hh3, ?_⟩
      rw [Int.zero_add]
      exact .int _
    · rw [rgD_len] at hl
      exact hl
end
end Mn
namespace PySem
open Sem (wp)
theorem meets_en1 {v : Value} {o : Obj} {H : Heap → Prop} (B : Begins v o H) :
    Meets (Builtin.«enumerate.__new__» ⟨[.type "enumerate", v], []⟩) (fun _ R s => H s.heap ∧
      R (.ok (.ret (.ref (s.heap.push o).objs.size))) { s with heap := (s.heap.push o).push { cls := .type "enumerate", data := .fields #[.none, .bool false, .ref s.heap.objs.size, rawInt 0, .none, .none] } }) :=
  .of_wp fun prog w A R s h => by
    obtain ⟨hp, g, d, tk, os⟩ := s; obtain ⟨h1, h⟩ := h
    have hsub := sub_enumerate
    have q1 : ∀ {A' : Around} {E : Value → Shared → Prop} {Q : Value → Shared → Prop}, Q (.ref hp.objs.size) ⟨hp.push o, g, d, tk, os⟩ → wpAny (model prog w) A' (pyIter v) Q E ⟨hp, g, d, tk, os⟩ :=
      fun q => B.iter prog w _ _ ⟨hp, g, d, tk, os⟩ _ h1 q
    wp_walk using q1
    refine wpAny_stack_any fun st => wpAny_pure ?_
    split
    · rename_i c _ _ _ _ _
      cases (c == Value.type "enumerate")
      · wp_walk using q1
        exact ⟨_, rfl, h⟩
      · wp_walk using q1
        exact ⟨_, rfl, h⟩
    · wp_walk using q1
      exact ⟨_, rfl, h⟩
theorem call_en1 {prog : Program} {w : World} {A : Around} {E : Value → Shared → Prop} {s : Shared} {v : Value} {o : Obj} {H : Heap → Prop} {Q : Value → Shared → Prop} (B : Begins v o H) (h1 : H s.heap)
    (h : ∀ h', IsEnum h' (s.heap.objs.size + 1) s.heap.objs.size 0 .none → h'.get? s.heap.objs.size = some o → h'.objs.size = s.heap.objs.size + 2 →
      (∀ b o, s.heap.get? b = some o → h'.get? b = some o) → Q (.ref (s.heap.objs.size + 1)) { s with heap := h' }) :
    wpAny (model prog w) A (call (.type "enumerate") [v]) Q E s := by
  refine callType_new F.called_enumerate (by decide) (F.typeCall_enumerate_1 _) (F.newCall_enumerate_1 _) (fun obj => F.args_object_init_2 obj _) F.entry_enumerate_new (meets_en1 B) ⟨h1, ?_⟩
  have hz : (s.heap.push o).objs.size = s.heap.objs.size + 1 := Heap.size_push ..
  show _ ∧ _
  rw [hz]
  have he : IsEnum ((s.heap.push o).push { cls := .type "enumerate", data := .fields #[.none, .bool false, .ref s.heap.objs.size, rawInt 0, .none, .none] }) (s.heap.objs.size + 1) s.heap.objs.size 0 .none := by
    have := Heap.get?_push_size (s.heap.push o) (o := { cls := .type "enumerate", data := .fields #[.none, .bool false, .ref s.heap.objs.size, rawInt 0, .none, .none] }) rfl
    rw [hz] at this; exact this
  refine ⟨⟨_, he, rfl⟩, h _ he (Heap.get?_push_of_some _ (Heap.get?_push_size _ B.free)) (by rw [Heap.size_push, hz]) fun b o x => Heap.get?_push_of_some _ (Heap.get?_push_of_some _ x)⟩
end PySem
namespace Mn
open PySem PySem.Spec PyProof.Rows L2
/-! ### enumerate(tuple) -/
def Iet (K : PySem.W.Frag) (a : Addr) : It :=
  ⟨fun i H => ∃ (xs : List V) (x : V), SqT K H a xs ∧ xs[i]? = some x, fun i H v H' => ∃ T x, v = .ref T ∧ H T = none ∧ H' = upd H T (.tup [.int (i : Nat), x]) ∧ ∀ xs, SqT K H a xs → xs[i]? = some x, fun i H => ∃ xs : List V, SqT K H a xs ∧ xs.length ≤ i⟩
theorem turn_enumT {P : Program} {w : World} {K : PySem.W.Frag} {elts : List Expr} {kk : Nat} {tpos : Pos} (a e it : Addr) (hea : e ≠ a) (hia : a ≠ it) :
    Turn P w K (.Tuple elts kk tpos) (Iet K a) [e, it] e (fun i h => (∃ old, IsEnum h e it ((i : Nat) : Int) old) ∧ h.IsTupleIter it a i ∧ e ≠ it) where
  mem := by simp
  obj := fun i h st b hb => by
    obtain ⟨⟨old, he⟩, ⟨o, ho, hc, hd⟩, _⟩ := st
    have e' : b = e ∨ b = it := by simpa using hb
    rcases e' with z | z
    · rw [z]; exact ⟨_, he, fun v q => nomatch q⟩
    · rw [z]; exact ⟨o, ho, fun v q => by rw [hd] at q; cases q⟩
  keep := fun i h h' st k => let ⟨⟨old, he⟩, hi, hne⟩ := st; ⟨⟨old, k e (by simp) _ he⟩, hi.at fun o q => k it (by simp) o q, hne⟩
  item := by
    intro X hP hw hK hc i pins s σ H E I hf st hg
    subst hP hw hK
    obtain ⟨⟨old, he⟩, hit, hne⟩ := st
    obtain ⟨xs, x, hq, hx⟩ := hg
    obtain ⟨its, rv, p, hz⟩ := I.tuple hq
    obtain ⟨u, hu, ru⟩ := rv.get hx
    have hel : e < s.heap.objs.size := Heap.lt_size he
    have hil : it < s.heap.objs.size := by obtain ⟨_, q, _⟩ := hit; exact Heap.lt_size q
    have D := Draws.tuple (prog := X.prog) (w := X.w) (A := X.A.in1) (I.ok.hd hc) it a hia its.toArray
    refine wpAny_pyNext_enum_itemC D he ⟨hit, p⟩ (by rw [List.size_toArray, ← rv.length]; exact (List.getElem?_eq_some_iff.mp hx).1) hne (by simp [hne, hea]) fun u' h' tk hP ho hst' hT hsz hk => ?_
    have eu : u' = u := by
      have e1 : its.toArray[i]? = some u' := hP
      have e2 : its.toArray[i]? = some u := by simpa using hu
      rw [e1] at e2
      exact Option.some.inj e2
    subst eu
    refine ⟨_, rfl, wpAny_letOwnedTupleGo_enum (s := { s with heap := h', toks := tk + 1 }) ho fun h'' he' sb => ?_⟩
    have hT2 : h''.get? s.heap.objs.size = some { cls := .type "tuple", data := .seq #[.int i tk, u'] } := (sb.2 _ (Nat.ne_of_gt hel)).trans hT
    have new : ObjOk X.prog X.w (upd H s.heap.objs.size (.tup [.int (i : Nat), x])) h'' s.heap.objs.size (.tup [.int (i : Nat), x]) :=
      ⟨sz_ok (n := 2) (by decide), [.int i tk, u'], .cons ⟨_, rfl⟩ (.cons ru .nil), ⟨_, hT2, rfl, _, rfl⟩⟩
    have I1 : Inv X pins σ (upd H s.heap.objs.size (.tup [.int (i : Nat), x])) { s with heap := h'', toks := tk + 1 } :=
      I.turnedNew (ch := [e, it]) (fun b ob hb q => (sb.2 b (fun z => hb (by simp [z]))).trans (hk b ob (fun z => hb (by simp [z])) (fun z => hb (by simp [z])) q)) hf (Nat.le_refl _) new
    refine ⟨.ref s.heap.objs.size, _, I1, rfl, ⟨_, x, rfl, I.hok.fresh (Nat.le_refl _), rfl, fun ys hy => by rw [I.tuple_inj hy hq]; exact hx⟩, ⟨⟨u', ?_⟩, hst'.1.at fun o q => (sb.2 it (Ne.symm hne)).trans q, hne⟩, fun b hb => ?_⟩
    · have e1 : ((i + 1 : Nat) : Int) = (i : Int) + 1 := by omega
      rw [e1]; exact he'
    · have hb' : b < s.heap.objs.size := by
        have e' : b = e ∨ b = it := by simpa using hb
        rcases e' with z | z
        · rw [z]; exact hel
        · rw [z]; exact hil
      rw [upd_ne (Nat.ne_of_lt hb')]
      exact (hf b hb).1
  done := by
    intro X hP hw hK hc i pins s σ H E I hf st hg
    subst hP hw hK
    obtain ⟨⟨old, he⟩, hit, hne⟩ := st
    obtain ⟨xs, hq, hx⟩ := hg
    obtain ⟨its, rv, p, hz⟩ := I.tuple hq
    obtain ⟨f0, f1, f2, f3, f4, f5⟩ := hf it (by simp)
    have hl := rv.length
    have D : Draws X.prog X.w X.A.in1 it [it, a] i (fun _ _ => True) (fun j h => j = i ∧ h.IsTupleIter it a i ∧ h.IsTuple a its.toArray) :=
      { live := fun _ _ st => let ⟨o, ho, _⟩ := st.2.1; ⟨o, ho⟩
        frame := fun _ _ _ st hk => ⟨st.1, st.2.1.at fun o e => hk it (by simp) o e, st.2.2.at fun o e => hk a (by simp) o e⟩
        item := fun j s Q E hj st hQ => absurd hj (by rw [st.1]; exact Nat.lt_irrefl _)
        done := fun s Q E st hE => wpAny_nextOf_tuple_end (I.ok.hd hc) st.2.1 st.2.2 (by simp; omega) hE }
    exact wpAny_pyNext_enum_endD D he ⟨rfl, hit, p⟩ fun h' eb => ⟨rfl, I.turned (t' := s.toks) (fun b o hb q => eb b o hb q) f0 f1 f3 f4 f5⟩
  self := fun A i s Q E st h => let ⟨⟨_, he⟩, _⟩ := st; wpAny_pyIter_enum he h
theorem pi_enumT {X : Cx} {e : Expr} {ta : TA} {p pos tpos : Pos} {elts : List Expr} {kk : Nat} (hg : Gl X "enumerate") (hm : X.mg "enumerate" = none) (ha : PA X [e] ta) (hs : starEach [e] X.env = [(false, eval e X.env)] := by rfl) :
    PI X (.Tuple elts kk tpos) (.Call (.Name "enumerate" p) [e] [] pos) fun σ H R => ta σ H fun vs H1 => ∃ a xs, vs = [.ref a] ∧ SqT X.K H1 a xs ∧ R (Iet X.K a) H1 := by
  refine ⟨fun pins s σ H R I h => ?_⟩
  refine Call_ (ld_blt I hg hm boot_enumerate (PyProof.Rows.callWith_type1 (thn (ha.run pos pins s σ H _ I h) fun us s1 ⟨vs, H1, I1, r1, q1⟩ => ?_) hs rfl))
  obtain ⟨a, xs, ex, hq, q⟩ := q1
  subst ex
  cases r1 with
  | cons r rr =>
    cases rr
    cases r
    obtain ⟨its, rv, p', hz⟩ := I1.tuple hq
    refine call_en1 (begins_tuple a its.toArray) p' fun h' he hit hsz hk => wpAny_pyIter_enum he ?_
    have I2 : Inv X pins σ H1 { s1 with heap := h' } := I1.kept (t' := s1.toks) hk
    have al : a < s1.heap.objs.size := by obtain ⟨o, ho, _⟩ := p'; exact Heap.lt_size ho
    refine ⟨s1.heap.objs.size + 1, [s1.heap.objs.size + 1, s1.heap.objs.size], _, _, H1, rfl, I2, turn_enumT a (s1.heap.objs.size + 1) s1.heap.objs.size (Nat.ne_of_gt (Nat.lt_succ_of_lt al)) (Nat.ne_of_lt al), ⟨⟨.none, he⟩, ⟨_, hit, rfl, rfl⟩, Nat.succ_ne_self _⟩, fun b hb => ?_, q⟩
    have e' : b = s1.heap.objs.size + 1 ∨ b = s1.heap.objs.size := by simpa using hb
    have hle : s1.heap.objs.size ≤ b := by
      rcases e' with z | z
      · rw [z]; exact Nat.le_add_right _ _
      · rw [z]; exact Nat.le_refl _
    exact I1.fpOk hle (I1.hok.fresh hle)
def enD : Nat → List PyData → List PyData
  | _, [] => []
  | k, d :: ds => .tuple [.int (k : Nat), d] :: enD (k + 1) ds
theorem enD_get : ∀ {ds : List PyData} {k i : Nat} {e : PyData}, (enD k ds)[i]? = some e → ∃ d, ds[i]? = some d ∧ e = .tuple [.int ((k + i : Nat) : Nat), d]
  | [], _, _, _, h => by simp [enD] at h
  | d :: ds, k, 0, e, h => by
    simp [enD] at h
    exact ⟨d, rfl, h.symm⟩
  | d :: ds, k, i + 1, e, h => by
    obtain ⟨d', h1, h2⟩ := enD_get (ds := ds) (k := k + 1) (i := i) (e := e) (by simpa [enD] using h)
    refine ⟨d', by simpa using h1, ?_⟩
    rw [h2, show k + 1 + i = k + (i + 1) by omega]
theorem enD_len : ∀ {ds : List PyData} {k : Nat}, (enD k ds).length = ds.length
  | [], _ => rfl
  | _ :: ds, k => congrArg Nat.succ enD_len
section
variable {G : Gp} {X : Cx} {K : PySem.W.Frag} {e : Expr} {p pos tpos : Pos} {ta : AE} {elts : List Expr} {kk : Nat}
theorem new_pair {Hs3 H3 H' : Hp} {L3 F : List Cell} {T : Addr} {i : Nat} {v : V} {d : PyData} (hh : Holds K G Hs3 (L3 ++ F) H3) (hT : H3 T = none) (e : H' = upd H3 T (.tup [.int (i : Nat), v])) (hd : Dq Hs3 v d) :
    ∃ Hs4, Same Hs3 Hs4 ∧ Holds K G Hs4 (L3 ++ F) H' ∧ Dq Hs4 (.ref T) (.tuple [.int (i : Nat), d]) := by
  subst e
  obtain ⟨e2, hh2⟩ := hh.new (o := .tup [.int (i : Nat), v]) hT
  exact ⟨_, e2, hh2, .tup rfl upd_same (.cons (.int _) (.cons (dp_same e2 hd) .nil))⟩
/-- enumerate of a tuple -/
def aEnT (a : AE) : AI := fun env L post => a env L fun x L1 => ∃ ds, x = .dat (.tuple ds) ∧ post (enD 0 ds) (fun _ => True) L1
theorem di_enT (hg : Gl X "enumerate") (hm : X.mg "enumerate" = none) (h : DE G X e ta) (hs : starEach [e] X.env = [(false, eval e X.env)] := by rfl) : DI G X (.Tuple elts kk tpos) (.Call (.Name "enumerate" p) [e] [] pos) (aEnT ta) :=
  pi_imp (pi_enumT hg hm (da_cons (es := []) h da_nil hs) hs) fun σ H R ⟨Hs, F, env, L, post, hs, hh, ha, hf⟩ =>
  a_one hs hh ha fun x Hs1 H1 ex L1 ⟨ds, ez, p1⟩ e1 hh1 r1 => by
    subst ez
    obtain ⟨a, xs, rfl, h1, h2⟩ := vr_tup r1
    refine ⟨a, xs, rfl, same_t hh1.st h1, hf _ _ _ Hs1 H1 L1 p1 e1 hh1 fun F i Hs3 H3 L3 e3 hh3 _ => ⟨fun d hd => ?_, fun hl => ⟨xs, same_t (e3.trans hh3.st) h1, ?_⟩⟩⟩
    · obtain ⟨d', h3, rfl⟩ := enD_get hd
      obtain ⟨v, h4, h5⟩ := dpa_get (dpa_same e3 h2) h3
      refine ⟨⟨xs, v, same_t (e3.trans hh3.st) h1, h4⟩, fun y H' hy => ?_⟩
      obtain ⟨T, x, rfl, hT, eH, hx⟩ := hy
      have e5 := hx xs (same_t (e3.trans hh3.st) h1)
      rw [h4] at e5
      cases e5
      rw [Nat.zero_add]
      exact new_pair hh3 hT eH h5
    · rw [enD_len] at hl
      rw [dpa_len h2]
      exact hl
/-- enumerate of an owned list -/
def aEnO (a : AE) : AI := fun env L post => a env L fun x L1 => ∃ (q : Addr) (j : Nat) (ds : List PyData), x = .own q ∧ L1[j]? = some (q, OD.lst ds) ∧ post (enD 0 ds) (fun L => ∃ j : Nat, L[j]? = some (q, OD.lst ds)) L1
theorem di_enO (hg : Gl X "enumerate") (hm : X.mg "enumerate" = none) (h : DE G X e ta) (hs : starEach [e] X.env = [(false, eval e X.env)] := by rfl) : DI G X (.Tuple elts kk tpos) (.Call (.Name "enumerate" p) [e] [] pos) (aEnO ta) :=
  pi_imp (pi_enum hg hm (da_cons (es := []) h da_nil hs) hs) fun σ H R ⟨Hs, F, env, L, post, hs, hh, ha, hf⟩ =>
  a_one hs hh ha fun x Hs1 H1 ex L1 ⟨q, j, ds, ez, hj, p1⟩ e1 hh1 r1 => by
    subst ez
    have e := (show x = V.ref q from r1)
    subst e
    obtain ⟨xs, h1, h2⟩ := (hh1.ow _ (List.mem_append_left F (List.mem_of_getElem? hj))).1
    refine ⟨q, xs, rfl, SqL.of h1, hf _ _ _ Hs1 H1 L1 p1 e1 hh1 fun F i Hs3 H3 L3 e3 hh3 ⟨j, hj⟩ => ?_⟩
    obtain ⟨xs, h1, h2⟩ := (hh3.ow _ (List.mem_append_left F (List.mem_of_getElem? hj))).1
    refine ⟨fun d hd => ?_, fun hl => ⟨xs, SqL.of h1, ?_⟩⟩
    · obtain ⟨d', h3, rfl⟩ := enD_get hd
      obtain ⟨v, h4, h5⟩ := dpa_get h2 h3
      refine ⟨⟨xs, v, SqL.of h1, h4⟩, fun y H' hy => ?_⟩
      obtain ⟨T, x, rfl, hT, eH, hx⟩ := hy
      have e5 := hx xs (SqL.of h1)
      rw [h4] at e5
      cases e5
      rw [Nat.zero_add]
      exact new_pair hh3 hT eH h5
    · rw [enD_len] at hl
      rw [dpa_len h2]
      exact hl
end
end Mn
namespace Mn
open PySem PySem.Spec PyProof.Rows L2
/-! ### for -/
/-- J: what stands ahead of turn i -/
def aFor (w : AI) (t : Tg) (body : AS) : AS := fun D env L => w env L fun items kp L1 => ∃ J : Nat → List En → List Cell → Prop, J 0 env L1 ∧
  (∀ i d env L, items[i]? = some d → J i env L → kp L ∧ ∃ env', bindT t d env = some env' ∧ body { D with nx := J (i + 1), ct := J (i + 1), bk := D.nx } env' L) ∧ ∀ env L, J items.length env L → kp L ∧ D.nx env L
section
variable {G : Gp} {X : Cx} {K : PySem.W.Frag} {tg iter : Expr} {body : List Stmt} {pos : Pos} {w : AI} {t : Tg} {b : AS}
theorem s_for (hp : PassesOwn (model X.prog X.w) X.A X.env X.xe) (hc : X.calm = true) (hi : DI G X tg iter w) (hg : DTg X tg t) (hb : DSs G X body b) (hs : ∀ x, foldedSetIterable iter X.env x = pure x := by intro _; rfl) :
    DS G X (.For tg iter body [] pos) (aFor w t b) := ps_imp (ps_for hp hc hi hg hb hs) fun D σ H ⟨Hs, F, env, L, AD, hs, hh, ha, g1, g2, g3, g4⟩ =>
  ⟨Hs, F, env, L, _, hs, hh, ha, fun It items kp Hs1 H1 L1 ⟨J, j0, js, jd⟩ e1 hh1 ok => by
    refine ⟨fun i m σ H => m = items.length - i ∧ i ≤ items.length ∧ ∃ Hs2 env L, Same Hs1 Hs2 ∧ Holds X.K G Hs2 (L ++ F) H ∧ SR X.K G Hs2 σ env ∧ J i env L, ⟨_, rfl, Nat.zero_le _, Hs1, env, L1, Same.refl _, hh1, sr_same e1 hs, j0⟩, ?_⟩
    rintro i m σ2 H2 ⟨rfl, hi, Hs2, env2, L2, e2, hh2, hs2, jj⟩
    by_cases hlt : i < items.length
    · obtain ⟨hk, env', hb, hbody⟩ := js i items[i] env2 L2 (by simp [hlt]) jj
      obtain ⟨hgo, hyld⟩ := (ok F i Hs2 H2 L2 e2 hh2 hk).1 items[i] (by simp [hlt])
      refine .inr ⟨hgo, fun σ H => ∃ Hs3 env L, Same Hs1 Hs3 ∧ Holds X.K G Hs3 (L ++ F) H ∧ SR X.K G Hs3 σ env ∧ J (i + 1) env L, fun σ' H' ⟨Hs3, env3, L3, a1, a2, a3, a4⟩ => ⟨items.length - (i + 1), by omega, rfl, hlt, Hs3, env3, L3, a1, a2, a3, a4⟩, fun x H' hy => ?_⟩
      obtain ⟨Hs4, e4, hh4, hd⟩ := hyld x H' hy
      obtain ⟨σ', k1, k2, _⟩ := gT_run hd (sr_same e4 hs2) hb hh4.st
      refine k2 _ ⟨Hs4, F, env', L2, _, k1, hh4, hbody, ?_, g2.same ((e1.trans e2).trans e4), ?_, ?_⟩
      · exact fun σ5 Hs5 H5 env5 L5 p5 e5 hh5 hs5 => ⟨Hs5, env5, L5, (e2.trans e4).trans e5, hh5, hs5, p5⟩
      · exact g1.same ((e1.trans e2).trans e4)
      · exact fun σ5 Hs5 H5 env5 L5 p5 e5 hh5 hs5 => ⟨Hs5, env5, L5, (e2.trans e4).trans e5, hh5, hs5, p5⟩
    · have ei : i = items.length := by omega
      subst ei
      obtain ⟨hk, hnx⟩ := jd env2 L2 jj
      exact .inl ⟨(ok F _ Hs2 H2 L2 e2 hh2 hk).2 (Nat.le_refl _), g1 σ2 Hs2 H2 env2 L2 hnx (e1.trans e2) hh2 hs2⟩⟩
end
/-! ### list comprehensions -/
/-- J: what stands ahead of turn i, and what has been gathered -/
def aLc (w : AI) (t : Tg) (tt : AT) (te : AE) (vs : List Nat) : AE := fun env L post => w env L fun items kp L1 => ∃ J : Nat → List PyData → List Cell → Prop, J 0 [] L1 ∧
  (∀ i d acc L, items[i]? = some d → J i acc L → kp L ∧ ∃ env', bindT t d (wipeE env vs) = some env' ∧ tt env' L fun b L2 => (b = true → te env' L2 fun y L3 => ∃ d, y = .dat d ∧ acc.length < 100000 ∧ J (i + 1) (acc ++ [d]) L3) ∧ (b = false → J (i + 1) acc L2)) ∧
  ∀ acc L, J items.length acc L → kp L ∧ post (.dat (.list acc)) L
structure DTs (G : Gp) (X : Cx) (ifs : List Expr) (t : AT) : Prop where
  run : PTs X ifs (cT X.K G t)
def aYes : AT := fun _ L post => post true L
section
variable {G : Gp} {X : Cx} {K : PySem.W.Frag}
theorem ts_nil : DTs G X [] aYes := ⟨⟨fun pins s σ H Q I ⟨Hs, F, env, L, post, hs, hh, ha, hf⟩ => pts_nil.run pins s σ H Q I (hf true Hs H L ha (Same.refl _) hh)⟩⟩
theorem ts_one {c : Expr} {t : AT} (h : DT G X c t) : DTs G X [c] t := ⟨pts_one h⟩
theorem lc_gen {w : AI} {t : Tg} {tt : AT} {te : AE} {vs : List Nat} (hv : ∀ i ∈ slT t, i ∈ vs) : ∀ σ H Q, cE K G (aLc w t tt te vs) σ H Q → tLc (cI K G w) (gT K t) (cT K G tt) (cE K G te) vs σ H Q := fun σ H Q ⟨Hs, F, env, L, post, hs, hh, ha, hf⟩ =>
  ⟨Hs, F, env, L, _, hs, hh, ha, fun It items kp Hs1 H1 L1 ⟨J, j0, js, jd⟩ e1 hh1 ok D hD => by
    have hw := sr_wipe (sr_same e1 hs) vs
    refine ⟨fun i m H => m = items.length - i ∧ i ≤ items.length ∧ ∃ Hs2 acc L, Same Hs1 Hs2 ∧ Holds K G Hs2 ((D, .lst acc) :: (L ++ F)) H ∧ J i acc L, ⟨_, rfl, Nat.zero_le _, Hs1, [], L1, Same.refl _, hh1.fresh hD ⟨[], upd_same, .nil⟩, j0⟩, ?_⟩
    rintro i m H2 ⟨rfl, hi, Hs2, acc, L2, e2, hh2, jj⟩
    have sw : ∀ {acc : List PyData} {L : List Cell} {Hs H : Hp}, Holds K G Hs ((D, .lst acc) :: (L ++ F)) H → Holds K G Hs (L ++ ((D, .lst acc) :: F)) H := fun h => h.perm List.perm_middle.symm
    have sw' : ∀ {acc : List PyData} {L : List Cell} {Hs H : Hp}, Holds K G Hs (L ++ ((D, .lst acc) :: F)) H → Holds K G Hs ((D, .lst acc) :: (L ++ F)) H := fun h => h.perm List.perm_middle
    by_cases hlt : i < items.length
    · obtain ⟨hk, env', hb, hbody⟩ := js i items[i] acc L2 (by simp [hlt]) jj
      obtain ⟨hgo, hyld⟩ := (ok _ i Hs2 H2 L2 e2 (sw hh2) hk).1 items[i] (by simp [hlt])
      refine .inr ⟨hgo, fun H => ∃ Hs3 acc L, Same Hs1 Hs3 ∧ Holds K G Hs3 ((D, .lst acc) :: (L ++ F)) H ∧ J (i + 1) acc L, fun H' ⟨Hs3, acc3, L3, a1, a2, a3⟩ => ⟨items.length - (i + 1), by omega, rfl, hlt, Hs3, acc3, L3, a1, a2, a3⟩, fun x H' hy => ?_⟩
      obtain ⟨Hs4, e4, hh4, hd⟩ := hyld x H' hy
      obtain ⟨σ', k1, k2, k3⟩ := gT_run hd (sr_same (e2.trans e4) hw) hb hh4.st
      have ww : ∀ vs σ, wipe (wipe σ vs) vs = wipe σ vs := by
        have aux : ∀ (us vs : List Nat) (σ : List (Option V)), (∀ i ∈ us, i ∈ vs) → wipe (wipe σ us) vs = wipe σ vs := fun us => by
          induction us with
          | nil => intro vs σ _; rfl
          | cons u us ih =>
            intro vs σ hsub
            show wipe ((wipe σ us).set u none) vs = wipe σ vs
            rw [wipe_set (hsub u (by simp)), ih vs σ fun i hi => hsub i (by simp [hi])]
        exact fun vs σ => aux vs vs σ fun _ h => h
      refine k2 _ ⟨by rw [k3 vs hv, ww], Hs4, _, env', L2, _, k1, hh4, hbody, fun b Hs5 H5 L5 p5 e5 hh5 => ?_⟩
      cases b with
      | false =>
        show ∃ Hs3 acc L, _
        exact ⟨Hs5, acc, L5, (e2.trans e4).trans e5, sw' hh5, p5.2 rfl⟩
      | true =>
        show cE K G te σ' H5 _
        refine ⟨Hs5, _, env', L5, _, sr_same e5 k1, hh5, p5.1 rfl, fun y Hs6 H6 ey L6 p6 e6 hh6 r6 => ?_⟩
        obtain ⟨d, rfl, hl, j6⟩ := p6
        obtain ⟨xs, h7, h8⟩ := ((sw' hh6).ow _ List.mem_cons_self).1
        have r7 : Dq Hs6 y d := r6
        exact ⟨xs, h7, Nat.lt_of_lt_of_le (by rw [dpa_len h8]; exact hl) (by decide : 100000 ≤ sizeLine), Hs6, acc ++ [d], L6, ((e2.trans e4).trans e5).trans e6, (sw' hh6).write ⟨_, upd_same, dpa_app h8 (.cons r7 .nil)⟩, j6⟩
    · have ei : i = items.length := by omega
      subst ei
      obtain ⟨hk, hnx⟩ := jd acc L2 jj
      refine .inl ⟨(ok _ _ Hs2 H2 L2 e2 (sw hh2) hk).2 (Nat.le_refl _), ?_⟩
      obtain ⟨xs, h7, h8⟩ := (hh2.ow _ List.mem_cons_self).1
      obtain ⟨e3, hh3⟩ := hh2.freeze h7
      exact hf _ _ _ _ L2 hnx ((e1.trans e2).trans e3) hh3 (.lst upd_same (dpa_same e3 h8))⟩
end
section
variable {G : Gp} {X : Cx} {elt tg iter : Expr} {ifs : List Expr} {scope : Scope} {own : List (Str × Nat)} {pos : Pos} {w : AI} {t : Tg} {tt : AT} {te : AE}
/-- the contexts of the block -/
abbrev Blk (X : Cx) (scope : Scope) (f : Cx → Prop) : Prop := ∀ (s : Shared) (H : Hp) (C : Addr) (cl : List (Str × Addr)) (fp : List Addr), f (X.blk s H scope (compEnvC scope cl C X.env) fp)
theorem d_lc (hc : X.calm = true) (hN : X.N.Nodup) (hi : DI G X tg iter w) (ok : BlkOk X.N X.env.scope scope own) (hv : ∀ i ∈ slT t, i ∈ own.map (·.2))
    (hg : Blk X scope fun Y => DTg Y tg t) (ht : Blk X scope fun Y => DTs G Y ifs tt) (he : Blk X scope fun Y => DE G Y elt te) (hs : ∀ x, foldedSetIterable iter X.env x = pure x := by intro _; rfl) :
    DE G X (.ListComp elt [⟨tg, iter, ifs, 0⟩] scope pos) (aLc w t tt te (own.map (·.2))) :=
  pe_imp (pe_lc hc hN hi ok hg (fun s H C cl fp => (ht s H C cl fp).run) he hs) (lc_gen hv)
theorem s_setLc {i : Nat} {y : Str} {py spos : Pos} (hc : X.calm = true) (hN : X.N.Nodup) (hy : X.N[i]? = some y) (hyl : X.env.scope.names.lookup y = some .local)
    (hsw : swapsWith (.ListComp elt [⟨tg, iter, ifs, 0⟩] scope pos) (some (.Name y py)) spos.line X.env = pure true) (hi : DI G X tg iter w) (ok : BlkOk X.N X.env.scope scope own) (hv : ∀ i ∈ slT t, i ∈ own.map (·.2))
    (hg : Blk X scope fun Y => DTg Y tg t) (ht : Blk X scope fun Y => DTs G Y ifs tt) (he : Blk X scope fun Y => DE G Y elt te) (hs : ∀ x, foldedSetIterable iter X.env x = pure x := by intro _; rfl) :
    DS G X (.Assign [.Name y py] (.ListComp elt [⟨tg, iter, ifs, 0⟩] scope pos) spos) (aAsg (aLc w t tt te (own.map (·.2))) (aName i)) :=
  ps_imp (ps_setLc hc hN hy hyl hsw hi ok hg (fun s H C cl fp => (ht s H C cl fp).run) he hs) fun D σ H ⟨Hs, F, env, L, AD, hs, hh, ha, g1, g2, g3, g4⟩ =>
    lc_gen hv σ H _ ⟨Hs, F, env, L, _, hs, hh, ha, fun v Hs2 H2 en L2 p2 e2 hh2 r2 => g1 _ Hs2 H2 _ L2 p2 e2 hh2 (sr_set (sr_same e2 hs) r2 i)⟩
end
/-! ### defs -/
section
variable {P : Program} {w : World} {K : PySem.W.Frag} {mg : Str → Option Value} {base : Heap} {G : Gp}
theorem sr_start {Hs : Hp} {N : List Str} : ∀ {vs : List V} {ens : List En}, VRs K G Hs vs ens → vs.length ≤ N.length → SR K G Hs (start N vs) (ens ++ List.replicate (N.length - ens.length) .no) := fun {vs ens} h hl => by
  have el : vs.length = ens.length := Paired.length h
  refine ⟨by simp [L2.start, el], fun i en h1 h2 => ?_⟩
  by_cases hi : i < ens.length
  · rw [List.getElem?_append_left hi] at h1
    have hv : i < vs.length := by rw [el]; exact hi
    have key : ∀ {vs : List V} {ens : List En}, VRs K G Hs vs ens → ∀ {i : Nat} {en : En}, ens[i]? = some en → ∃ v, vs[i]? = some v ∧ VR K G Hs v en := fun {vs ens} h => by
      induction h with
      | nil => intro i en h; simp at h
      | cons a b ih =>
        intro i en h
        cases i with
        | zero =>
          simp at h
          subst h
          exact ⟨_, rfl, a⟩
        | succ i =>
          obtain ⟨v, g1, g2⟩ := ih (i := i) (en := en) (by simpa using h)
          exact ⟨v, by simpa using g1, g2⟩
    obtain ⟨v, g1, g2⟩ := key h h1
    refine ⟨v, ?_, g2⟩
    unfold L2.start
    rw [List.getElem?_append_left (by simpa using hv), List.getElem?_map, g1]
    rfl
  · rw [List.getElem?_append_right (by omega), List.getElem?_replicate] at h1
    split at h1
    · cases h1
      exact absurd rfl h2
    · cases h1
/-- a def by its body: C asks for nothing but what the body's reading asks -/
theorem fn_a {x qual : Str} {params : Arguments} {body : List Stmt} {scope : Scope} {dvs : List V} {kws : List (Str × V)} {f : Addr} {fd : FuncData} {N ps : List Str} {k : Nat} {C : AC} (F : FunD K x qual params body scope dvs kws f fd) (S : FnScope N ps scope) (len : ∀ ens L post, C ens L post → ens.length = ps.length) {t : AS}
    (hbody : ∀ (cdv : Value) (A : Around) (outer : List Env) (s : Shared) (H : Hp) (E : XK), Room k (A.deeper (envOfC qual scope s.heap.objs.size f cdv)) → (∃ c, cdv = .ref c ∧ ∀ p, f = He.fAd K p → He.codeOf K p = c) →
      DSs G (cxOf CX0 P w K mg base N qual scope f cdv A outer s H E).nox body t)
    (law : ∀ ens L post, C ens L post → t { nx := fun _ L' => post (.dat .none) L', rt := post } (ens ++ List.replicate (N.length - ens.length) .no) L) : FnOk P w K mg base CX0 (k + 1) f fd ps (spA K G C) := by
  obtain ⟨oc, od, dV, kV, doc, pm, an, cdv, ct, osl, rfl, lk, hcd, _, _⟩ := F.ex
  refine fn_of lk hcd S (fun vs H Q E ⟨Hs, F, ens, L, post, r, hh, hc, hf⟩ => by rw [← len ens L post hc]; exact Paired.length r) fun A outer s H vs Q E hr ⟨Hs, F, ens, L, post, r, hh, hc, hf⟩ => ?_
  have hl : vs.length ≤ N.length := by
    have e1 : vs.length = ps.length := by rw [← len ens L post hc]; exact Paired.length r
    have e2 := congrArg List.length S.pre
    rw [List.length_take] at e2
    omega
  obtain ⟨c, ec⟩ := He.codeIn_ref hcd
  refine ⟨_, (hbody cdv A outer s H E hr ⟨c, ec, fun p ep => He.codeOf_eq (by rw [← ep]; exact lk) ec⟩).nox, Hs, F, _, L, _, sr_start r hl, hh, law ens L post hc, ?_, ?_, ?_, ?_⟩
  · exact fun σ Hs2 H2 env2 L2 p2 e2 hh2 hs2 => hf _ Hs2 H2 _ L2 p2 e2 hh2 .non
  · exact hf
  · exact fun σ Hs2 H2 env2 L2 p2 e2 hh2 hs2 => p2.elim
  · exact fun σ Hs2 H2 env2 L2 p2 e2 hh2 hs2 => p2.elim
end
end Mn
/-! Layer J: any, all of a generator expression whose element calls defs. -/
namespace Mn
open PySem PySem.Spec PyProof.Rows L2 GxR
/-- the context of a generator expression that is running -/
abbrev gcx (X : Cx) (s : Shared) (H : Hp) (env : Env) (fp : List Addr) (pn : List (Addr × Obj)) : Cx :=
  { X with A := X.A.in1.in1.deeper env, s_0 := s, H_0 := H, env := env, outer := X.stack, stack := env :: X.stack, ex := fp, fn := fun _ => false, pn := pn, xe := fun _ _ => False }
structure GBlk (N : List Str) (sc scope : Scope) (own : List (Str × Nat)) : Prop where
  blk : BlkOk N sc scope own
  co : scope.isCoroutine = false
  cell : ∀ y ∈ scope.names, y.2 ≠ .cell
  dot : scope.names.lookup (".0" : Str) = some NameKind.local
section
variable {X : Cx} {pins : List (Addr × Obj)} {σ : L2.St} {H : Hp} {s : Shared}
theorem gen_start {scope : Scope} {own : List (Str × Nat)} {fp : List Addr} {code : Value} {h5 : Heap} {gs : GenState} {a : Addr} {ob : Obj} {tk : Nat} {m0 : Str → Option Value} (hc : X.calm = true) (I : Inv X pins σ H s) (ok : GBlk X.N X.env.scope scope own) (hN : X.N.Nodup)
    (hfp : ∀ b ∈ fp, FpOk X pins H b ∧ b < s.heap.objs.size) (hC : h5.Ns s.heap.objs.size m0) (kp : ∀ b o, s.heap.get? b = some o → h5.get? b = some o) (ha : s.heap.objs.size < a) (hob : h5.get? a = some ob) (hnc : ∀ v, ob.data ≠ .cell v) (hgs : gs.bare = true) :
    Inv (gcx X s H (genEnv scope (cloFrom X.env.cells scope.names []) s.heap.objs.size code builtinsNs X.env) fp [(a, ob)]) [] (wipe σ (own.map (·.2))) H { s with gens := s.gens.push gs, toks := tk, heap := h5 } := by
  have hfree : ∀ y ∈ scope.names, y.2 = .free → ∃ c, X.env.cells.lookup y.1 = some c := fun y hy e => by
    rcases ok.blk.free y hy e with k | k
    · exact I.ok.has _ (.inl k)
    · exact I.ok.has _ (.inr k)
  have cm : ∀ {y c}, (y, c) ∈ cloFrom X.env.cells scope.names [] → X.env.cells.lookup y = some c ∧ c < s.heap.objs.size := fun {y c} hm => by
    rcases cloFrom_mem hm with hm | ⟨h1, rfl⟩
    · cases hm
    · obtain ⟨c, hc⟩ := hfree _ h1 rfl
      rw [hc]
      obtain ⟨w, z⟩ := I.cell _ _ hc
      exact ⟨rfl, z.lt⟩
  have look : ∀ {y}, scope.names.lookup y = some .free → ∃ c, (cloFrom X.env.cells scope.names []).lookup y = some c ∧ X.env.cells.lookup y = some c := fun {y} hl => by
    have hy : (y, NameKind.free) ∈ scope.names := PySem.mem_of_lookup hl
    obtain ⟨c', e'⟩ := mem_lookup (cloFrom_has (cells := X.env.cells) (acc := []) hy)
    exact ⟨c', e', (cm (PySem.mem_of_lookup e')).1⟩
  have okB : (gcx X s H (genEnv scope (cloFrom X.env.cells scope.names []) s.heap.objs.size code builtinsNs X.env) fp [(a, ob)]).Ok := by
    refine ⟨I.ok.mod, ok.blk.kind, I.ok.glob, rfl, Nat.le_refl _, fun y z c e1 e2 => ?_, fun y hy => ?_, fun y c z e => ?_, fun _ => I.ok.hd hc, ?_, .inr ⟨rfl, rfl⟩, fun b hb => ⟨?_, fun y c e z => ?_⟩, I.bs, Nat.le_trans I.ok.bsz I.sz, fun b o e hb => ?_, fun b hb z => ?_, I.stack, I.stkFree⟩
    · exact I.ok.inj y z c (cm (PySem.mem_of_lookup e1)).1 (cm (PySem.mem_of_lookup e2)).1
    · rcases hy with hy | hy
      · exact absurd rfl (ok.cell _ (PySem.mem_of_lookup hy))
      · obtain ⟨c, h1, _⟩ := look hy
        exact ⟨c, h1⟩
    · exact absurd z Bool.false_ne_true
    · show X.A.in1.in1.frames.map _ = _
      rw [show X.A.in1.in1.frames = some X.stack from I.ok.frames]
      rfl
    · exact Nat.ne_of_lt (hfp b hb).2
    · exact (hfp b hb).1.2.2.2.2.1 y c (cm (PySem.mem_of_lookup e)).1 z
    · rcases (hfp b hb).1.2.2.2.1 with z | z
      · exact I.ok.noex b o e z
      · exact absurd (Nat.lt_of_lt_of_le (Heap.lt_size e) (Nat.le_trans I.ok.bsz z)) (Nat.lt_irrefl _)
    · rcases List.mem_cons.mp (I.stkSub b z) with z | z
      · exact (hfp b hb).1.2.1 z
      · exact (hfp b hb).1.2.2.1 z
  refine ⟨okB, rfl, I.bare.push hgs, Un.kept kp, ⟨m0, hC, fun i y av e1 e2 e3 => ?_⟩, fun y c e => ?_, ?_, fun y c e => ?_, fun p hp => ?_, I.hok.kept kp, by rw [wipe_length]; exact I.len⟩
  · obtain ⟨e2, hne⟩ := wipe_some e2
    have no : ∀ k, scope.names.lookup y = some k → k = .local ∨ k = .cell → False := fun k e hh => by
      rcases ok.blk.own _ (PySem.mem_of_lookup e) hh with e' | e'
      · obtain ⟨p, hp, hpy⟩ := List.mem_map.mp e'
        have e3 := ok.blk.ix p hp
        have : p.1 = y := hpy
        rw [this] at e3
        exact hne (List.mem_map.mpr ⟨p, hp, nodup_ix hN e3 e1⟩)
      · exact e' (List.mem_of_getElem? e1)
    have hfr : scope.names.lookup y = some .free := by
      rcases e3 with e3 | e3 | e3
      · exact (no _ e3 (.inl rfl)).elim
      · exact (no _ e3 (.inr rfl)).elim
      · exact e3
    obtain ⟨m, hn, hl⟩ := I.loc
    have hvis : Vis X.env.scope y := (ok.blk.free _ (PySem.mem_of_lookup hfr) rfl).elim (fun k => .inr (.inl k)) (fun k => .inr (.inr k))
    obtain ⟨w, r, q⟩ := hl i y av e1 e2 hvis
    refine ⟨w, r, .inr ⟨.inr hfr, ?_⟩⟩
    obtain ⟨c, h1, h2⟩ := look hfr
    rcases q with ⟨k, _⟩ | ⟨_, c', e', z⟩
    · have k : X.env.scope.names.lookup y = some .local := k
      rcases ok.blk.free _ (PySem.mem_of_lookup hfr) rfl with k' | k' <;> rw [show X.env.scope.names.lookup y = _ from k'] at k <;> cases k
    · rw [h2] at e'; cases e'
      exact ⟨c, h1, z.keeps kp⟩
  · obtain ⟨w, z⟩ := I.cell y c (cm (PySem.mem_of_lookup e)).1
    exact ⟨w, z.keeps kp⟩
  · exact I.hok.fresh (Nat.le_refl _)
  · exact I.freeC y c (cm (PySem.mem_of_lookup e)).1
  · have e : p = (a, ob) := by simpa using hp
    subst e
    exact ⟨hob, I.hok.fresh (Nat.le_of_lt ha), Nat.ne_of_gt ha, fun hb => by
      obtain ⟨_, o, ho, _⟩ := I.stack.mem hb
      exact absurd (Heap.lt_size ho) (Nat.not_lt.mpr (Nat.le_of_lt ha)), hnc⟩
end
/-! ### a generator that is walked to its first answer that stops -/
/-- at a yield: an answer; where it goes on (cont), any state of Z may go on -/
def gyP (Z : Nat → Shared → Prop) (Fi : Bool → Shared → Prop) (g : Nat) (cont : Bool) : Protocol := fun k _ v s kap =>
  g < s.gens.size ∧ ∃ b, v = .bool b ∧ (b = cont → Z k s ∧ ∀ s'', Z k s'' → kap (.send .none) s'') ∧ (b ≠ cont → Fi b s)
def gyR (Fi : Bool → Shared → Prop) (cont : Bool) : GenEnd := fun _ _ r s => ((r = .ok (.ret .none) ∨ r = .ok .next) ∧ Fi cont s) ∨ ∃ e, r = .error e ∧ False
/-- what is known of Z and Fi -/
structure GZ (Z : Nat → Shared → Prop) (Fi : Bool → Shared → Prop) (a : Addr) (g : Nat) : Prop where
  zs : ∀ k s x, GenState.bare x = true → Z k s → Z k (s.setGen g x)
  zi : ∀ k s, Z k s → s.heap.IsGen a g ∧ s.heap.NoLimit ∧ 0 < k
  fs : ∀ b s x, GenState.bare x = true → Fi b s → Fi b (s.setGen g x)
  fh : ∀ b s h', Fi b s → (∀ c o, s.heap.get? c = some o → h'.get? c = some o) → Fi b { s with heap := h' }
section
variable {P : Program} {w : World} {A : Around} {Z : Nat → Shared → Prop} {Fi : Bool → Shared → Prop} {a : Addr} {g : Nat} {R : Result → Shared → Prop}
theorem all_loopG (gz : GZ Z Fi a g) (hh : A.handled = none) (hroom : A.depth < recursionLimit) (hR : ∀ b s, Fi b s → R (.ok (.ret (.bool b))) s) : ∀ (n : Nat) (s : Shared) (gs : GenState), s.gens[g]? = some gs → Z n s →
    (∀ s'', Z n s'' → gs.Goes (model P w) A.in1.in1 (gyR Fi true) (gyP Z Fi g true) n (.send .none) s'') → codeAny (model P w) A (.builtin "all.loop" ⟨[.ref a], []⟩) R s := by
  intro n
  induction n with
  | zero => exact fun s gs _ hz _ => absurd (gz.zi _ _ hz).2.2 (Nat.lt_irrefl _)
  | succ n ih =>
    intro s gs hgs hz hk
    obtain ⟨i1, i2, _⟩ := gz.zi _ _ hz
    refine codeAny_builtin F.entry_all_loop ?_
    rw [Around.under_plainId F.plain_all_loop _]
    show wpAny _ A.in1 (pyNext (.ref a) >>= _) _ _ s
    refine wpAny_bind (next_genG (F := fun _ _ s => Fi true s) (Er := fun _ _ => False) (A := A.in1) hh i2 hroom i1 hgs (hk _ (gz.zs _ _ _ rfl hz)) (fun v s1 gs' hb hv => ?_) (fun s1 hf h' hkp => ?_) (fun e s1 hf => hf.elim))
    · obtain ⟨hsz, b, rfl, h1, h2⟩ := hv
      refine wpAny_bind (wpAny_holding (wpAny_truthy_bool ?_))
      refine wpAny_bind (wpAny_letGo ?_)
      cases b with
      | true =>
        simp only [if_true]
        obtain ⟨z1, z2⟩ := h1 rfl
        exact wpAny_pure ⟨plainId_quiet F.plain_all_loop _, ih _ gs' (setGen_at hsz) (gz.zs _ _ _ hb z1) z2⟩
      | false =>
        simp only [Bool.false_eq_true, if_false]
        exact wpAny_bind (wpAny_rule (wpAny_pure (hR false _ (gz.fs _ _ _ hb (h2 (by decide))))))
    · exact wpAny_bind (wpAny_rule (wpAny_pure (hR true _ (gz.fh _ _ _ (gz.fs _ _ .finished rfl hf) hkp))))
theorem any_loopG (gz : GZ Z Fi a g) (hh : A.handled = none) (hroom : A.depth < recursionLimit) (hR : ∀ b s, Fi b s → R (.ok (.ret (.bool b))) s) : ∀ (n : Nat) (s : Shared) (gs : GenState), s.gens[g]? = some gs → Z n s →
    (∀ s'', Z n s'' → gs.Goes (model P w) A.in1.in1 (gyR Fi false) (gyP Z Fi g false) n (.send .none) s'') → codeAny (model P w) A (.builtin "any.loop" ⟨[.ref a], []⟩) R s := by
  intro n
  induction n with
  | zero => exact fun s gs _ hz _ => absurd (gz.zi _ _ hz).2.2 (Nat.lt_irrefl _)
  | succ n ih =>
    intro s gs hgs hz hk
    obtain ⟨i1, i2, _⟩ := gz.zi _ _ hz
    refine codeAny_builtin F.entry_any_loop ?_
    rw [Around.under_plainId F.plain_any_loop _]
    show wpAny _ A.in1 (pyNext (.ref a) >>= _) _ _ s
    refine wpAny_bind (next_genG (F := fun _ _ s => Fi false s) (Er := fun _ _ => False) (A := A.in1) hh i2 hroom i1 hgs (hk _ (gz.zs _ _ _ rfl hz)) (fun v s1 gs' hb hv => ?_) (fun s1 hf h' hkp => ?_) (fun e s1 hf => hf.elim))
    · obtain ⟨hsz, b, rfl, h1, h2⟩ := hv
      refine wpAny_bind (wpAny_holding (wpAny_truthy_bool ?_))
      refine wpAny_bind (wpAny_letGo ?_)
      cases b with
      | false =>
        simp only [Bool.false_eq_true, if_false]
        obtain ⟨z1, z2⟩ := h1 rfl
        exact wpAny_pure ⟨plainId_quiet F.plain_any_loop _, ih _ gs' (setGen_at hsz) (gz.zs _ _ _ hb z1) z2⟩
      | true =>
        simp only [if_true]
        exact wpAny_bind (wpAny_rule (wpAny_pure (hR true _ (gz.fs _ _ _ hb (h2 (by decide))))))
    · exact wpAny_bind (wpAny_rule (wpAny_pure (hR false _ (gz.fh _ _ _ (gz.fs _ _ .finished rfl hf) hkp))))
end
/-! ### the generator's own run -/
section
variable {Y : Cx} {A2 : Around} {tg elt iter : Expr} {scope : Scope} {pos : Pos} {it a : Addr} {fp : List Addr} {tn : Nat → Heap → Prop} {J : It} {g : Nat} {gt : TG} {te : TE} {vs : List Nat} {σ : L2.St} {W : Nat → Nat → Hp → Prop} {Q : Bool → Hp → Prop} {cont : Bool}
/-- ahead of a turn -/
def GW (Y : Cx) (fp : List Addr) (tn : Nat → Heap → Prop) (σ : L2.St) (W : Nat → Nat → Hp → Prop) (g : Nat) (k : Nat) (s : Shared) : Prop :=
  g < s.gens.size ∧ ∃ i m H, m < k ∧ Inv Y [] σ H s ∧ tn i s.heap ∧ (∀ b ∈ fp, H b = none) ∧ W i m H
def GF (Y : Cx) (Q : Bool → Hp → Prop) (b : Bool) (s : Shared) : Prop := ∃ σ H, Inv Y [] σ H s ∧ Q b H
theorem inv_gens {pins : List (Addr × Obj)} {H : Hp} {s : Shared} {g' : Array GenState} (I : Inv Y pins σ H s) (h : AllBare g') : Inv Y pins σ H { s with gens := g' } :=
  ⟨I.ok, I.os, h, I.base, I.loc, I.cell, I.free, I.freeC, I.pin, I.hok, I.len⟩
theorem gz_of {o : Obj} (hp : (a, o) ∈ Y.pn) (ho : ∀ h : Heap, h.get? a = some o → h.IsGen a g) : GZ (GW Y fp tn σ W g) (GF Y Q) a g where
  zs := fun k s x hx ⟨h1, i, m, H, h2, h3, h4⟩ => ⟨by rw [GenW.setGen_size]; exact h1, i, m, H, h2, inv_gens (g' := (s.setGen g x).gens) h3 (allBare_setGen h3.bare hx), h4⟩
  zi := fun k s ⟨h1, i, m, H, h2, h3, h4⟩ => ⟨ho _ (h3.pin _ (List.mem_append_left _ hp)).1, h3.nolimit, Nat.lt_of_le_of_lt (Nat.zero_le _) h2⟩
  fs := fun b s x hx ⟨σ, H, h3, h4⟩ => ⟨σ, H, inv_gens (g' := (s.setGen g x).gens) h3 (allBare_setGen h3.bare hx), h4⟩
  fh := fun b s h' ⟨σ, H, h3, h4⟩ hk => ⟨σ, H, h3.kept (t' := s.toks) hk, h4⟩
theorem seg_gl (hc : Y.calm = true) (hA : Y.A = A2.deeper Y.env) (hxe : Y.xe = fun _ _ => False) (hco : Y.env.scope.isCoroutine = false) (T : Turn Y.prog Y.w Y.K tg J fp it tn) (hfp : ∀ b ∈ fp, ∀ H : Hp, H b = none → FpOk Y [] H b) (pg : PG Y tg gt) (pe : PE Y elt te)
    (turn : ∀ i m H, W i m H → (J.stop i H ∧ Q cont H) ∨ (J.go i H ∧ ∃ Nx : Hp → Prop, (∀ H', Nx H' → ∃ m', m' < m ∧ W (i + 1) m' H') ∧ ∀ x H', J.yld i H x H' → gt x (wipe σ vs) H' fun σ2 H2 => wipe σ2 vs = wipe σ vs ∧ te σ2 H2 fun y H3 => ∃ b, y = .bl b ∧ (b = cont → Nx H3) ∧ (b ≠ cont → Q b H3))) :
    ∀ (n : Nat) (s₀ s : Shared), GW Y fp tn (wipe σ vs) W g n s → Seg (model Y.prog Y.w) A2 (gyR (GF Y Q) cont) (gyP (GW Y fp tn (wipe σ vs) W g) (GF Y Q) g cont) n s₀
      (.compLoop (.GeneratorExp elt [⟨tg, iter, [], 0⟩] scope pos) 0 (.ref it) .none Y.env)
      ((model Y.prog Y.w).den (.compLoop (.GeneratorExp elt [⟨tg, iter, [], 0⟩] scope pos) 0 (.ref it) .none Y.env)) [] s := by
  have ov : A2.over (.compLoop (.GeneratorExp elt [⟨tg, iter, [], 0⟩] scope pos) 0 (.ref it) .none Y.env) [] = Y.A := by
    rw [hA]
    rfl
  intro n
  induction n with
  | zero => exact fun s₀ s ⟨_, i, m, H, h2, _⟩ => absurd h2 (Nat.not_lt_zero _)
  | succ n ih =>
    intro s₀ s ⟨hsz, i, m, H, hm, I, st, fr, w⟩
    show Seg _ A2 _ _ _ s₀ _ ((compTurn (.GeneratorExp elt [⟨tg, iter, [], 0⟩] scope pos) 0 (.ref it) .none Y.env).onRaise (leaving Y.env)) [] s
    rw [compTurn_gen, Sem.onRaise_eq_wrap]
    refine seg_bind_wrap (wpAny_standAt ?_)
    rcases turn i m H w with ⟨stop, q⟩ | ⟨go, Nx, hNx, step⟩
    · refine seg_bind_wrap ?_
      rw [ov]
      refine thn (T.done Y rfl rfl rfl hc i [] s _ H _ I (fun b hb => hfp b hb H (fr b hb)) st stop) fun r s1 ⟨hr, I1⟩ => ?_
      subst hr
      exact seg_end (.ok .next) (.inl ⟨.inr rfl, _, H, I1, q⟩)
    · refine seg_bind_wrap ?_
      rw [ov]
      refine GenW.wpAny_gsz (n := g + 1) hsz (thn (T.item Y rfl rfl rfl hc i [] s _ H _ I (fun b hb => hfp b hb H (fr b hb)) st go) fun r s1 ⟨u, hr, h1⟩ hsz1 => ?_)
      subst hr
      refine seg_bind_wrap ?_
      rw [ov]
      refine GenW.wpAny_gsz (n := g + 1) hsz1 (thn h1 fun _ s2 ⟨x, H2, I2, r2, y2, st2, n2⟩ hsz2 => ?_)
      have I2' := I2.pinned (fun b hb => hfp b hb H2 (n2 b hb)) (T.obj _ _ st2)
      refine seg_bind_wrap ?_
      rw [ov]
      have pgr := pg.run _ s2 _ H2 x u _ I2' r2 (step x H2 y2)
      rw [hxe] at pgr
      refine GenW.wpAny_gsz (n := g + 1) hsz2 (thnF pgr fun _ s3 ⟨σ3, H3, I3, hw3, q3⟩ hsz3 => ?_)
      refine seg_bind_wrap (wpAny_tests_nil ?_)
      simp only [if_true]
      have hy : ∀ v, yieldOut Y.env v = yieldValue v := fun v => by simp only [yieldOut, hco, Bool.false_eq_true, if_false]
      simp only [hy]
      rw [Sem.bind_eq_wrap', Sem.bind_eq_wrap', Sem.wrap_wrap, Sem.wrap_wrap]
      refine seg_wrap ?_
      rw [ov]
      have per := pe.run _ s3 σ3 H3 _ I3 q3
      rw [hxe] at per
      refine GenW.wpAny_gsz (n := g + 1) hsz3 (thnF per fun v s4 ⟨yv, H4, I4, r4, b, ey, hb1, hb2⟩ hsz4 => ?_)
      subst ey
      cases (show v = Value.bool b from r4)
      have pin' : ∀ b ∈ fp, ∀ o, s2.heap.get? b = some o → s4.heap.get? b = some o ∧ H4 b = none := fun b hb o e =>
        let z := I4.pin (b, o) (List.mem_append_right _ (List.mem_append_right _ (mem_pinsAt hb e)))
        ⟨z.1, z.2.1⟩
      have hl : (wipe σ vs).length = σ3.length := by rw [← hw3, wipe_length]
      have I5 : Inv Y [] (wipe σ vs) H4 s4 := (I4.unpinned (pins := [])).weak hl fun j v e => by
        rw [← hw3] at e
        exact (wipe_some e).1
      refine seg_at (seg_yield rfl rfl rfl ⟨hsz4, b, rfl, fun hb => ?_, fun hb => ⟨_, H4, I5, hb2 hb⟩⟩)
      obtain ⟨m', hm', w'⟩ := hNx H4 (hb1 hb)
      exact ⟨⟨hsz4, i + 1, m', H4, by omega, I5, T.keep _ _ _ st2 fun b hb o e => (pin' b hb o e).1, fun b hb => by
        obtain ⟨o, e, _⟩ := T.obj _ _ st2 b hb
        exact (pin' b hb o e).2, w'⟩, fun s'' hs'' => seg_again rfl (ih s'' s'' hs'')⟩
theorem seg_gs (hc : Y.calm = true) (hA : Y.A = A2.deeper Y.env) (hxe : Y.xe = fun _ _ => False) (hco : Y.env.scope.isCoroutine = false) (T : Turn Y.prog Y.w Y.K tg J fp it tn) (hfp : ∀ b ∈ fp, ∀ H : Hp, H b = none → FpOk Y [] H b) (pg : PG Y tg gt) (pe : PE Y elt te)
    (turn : ∀ i m H, W i m H → (J.stop i H ∧ Q cont H) ∨ (J.go i H ∧ ∃ Nx : Hp → Prop, (∀ H', Nx H' → ∃ m', m' < m ∧ W (i + 1) m' H') ∧ ∀ x H', J.yld i H x H' → gt x (wipe σ vs) H' fun σ2 H2 => wipe σ2 vs = wipe σ vs ∧ te σ2 H2 fun y H3 => ∃ b, y = .bl b ∧ (b = cont → Nx H3) ∧ (b ≠ cont → Q b H3)))
    (n : Nat) (s₀ s : Shared) (z : GW Y fp tn (wipe σ vs) W g n s) : Seg (model Y.prog Y.w) A2 (gyR (GF Y Q) cont) (gyP (GW Y fp tn (wipe σ vs) W g) (GF Y Q) g cont) n s₀
      (.compStart (.GeneratorExp elt [⟨tg, iter, [], 0⟩] scope pos) 0 (.ref it) .none Y.env)
      ((model Y.prog Y.w).den (.compStart (.GeneratorExp elt [⟨tg, iter, [], 0⟩] scope pos) 0 (.ref it) .none Y.env)) [] s := by
  have loop := seg_gl (iter := iter) (scope := scope) (pos := pos) hc hA hxe hco T hfp pg pe turn n s₀ s z
  obtain ⟨_, i, _, _, _, _, st, _⟩ := z
  show Seg _ A2 _ _ _ s₀ _ ((compStart (.GeneratorExp elt [⟨tg, iter, [], 0⟩] scope pos) 0 (.ref it) .none Y.env).onRaise (leaving Y.env)) [] s
  unfold compStart
  rw [Sem.onRaise_eq_wrap]
  show Seg _ A2 _ _ _ s₀ _ ((ask >>= _).wrap _ _ _ _) [] s
  refine seg_bind_wrap (wpAny_askSetting ?_)
  split
  · exact seg_again rfl loop
  · first
      | exact seg_bind_wrap (wpAny_rule (seg_bind_wrap (wpAny_standAt (seg_bind_wrap (T.self _ i s _ _ st (seg_again rfl loop))))))
      | (refine seg_bind_wrap (wpAny_rule ?_); show Seg _ A2 _ _ _ s₀ _ ((standAt iter.pos >>= _).wrap _ _ _ _) [] s; exact seg_bind_wrap (wpAny_standAt (seg_bind_wrap (T.self _ i s _ _ st (seg_again rfl loop)))))
end
/-! ### any(..), all(..) -/
/-- what a walked generator expression asks for: D, the table's def -/
def tGen (P : Addr) (cont : Bool) (wi : TI) (g : TG) (te : TE) (vs : List Nat) : TE := fun σ H Q => wi σ H fun J H1 => TabG H1 P ∧ ∀ H2, Tabbed P H1 H2 → ∃ W : Nat → Nat → Hp → Prop, (∃ m, W 0 m H2) ∧ ∀ i m H, W i m H →
  (J.stop i H ∧ Q (.bl cont) H) ∨ (J.go i H ∧ ∃ Nx : Hp → Prop, (∀ H', Nx H' → ∃ m', m' < m ∧ W (i + 1) m' H') ∧ ∀ x H', J.yld i H x H' → g x (wipe σ vs) H' fun σ2 H2 => wipe σ2 vs = wipe σ vs ∧ te σ2 H2 fun y H3 => ∃ b, y = .bl b ∧ (b = cont → Nx H3) ∧ (b ≠ cont → Q (.bl b) H3))
/-- a generator that is ready to be walked -/
def Made (X : Cx) (pins : List (Addr × Obj)) (σ : L2.St) (cont : Bool) (Q : VK) (v : Value) (s : Shared) : Prop :=
  ∃ (a : Addr) (g : Nat) (Z : Nat → Shared → Prop) (Fi : Bool → Shared → Prop) (n : Nat) (gs : GenState), v = .ref a ∧ GZ Z Fi a g ∧ (∀ b s, Fi b s → ∃ H, Inv X pins σ H s ∧ Q (.bl b) H) ∧ s.gens[g]? = some gs ∧ Z n s ∧
    ∀ s'', Z n s'' → gs.Goes (model X.prog X.w) X.A.in1.in1 (gyR Fi cont) (gyP Z Fi g cont) n (.send .none) s''
section
variable {X : Cx} {pins : List (Addr × Obj)} {σ : L2.St} {H : Hp} {s : Shared} {c P : Addr} {elt iter tg : Expr} {p pos gpos : Pos} {scope : Scope} {own : List (Str × Nat)} {wi : TI} {g : TG} {te : TE} {k : Nat} {cont : Bool}
/-- the contexts of the block -/
abbrev GenB (X : Cx) (scope : Scope) (f : Cx → Prop) : Prop := ∀ (s : Shared) (H : Hp) (cl : List (Str × Addr)) (C : Addr) (code : Value) (fp : List Addr) (pn : List (Addr × Obj)), f (gcx X s H (genEnv scope cl C code builtinsNs X.env) fp pn)
theorem gen_made {Q : VK} {Q' : Value → Shared → Prop} (hr : Room k X.A) (hc : X.calm = true) (hN : X.N.Nodup) (TB : TabB X.base X.mg c P) (hcode : X.env.code = .ref c) (ok : GBlk X.N X.env.scope scope own) (hi : PI X tg iter wi)
    (hg : GenB X scope fun Y => PG Y tg g) (he : GenB X scope fun Y => PE Y elt te) (hs : ∀ v, genFold iter X.env v = pure v) (I : Inv X pins σ H s) (h : tGen P cont wi g te (own.map (·.2)) σ H Q)
    (hQ : ∀ v s', Made X pins σ cont Q v s' → Q' v s') : wpAny (model X.prog X.w) X.A (eval (.GeneratorExp elt [⟨tg, iter, [], 0⟩] scope gpos) X.env) Q' X.xe s := by
  have hfree : ∀ y ∈ scope.names, y.2 = .free → ∃ c, X.env.cells.lookup y.1 = some c := fun y hy e => by
    rcases ok.blk.free y hy e with k | k
    · exact I.ok.has _ (.inl k)
    · exact I.ok.has _ (.inr k)
  refine wpAny_GeneratorExp_make ok.co (closure_ok hfree) ok.cell ok.dot ok.blk.kind (by have := hr.dp; omega) ?_ hs
  refine thn (hi.run pins s σ H _ I h) fun xv s1 hx => thn hx fun itv s2 h2 => ?_
  obtain ⟨it, fp, tn, J, H2, e, I2, T, st2, f2, ⟨ps, hP, ht⟩, q⟩ := h2
  subst e
  have hPs : s2.heap.get? P = some { cls := .none, data := .fields ps } := I2.hok P _ hP
  have cd : PySem.W.CodeHd s2.heap c P := TB.code.keeps fun b u e => I2.bk b u e
  refine ⟨I2.nolimit, ?_⟩
  -- behind the table's growth
  have cont' : ∀ (code : Value) (s3 : Shared) (H3 : Hp), Tabbed P H2 H3 → Inv X pins σ H3 s3 → (∀ b u, b ≠ P → s2.heap.get? b = some u → s3.heap.get? b = some u) →
      wpAny (model X.prog X.w) X.A (builtinsFor X.env.globals X.env.builtins) (fun bi s₄ =>
        ∀ h', h'.Ns s₄.heap.objs.size (fun y => if y = ".0" then some (Value.ref it) else none) → Heap.SameBut s₄.heap.objs.size (s₄.heap.push { cls := .type "frame", data := .dict #[] }) h' →
          Q' (.ref h'.objs.size) { s₄ with
            gens := s₄.gens.push (.fresh (.compStart (.GeneratorExp elt [⟨tg, iter, [], 0⟩] scope gpos) 0 (.ref it) .none (genEnv scope (cloFrom X.env.cells scope.names []) s₄.heap.objs.size code bi X.env))),
            toks := s₄.toks + 1 + 1 + 1,
            heap := h'.push { cls := .type "generator", data := .fields #[.int s₄.gens.size 0, .str "<genexpr>" (s₄.toks + 1), .str (X.env.qual ++ "<genexpr>") (s₄.toks + 1 + 1)] } }) X.xe s3 := by
    intro code s3 H3 hT I3 kp3
    obtain ⟨bm, ob, e1, e2, e3, e4, e5, e6, e7, e8⟩ := TB.bm
    refine wpAny_builtinsFor (m := X.mg) (by rw [I3.ok.glob]; exact I3.mod.glob.keeps I3.bk) e1 e2 (I3.bk _ _ e5) e6 e7 e8 ?_
    intro h' hn' hs'
    have hsz : h'.objs.size = s3.heap.objs.size + 1 := by rw [hs'.1, Heap.size_push]
    have keep' : ∀ b o, s3.heap.get? b = some o → h'.get? b = some o := fun b o e => hs'.extBut b o (Nat.ne_of_lt (Heap.lt_size e)) (Heap.get?_push_of_some _ e)
    generalize hob : ({ cls := .type "generator", data := .fields #[.int s3.gens.size 0, .str "<genexpr>" (s3.toks + 1), .str (X.env.qual ++ "<genexpr>") (s3.toks + 1 + 1)] } : Obj) = ob
    have nP : ∀ b ∈ fp, b ≠ P := fun b hb z => by
      have z2 := (f2 b hb).1
      rw [z, hP] at z2
      cases z2
    have sz2 : ∀ b ∈ fp, b < s2.heap.objs.size := fun b hb => by
      obtain ⟨o, e, _⟩ := T.obj _ _ st2 b hb
      exact Heap.lt_size e
    have hle : ∀ b ∈ fp, b < s3.heap.objs.size := fun b hb => by
      obtain ⟨o, e, _⟩ := T.obj _ _ st2 b hb
      exact Heap.lt_size (kp3 b o (nP b hb) e)
    have f3 : ∀ b ∈ fp, FpOk X pins H3 b ∧ b < s3.heap.objs.size := fun b hb => ⟨⟨by rw [hT.2 b (nP b hb)]; exact (f2 b hb).1, (f2 b hb).2⟩, hle b hb⟩
    have kp5 : ∀ b o, s3.heap.get? b = some o → (h'.push ob).get? b = some o := fun b o e => Heap.get?_push_of_some _ (keep' b o e)
    have hobf : ob.isFreed = false := by rw [← hob]; rfl
    have hob5 : (h'.push ob).get? h'.objs.size = some ob := Heap.get?_push_size _ hobf
    generalize hgs : (GenState.fresh (.compStart (.GeneratorExp elt [⟨tg, iter, [], 0⟩] scope gpos) 0 (.ref it) .none (genEnv scope (cloFrom X.env.cells scope.names []) s3.heap.objs.size code builtinsNs X.env))) = gs
    have I5 := gen_start (code := code) (h5 := h'.push ob) (gs := gs) (a := h'.objs.size) (ob := ob) (tk := s3.toks + 1 + 1 + 1) hc I3 ok hN f3 (hn'.push _) kp5 (by rw [hsz]; exact Nat.lt_succ_self _) hob5 (fun v z => by rw [← hob] at z; cases z) (by rw [← hgs]; rfl)
    generalize hY : gcx X s3 H3 (genEnv scope (cloFrom X.env.cells scope.names []) s3.heap.objs.size code builtinsNs X.env) fp [(h'.objs.size, ob)] = Y at I5
    obtain ⟨W, ⟨m0, w0⟩, turn⟩ := q H3 hT
    refine hQ _ _ ⟨h'.objs.size, s3.gens.size, GW Y fp tn (wipe σ (own.map (·.2))) W s3.gens.size, GF Y (fun b H => Q (.bl b) H), m0 + 1, gs, rfl, ?_, ?_, Array.getElem?_push_size .., ?_, ?_⟩
    · refine gz_of (o := ob) (by rw [← hY]; simp) fun h hh => ?_
      rw [← hob] at hh
      exact ⟨_, _, _, hh, rfl, rfl, rfl⟩
    · rintro b s6 ⟨σ6, H6, I6, q6⟩
      refine ⟨H6, ?_, q6⟩
      rw [← hY] at I6
      exact I3.call' (ch := fp) I6.os I6.base I6.hok I6.bare fun b hb => ⟨(f3 b hb).1.2.2.2.1, (f3 b hb).1.2.1, (f3 b hb).1.2.2.2.2.1, (f3 b hb).1.2.2.2.2.2⟩
    · refine ⟨by show s3.gens.size < (s3.gens.push gs).size; rw [Array.size_push]; exact Nat.lt_succ_self _, 0, m0, H3, Nat.lt_succ_self _, I5, T.keep _ _ _ st2 fun b hb o e => kp5 b o (kp3 b o (nP b hb) e), fun b hb => (f3 b hb).1.1, w0⟩
    · intro s'' z
      rw [← hgs]
      refine ⟨rfl, ?_⟩
      have pg := hg s3 H3 (cloFrom X.env.cells scope.names []) s3.heap.objs.size code fp [(h'.objs.size, ob)]
      have pe := he s3 H3 (cloFrom X.env.cells scope.names []) s3.heap.objs.size code fp [(h'.objs.size, ob)]
      subst hY
      exact seg_gs (Y := gcx X s3 H3 (genEnv scope (cloFrom X.env.cells scope.names []) s3.heap.objs.size code builtinsNs X.env) fp [(h'.objs.size, ob)]) (A2 := X.A.in1.in1) (J := J) (vs := own.map (·.2)) (Q := fun b H => Q (.bl b) H) (cont := cont) hc rfl rfl ok.co T (fun b hb H hn => by
        refine ⟨hn, Nat.ne_of_lt (hle b hb), fun z => ?_, .inl hb, fun x c e z => ?_, fun p hp z => ?_⟩
        · rcases List.mem_cons.mp (I3.stkSub b z) with z | z
          · exact (f3 b hb).1.2.1 z
          · exact (f3 b hb).1.2.2.1 z
        · exact (I5.ok.exf b hb).2 x c e z
        · have e : p = (h'.objs.size, ob) := by simpa using hp
          subst e
          have q1 : h'.objs.size = b := z
          have q2 := hle b hb
          rw [← q1, hsz] at q2
          exact absurd q2 (Nat.not_lt.mpr (Nat.le_succ _))) pg pe turn _ s'' s'' z
  cases hf : codeAmong gpos ps.toList with
  | none =>
    refine wpAny_genexprCodeX hcode (cd.code hPs ht) (cd.tab hPs) hf fun c' h' tk hx hge hlt hco' _ htab' _ => ?_
    obtain ⟨o1, vs, f1, tf, fl, tg, inF, tx, tt, op, _, _, _, _, _, _, _, _, _, htr, _⟩ := hco'
    refine cont' _ _ (upd H2 P (.tbl (ps ++ #[rawInt gpos.line, rawInt gpos.col, .ref c']))) ⟨⟨_, upd_same, htr⟩, fun b hb => upd_ne hb⟩ (inv_tab (h' := h') (t' := tk) I2 hP hx htab'.2 I2.bare) hx
  | some cv =>
    refine wpAny_genexprCode_hit hcode (cd.code hPs ht) hf ?_
    exact cont' cv s2 H2 ⟨⟨ps, hP, ht⟩, fun _ _ => rfl⟩ I2 fun _ _ _ e => e
theorem pe_allG (hr : Room k X.A) (hc : X.calm = true) (hN : X.N.Nodup) (hgl : Gl X "all") (hm : X.mg "all" = none) (TB : TabB X.base X.mg c P) (hcode : X.env.code = .ref c) (ok : GBlk X.N X.env.scope scope own) (hi : PI X tg iter wi)
    (hg : GenB X scope fun Y => PG Y tg g) (he : GenB X scope fun Y => PE Y elt te) (hs : ∀ v, genFold iter X.env v = pure v)
    (hst : starEach [.GeneratorExp elt [⟨tg, iter, [], 0⟩] scope gpos] X.env = (false, eval (.GeneratorExp elt [⟨tg, iter, [], 0⟩] scope gpos) X.env) :: starEach [] X.env := by rfl) :
    PE X (.Call (.Name "all" p) [.GeneratorExp elt [⟨tg, iter, [], 0⟩] scope gpos] [] pos) (tGen P true wi g te (own.map (·.2))) := by
  refine ⟨fun pins s σ H Q I h => ?_⟩
  refine wpAny_Call_Name_kw (ld_blt I hgl hm (show bootBuiltins "all" = some (.builtin "all") by decide +kernel) ?_)
  refine PyProof.Rows.callWith_builtin1 ?_ hst (by rfl)
  rw [hst]
  show wpAny _ _ (spliced ((false, eval (.GeneratorExp elt [⟨tg, iter, [], 0⟩] scope gpos) X.env) :: backTo pos (starEach [] X.env))) _ _ s
  refine Calls.spliced_cons (gen_made hr hc hN TB hcode ok hi hg he hs I h fun v s1 ⟨a, g, Z, Fi, n, gs, ev, gz, hfi, hgs, hz, hgo⟩ => ?_)
  subst ev
  refine Calls.spliced_nil ?_
  refine call_function_tree F.kind_all F.plain_all F.entry_all (F.args_all1 _) ?_
  unfold Builtin.«all»
  refine wpAny_bind (m := oneArg "all" _) (wpAny_pure ?_)
  refine wpAny_bind (wpAny_pyIter_gen (gz.zi _ _ hz).1 ?_)
  refine wpAny_pure ⟨plainId_quiet F.plain_all_loop _, all_loopG gz hr.hd (by have := hr.dp; show X.A.depth < recursionLimit; omega) (fun b s2 hf => ?_) n s1 gs hgs hz hgo⟩
  obtain ⟨H2, I2, q2⟩ := hfi b s2 hf
  exact ⟨.bl b, H2, I2, rfl, q2⟩
theorem pe_anyG (hr : Room k X.A) (hc : X.calm = true) (hN : X.N.Nodup) (hgl : Gl X "any") (hm : X.mg "any" = none) (TB : TabB X.base X.mg c P) (hcode : X.env.code = .ref c) (ok : GBlk X.N X.env.scope scope own) (hi : PI X tg iter wi)
    (hg : GenB X scope fun Y => PG Y tg g) (he : GenB X scope fun Y => PE Y elt te) (hs : ∀ v, genFold iter X.env v = pure v)
    (hst : starEach [.GeneratorExp elt [⟨tg, iter, [], 0⟩] scope gpos] X.env = (false, eval (.GeneratorExp elt [⟨tg, iter, [], 0⟩] scope gpos) X.env) :: starEach [] X.env := by rfl) :
    PE X (.Call (.Name "any" p) [.GeneratorExp elt [⟨tg, iter, [], 0⟩] scope gpos] [] pos) (tGen P false wi g te (own.map (·.2))) := by
  refine ⟨fun pins s σ H Q I h => ?_⟩
  refine wpAny_Call_Name_kw (ld_blt I hgl hm (show bootBuiltins "any" = some (.builtin "any") by decide +kernel) ?_)
  refine PyProof.Rows.callWith_builtin1 ?_ hst (by rfl)
  rw [hst]
  show wpAny _ _ (spliced ((false, eval (.GeneratorExp elt [⟨tg, iter, [], 0⟩] scope gpos) X.env) :: backTo pos (starEach [] X.env))) _ _ s
  refine Calls.spliced_cons (gen_made hr hc hN TB hcode ok hi hg he hs I h fun v s1 ⟨a, g, Z, Fi, n, gs, ev, gz, hfi, hgs, hz, hgo⟩ => ?_)
  subst ev
  refine Calls.spliced_nil ?_
  refine call_function_tree F.kind_any F.plain_any F.entry_any (F.args_any1 _) ?_
  unfold Builtin.«any»
  refine wpAny_bind (m := oneArg "any" _) (wpAny_pure ?_)
  refine wpAny_bind (wpAny_pyIter_gen (gz.zi _ _ hz).1 ?_)
  refine wpAny_pure ⟨plainId_quiet F.plain_any_loop _, any_loopG gz hr.hd (by have := hr.dp; show X.A.depth < recursionLimit; omega) (fun b s2 hf => ?_) n s1 gs hgs hz hgo⟩
  obtain ⟨H2, I2, q2⟩ := hfi b s2 hf
  exact ⟨.bl b, H2, I2, rfl, q2⟩
end
end Mn
/-! Layer K: any/all over abstract states; a dict comprehension whose keys are tuples; a property. -/
namespace Mn
open PySem PySem.Spec PyProof.Rows L2 GxR
/-! ### any, all -/
def aGen (cont : Bool) (w : AI) (t : Tg) (te : AE) (vs : List Nat) : AE := fun env L post => w env L fun items kp L1 => ∃ J : Nat → List Cell → Prop, J 0 L1 ∧
  (∀ i d L, items[i]? = some d → J i L → kp L ∧ ∃ env', bindT t d (wipeE env vs) = some env' ∧ te env' L fun y L2 => ∃ b, y = .dat (.bool b) ∧ (b = cont → J (i + 1) L2) ∧ (b ≠ cont → post (.dat (.bool b)) L2)) ∧
  ∀ L, J items.length L → kp L ∧ post (.dat (.bool cont)) L
theorem wipe_wipe {us vs : List Nat} : ∀ {σ : L2.St}, (∀ i ∈ us, i ∈ vs) → wipe (wipe σ us) vs = wipe σ vs := fun {σ} => by
  induction us with
  | nil => intro _; rfl
  | cons u us ih =>
    intro hsub
    show wipe ((wipe σ us).set u none) vs = wipe σ vs
    rw [wipe_set (hsub u (by simp)), ih fun i hi => hsub i (by simp [hi])]
section
variable {K : PySem.W.Frag} {G : Gp}
theorem gen_gen {P : Addr} {cont : Bool} {w : AI} {t : Tg} {te : AE} {vs : List Nat} (hP : P ∈ G.T) (hv : ∀ i ∈ slT t, i ∈ vs) : ∀ σ H Q, cE K G (aGen cont w t te vs) σ H Q → tGen P cont (cI K G w) (gT K t) (cE K G te) vs σ H Q := fun σ H Q ⟨Hs, F, env, L, post, hs, hh, ha, hf⟩ =>
  ⟨Hs, F, env, L, _, hs, hh, ha, fun It items kp Hs1 H1 L1 ⟨J, j0, js, jd⟩ e1 hh1 ok => by
    refine ⟨(hh1.tb P hP).1, fun H2 hT => ?_⟩
    have hh2 := hh1.tabbed hP hT
    have hw := sr_wipe (sr_same e1 hs) vs
    refine ⟨fun i m H => m = items.length - i ∧ i ≤ items.length ∧ ∃ Hs2 L, Same Hs1 Hs2 ∧ Holds K G Hs2 (L ++ F) H ∧ J i L, ⟨_, rfl, Nat.zero_le _, Hs1, L1, Same.refl _, hh2, j0⟩, ?_⟩
    rintro i m H3 ⟨rfl, hi, Hs3, L3, e3, hh3, jj⟩
    by_cases hlt : i < items.length
    · obtain ⟨hk, env', hb, hbody⟩ := js i items[i] L3 (by simp [hlt]) jj
      obtain ⟨hgo, hyld⟩ := (ok F i Hs3 H3 L3 e3 hh3 hk).1 items[i] (by simp [hlt])
      refine .inr ⟨hgo, fun H => ∃ Hs4 L, Same Hs1 Hs4 ∧ Holds K G Hs4 (L ++ F) H ∧ J (i + 1) L, fun H' ⟨Hs4, L4, a1, a2, a3⟩ => ⟨items.length - (i + 1), by omega, rfl, hlt, Hs4, L4, a1, a2, a3⟩, fun x H' hy => ?_⟩
      obtain ⟨Hs4, e4, hh4, hd⟩ := hyld x H' hy
      obtain ⟨σ', k1, k2, k3⟩ := gT_run hd (sr_same (e3.trans e4) hw) hb hh4.st
      refine k2 _ ⟨by rw [k3 vs hv, wipe_wipe fun _ h => h], Hs4, F, env', L3, _, k1, hh4, hbody, fun y Hs5 H5 ey L5 ⟨b, eb, h1, h2⟩ e5 hh5 r5 => ?_⟩
      subst eb
      have ey := vr_bl r5
      subst ey
      exact ⟨b, rfl, fun z => ⟨Hs5, L5, (e3.trans e4).trans e5, hh5, h1 z⟩, fun z => hf _ Hs5 H5 _ L5 (h2 z) (((e1.trans e3).trans e4).trans e5) hh5 (.bl b)⟩
    · have ei : i = items.length := by omega
      subst ei
      obtain ⟨hk, hnx⟩ := jd L3 jj
      exact .inl ⟨(ok F _ Hs3 H3 L3 e3 hh3 hk).2 (Nat.le_refl _), hf _ Hs3 H3 _ L3 hnx (e1.trans e3) hh3 (.bl _)⟩⟩
end
section
variable {G : Gp} {X : Cx} {c P : Addr} {elt iter tg : Expr} {p pos gpos : Pos} {scope : Scope} {own : List (Str × Nat)} {w : AI} {t : Tg} {te : AE} {k : Nat}
theorem d_all (hr : Room k X.A) (hc : X.calm = true) (hN : X.N.Nodup) (hgl : Gl X "all") (hm : X.mg "all" = none) (hP : P ∈ G.T) (TB : TabB X.base X.mg c P) (hcode : X.env.code = .ref c) (ok : GBlk X.N X.env.scope scope own) (hv : ∀ i ∈ slT t, i ∈ own.map (·.2)) (hi : DI G X tg iter w)
    (hg : GenB X scope fun Y => DTg Y tg t) (he : GenB X scope fun Y => DE G Y elt te) (hs : ∀ v, genFold iter X.env v = pure v := by intro _; rfl)
    (hst : starEach [.GeneratorExp elt [⟨tg, iter, [], 0⟩] scope gpos] X.env = (false, eval (.GeneratorExp elt [⟨tg, iter, [], 0⟩] scope gpos) X.env) :: starEach [] X.env := by rfl) :
    DE G X (.Call (.Name "all" p) [.GeneratorExp elt [⟨tg, iter, [], 0⟩] scope gpos] [] pos) (aGen true w t te (own.map (·.2))) := pe_imp (pe_allG hr hc hN hgl hm TB hcode ok hi hg he hs hst) (gen_gen hP hv)
theorem d_any (hr : Room k X.A) (hc : X.calm = true) (hN : X.N.Nodup) (hgl : Gl X "any") (hm : X.mg "any" = none) (hP : P ∈ G.T) (TB : TabB X.base X.mg c P) (hcode : X.env.code = .ref c) (ok : GBlk X.N X.env.scope scope own) (hv : ∀ i ∈ slT t, i ∈ own.map (·.2)) (hi : DI G X tg iter w)
    (hg : GenB X scope fun Y => DTg Y tg t) (he : GenB X scope fun Y => DE G Y elt te) (hs : ∀ v, genFold iter X.env v = pure v := by intro _; rfl)
    (hst : starEach [.GeneratorExp elt [⟨tg, iter, [], 0⟩] scope gpos] X.env = (false, eval (.GeneratorExp elt [⟨tg, iter, [], 0⟩] scope gpos) X.env) :: starEach [] X.env := by rfl) :
    DE G X (.Call (.Name "any" p) [.GeneratorExp elt [⟨tg, iter, [], 0⟩] scope gpos] [] pos) (aGen false w t te (own.map (·.2))) := pe_imp (pe_anyG hr hc hN hgl hm TB hcode ok hi hg he hs hst) (gen_gen hP hv)
end
/-! ### {key: value for ..}, the keys tuples of ints -/
section
variable {X : Cx} {pins : List (Addr × Obj)} {σ : L2.St} {H : Hp} {s : Shared}
theorem set_T {E : Value → Shared → Prop} {D b : Addr} {kvs : List (List L2.Key × V)} {k : List L2.Key} {v : V} {u r : Value} {Q : Unit → Shared → Prop} (hu : X.A.units + 1 < cLine) (I : Inv X pins σ H s) (hD : H D = some (.dT kvs)) (hz : kvs.length < sizeLine)
    (eb : H b = some (.tup (k.map kV))) (ry : RelV (.ref b) u) (rv : RelV v r) (h : ∀ s', Inv X pins σ (upd H D (.dT (putK kvs k v))) s' → Q () s') : wpAny (model X.prog X.w) X.A (dictSet D u r) Q E s := by
  cases (show u = Value.ref b from ry)
  obtain ⟨z, hd, xs, rel, dd⟩ := dt_of I.hok hD
  have hzx : xs.length ≤ sizeLine := by rw [← Paired.length rel]; exact z
  have hl : (putK kvs k v).length ≤ sizeLine := by have := length_putK kvs k v; omega
  refine wpAny_dictSet_heap (hsz := hzx) (knd := tupleKind (mixKind X.prog X.w)) (show X.A.units < cLine from Nat.lt_of_succ_lt hu) (key_of I.hok eb) dd fun h' dd' hs => h _ ?_
  obtain ⟨q, es, ep, hq, h2, h3, h4, _, h5⟩ := dd'
  refine d_write I (by rw [hD]; exact True.intro) hs ⟨q, hq⟩ ⟨hl, hd, _, (rel.put k eb rv).keeps fun c ys ec => ?_, q, es, ep, hq, h2, h3, h4, h5⟩
  rw [upd_ne (ne_of ec hD (fun z => nomatch z))]
  exact ec
/-- what such a comprehension asks for -/
def tDcT (wi : TI) (g : TG) (tk tv : TE) (vs : List Nat) : TE := fun σ H Q => wi σ H fun J H1 => ∀ D, H1 D = none → ∃ W : Nat → Nat → Hp → Prop, (∃ m, W 0 m (upd H1 D (.dT []))) ∧ ∀ i m H, W i m H →
  (J.stop i H ∧ Q (.ref D) H) ∨ (J.go i H ∧ ∃ Nx : Hp → Prop, (∀ H', Nx H' → ∃ m', m' < m ∧ W (i + 1) m' H') ∧ ∀ x H', J.yld i H x H' → g x (wipe σ vs) H' fun σ2 H2 => wipe σ2 vs = wipe σ vs ∧
    tk σ2 H2 fun y H4 => tv σ2 H4 fun z H5 => ∃ (kvs : List (List L2.Key × V)) (k : List L2.Key) (b : Addr), y = .ref b ∧ H5 b = some (.tup (k.map kV)) ∧ H5 D = some (.dT kvs) ∧ kvs.length < sizeLine ∧ Nx (upd H5 D (.dT (putK kvs k z))))
theorem dcT_core {Q : VK} {kx vx tg iter : Expr} {scope : Scope} {own : List (Str × Nat)} {pos pos' : Pos} {wi : TI} {g : TG} {tk tv : TE} {use : Option (Value → Sem Unit)} {Qf : Value → Shared → Prop} (I : Inv X pins σ H s) (hu : X.A.units + 1 < cLine) (hc : X.calm = true) (hN : X.N.Nodup) (hi : PI X tg iter wi) (ok : BlkOk X.N X.env.scope scope own)
    (hg : Blk X scope fun Y => PG Y tg g) (hk : Blk X scope fun Y => PE Y kx tk) (he : Blk X scope fun Y => PE Y vx tv) (hs : ∀ x, foldedSetIterable iter X.env x = pure x) (h : tDcT wi g tk tv (own.map (·.2)) σ H Q)
    (hRR : ∀ D C s' m H', Inv X pins σ H' s' → Q (.ref D) H' → s'.heap.Ns C m → FpOk X pins H' C → compPost (model X.prog X.w) X.A X.xe use Qf (.ref D) C (.ok .next) s') :
    wpAny (model X.prog X.w) X.A (comprehension (.DictComp kx vx [⟨tg, iter, [], 0⟩] scope pos) scope X.env pos' newDict false (eval iter X.env) use) Qf X.xe s := by
  have hfree : ∀ y ∈ scope.names, y.2 = .free → ∃ c, X.env.cells.lookup y.1 = some c := fun y hy e => I.ok.has _ (ok.free y hy e)
  refine wpAny_comprehension_free (use := use) rfl hs (closure_ok hfree) ok.kind (fun y hy e => by rw [ok.uniq y hy, e]) (thn (hi.run pins s σ H _ I h) fun xv s1 hx => thn hx fun itv s2 h2 => ?_)
  obtain ⟨it, fp, tn, J, H2, e, I2, T, st2, f2, q⟩ := h2
  subst e
  refine wpAny_newObj_type (newEnv_comp ?_)
  obtain ⟨W, ⟨m0, w0⟩, turn⟩ := q s2.heap.objs.size I2.fresh
  have kp3 : ∀ b o, s2.heap.get? b = some o → (s2.heap.push { cls := .type "dict", data := .dict #[] }).get? b = some o := fun b o e => Heap.get?_push_of_some _ e
  have I3 : Inv X pins σ (upd H2 s2.heap.objs.size (.dT [])) { s2 with heap := s2.heap.push { cls := .type "dict", data := .dict #[] } } :=
    I2.laid (t' := s2.toks) kp3 (Nat.le_refl _) (dt_empty s2.heap I2.big)
  generalize hs3 : ({ s2 with heap := s2.heap.push { cls := .type "dict", data := .dict #[] } } : Shared) = s3 at I3
  have h3 : s3.heap = s2.heap.push { cls := .type "dict", data := .dict #[] } := by rw [← hs3]
  have lt2 : ∀ b ∈ fp, b < s2.heap.objs.size := fun b hb => let ⟨o, eo, _⟩ := T.obj _ _ st2 b hb; Heap.lt_size eo
  have f3 : ∀ b ∈ fp, FpOk X pins (upd H2 s2.heap.objs.size (.dT [])) b ∧ b < s3.heap.objs.size := fun b hb =>
    ⟨⟨by rw [upd_ne (Nat.ne_of_lt (lt2 b hb))]; exact (f2 b hb).1, (f2 b hb).2⟩, by rw [h3, Heap.size_push]; exact Nat.lt_succ_of_lt (lt2 b hb)⟩
  have st3 : tn 0 s3.heap := T.keep _ _ _ st2 fun b _ o e => by rw [h3]; exact kp3 b o e
  generalize s2.heap.objs.size = D at w0 turn I3 f3 ⊢
  generalize upd H2 D (.dT []) = H3 at w0 I3 f3
  -- the block
  have I4 := block_start I3 ok hN f3
  have pg := hg s3 H3 s3.heap.objs.size (cellsFrom (s3.heap.objs.size + 1) scope.names (cloFrom X.env.cells scope.names [])) fp
  have pk := hk s3 H3 s3.heap.objs.size (cellsFrom (s3.heap.objs.size + 1) scope.names (cloFrom X.env.cells scope.names [])) fp
  have pv := he s3 H3 s3.heap.objs.size (cellsFrom (s3.heap.objs.size + 1) scope.names (cloFrom X.env.cells scope.names [])) fp
  have cL : (compEnvC scope (cellsFrom (s3.heap.objs.size + 1) scope.names (cloFrom X.env.cells scope.names [])) s3.heap.objs.size X.env).locals = s3.heap.objs.size := rfl
  show codeAny _ _ (.compStart (.DictComp kx vx [⟨tg, iter, [], 0⟩] scope pos) 0 (.ref it) (.ref D) (compEnvC scope (cellsFrom (s3.heap.objs.size + 1) scope.names (cloFrom X.env.cells scope.names [])) s3.heap.objs.size X.env)) (compPost (model X.prog X.w) X.A X.xe use Qf (.ref D) s3.heap.objs.size) { s3 with heap := pushCells (s3.heap.push { cls := .type "dict", data := .dict #[] }) scope.names }
  generalize compEnvC scope (cellsFrom (s3.heap.objs.size + 1) scope.names (cloFrom X.env.cells scope.names [])) s3.heap.objs.size X.env = ce at I4 pg pk pv cL ⊢
  generalize hs4 : ({ s3 with heap := pushCells (s3.heap.push { cls := .type "dict", data := .dict #[] }) scope.names } : Shared) = s4 at I4 ⊢
  have st4 : tn 0 s4.heap := T.keep _ _ _ st3 fun b _ o e => by rw [← hs4]; exact pushCells_keeps _ _ _ _ (Heap.get?_push_of_some _ e)
  have foot : ∀ {σ' : L2.St} {H' : Hp} {s' : Shared}, Inv (X.blk s3 H3 scope ce fp) [] σ' H' s' → (∀ b ∈ fp, H' b = none) → ∀ b ∈ fp, FpOk (X.blk s3 H3 scope ce fp) [] H' b := fun I' hn b hb =>
    ⟨hn b hb, (I'.ok.exf b hb).1, I'.ok.exfs b hb, .inl hb, fun x c e => (I'.ok.exf b hb).2 x c e, fun p hp => absurd (show p ∈ ([] : List (Addr × Obj)) ++ [] from hp) (by simp)⟩
  have loop : codeAny (model X.prog X.w) X.A (.compLoop (.DictComp kx vx [⟨tg, iter, [], 0⟩] scope pos) 0 (.ref it) (.ref D) ce) (compPost (model X.prog X.w) X.A X.xe use Qf (.ref D) s3.heap.objs.size) s4 := by
    refine compLoop_anyD (fun n s' => ∃ i H', Inv (X.blk s3 H3 scope ce fp) [] (wipe σ (own.map (·.2))) H' s' ∧ tn i s'.heap ∧ (∀ b ∈ fp, H' b = none) ∧ W i n H') ?_ m0 ⟨0, H3, I4, st4, fun b hb => (f3 b hb).1.1, w0⟩
    rintro n s5 ⟨i, H5, I5, st5, n5, w5⟩
    rcases turn i n H5 w5 with ⟨stop, qq⟩ | ⟨go, Nx, hNx, step⟩
    · refine thnF (T.done (X.blk s3 H3 scope ce fp) rfl rfl rfl hc i [] s5 _ H5 (fun _ _ => False) I5 (foot I5 n5) st5 stop) fun r s6 ⟨hr, I6⟩ => ?_
      subst hr
      have I7 : Inv X pins σ H5 s6 := I3.call' (ch := fp) I6.os I6.base I6.hok I6.bare fun b hb => ⟨(f3 b hb).1.2.2.2.1, (f3 b hb).1.2.1, (f3 b hb).1.2.2.2.2.1, (f3 b hb).1.2.2.2.2.2⟩
      have nC : H5 s3.heap.objs.size = none := by
        have z : H5 ce.locals = none := I6.free
        rw [cL] at z
        exact z
      obtain ⟨m, hn, _⟩ := I6.loc
      have hn : s6.heap.Ns ce.locals m := hn
      rw [cL] at hn
      exact hRR D s3.heap.objs.size s6 m H5 I7 qq hn (I3.fpOk (Nat.le_refl _) nC)
    · refine thnF (T.item (X.blk s3 H3 scope ce fp) rfl rfl rfl hc i [] s5 _ H5 (fun _ _ => False) I5 (foot I5 n5) st5 go) fun r s6 ⟨u, hr, h6⟩ => ?_
      subst hr
      refine thnF h6 fun _ s7 ⟨x, H7, I7, r7, y7, st7, n7⟩ => ?_
      refine thnF (pg.run _ s7 _ H7 x u _ (I7.pinned (foot I7 n7) (T.obj _ _ st7)) r7 (step x H7 y7)) fun _ s8 ⟨σ8, H8, I8, hw8, q8⟩ => ?_
      refine wpAny_tests_nil ?_
      rw [if_pos rfl]
      refine thnF (pk.run _ s8 σ8 H8 _ I8 q8) fun z s9 ⟨yk, H9, I9, r9, q9⟩ => ?_
      refine thnF (pv.run _ s9 σ8 H9 _ I9 q9) fun z2 s10 ⟨yv, H10, I10, r10, kvs, k, b, ek, eb, eD, hz, nx⟩ => ?_
      subst ek
      refine set_T (X := X.blk s3 H3 scope ce fp) hu I10 eD hz eb r9 r10 fun s11 I11 => ?_
      obtain ⟨m', hm, w'⟩ := hNx _ nx
      have hl : (wipe σ (own.map (·.2))).length = σ8.length := by rw [← hw8, wipe_length]
      have keep : ∀ b ∈ fp, ∀ o, s7.heap.get? b = some o → s11.heap.get? b = some o ∧ _ = none := fun b hb o e =>
        let z := I11.pin (b, o) (List.mem_append_right _ (List.mem_append_right _ (mem_pinsAt hb e)))
        ⟨z.1, z.2.1⟩
      refine ⟨m', hm, i + 1, _, (I11.unpinned (pins := [])).weak hl (fun j v e => ?_), T.keep _ _ _ st7 fun b hb o e => (keep b hb o e).1, fun b hb => ?_, w'⟩
      · rw [← hw8] at e
        exact (wipe_some e).1
      · obtain ⟨o, e, _⟩ := T.obj _ _ st7 b hb
        exact (keep b hb o e).2
  exact codeAny_compStart_dict loop (T.self X.A 0 _ _ _ st4 loop)
theorem pe_dcT {kx vx tg iter : Expr} {scope : Scope} {own : List (Str × Nat)} {pos : Pos} {wi : TI} {g : TG} {tk tv : TE} (hu : X.A.units + 1 < cLine) (hc : X.calm = true) (hN : X.N.Nodup) (hi : PI X tg iter wi) (ok : BlkOk X.N X.env.scope scope own)
    (hg : Blk X scope fun Y => PG Y tg g) (hk : Blk X scope fun Y => PE Y kx tk) (he : Blk X scope fun Y => PE Y vx tv) (hs : ∀ x, foldedSetIterable iter X.env x = pure x := by intro _; rfl) :
    PE X (.DictComp kx vx [⟨tg, iter, [], 0⟩] scope pos) (tDcT wi g tk tv (own.map (·.2))) := by
  refine ⟨fun pins s σ H Q I h => ?_⟩
  rw [arm_eval_DictComp]
  refine dcT_core I hu hc hN hi ok hg hk he hs h fun D C s' m H' I' q hn ⟨f0, f1, f2, f3, f4, f5⟩ => ⟨m, hn, fun h'' sb => ?_⟩
  exact ⟨.ref D, H', I'.turned (t' := s'.toks) (fun b o hb e => (sb.2 b hb).trans e) f0 f1 f3 f4 f5, rfl, q⟩
theorem ps_setDcT {i : Nat} {y : Str} {py spos : Pos} {kx vx tg iter : Expr} {scope : Scope} {own : List (Str × Nat)} {pos : Pos} {wi : TI} {g : TG} {tk tv : TE} (hu : X.A.units + 1 < cLine) (hc : X.calm = true) (hN : X.N.Nodup) (hy : X.N[i]? = some y) (hyl : X.env.scope.names.lookup y = some .local)
    (hsw : swapsWith (.DictComp kx vx [⟨tg, iter, [], 0⟩] scope pos) (some (.Name y py)) spos.line X.env = pure true) (hi : PI X tg iter wi) (ok : BlkOk X.N X.env.scope scope own)
    (hg : Blk X scope fun Y => PG Y tg g) (hk : Blk X scope fun Y => PE Y kx tk) (he : Blk X scope fun Y => PE Y vx tv) (hs : ∀ x, foldedSetIterable iter X.env x = pure x := by intro _; rfl) :
    PS X (.Assign [.Name y py] (.DictComp kx vx [⟨tg, iter, [], 0⟩] scope pos) spos) (tAsg (tDcT wi g tk tv (own.map (·.2))) (gName i)) := by
  refine ⟨fun pins s σ H D I h => ?_⟩
  rw [exec_Assign_Name_used _ _ _ _ hsw]
  refine wpAny_bind (wpAny_standAt (wpAny_bind ?_))
  show wpAny _ X.A (do let _ ← comprehension (.DictComp kx vx [⟨tg, iter, [], 0⟩] scope pos) scope X.env (firstIterPos [⟨tg, iter, [], 0⟩] pos) newDict false (eval iter X.env) (some (assign (.Name y py) X.env))) _ _ s
  have h : tDcT wi g tk tv (own.map (·.2)) σ H (fun x H1 => gName i x σ H1 D.nx) := h
  refine wpAny_bind (thn (dcT_core (Qf := fun _ s' => SP X pins D .next s') I hu hc hN hi ok hg hk he hs h fun L C s' m H' I' q hn ⟨f0, f1, f2, f3, f4, f5⟩ => ?_) fun _ s' hq => wpAny_pure (wpAny_pure hq))
  show wpAny _ _ (assign (.Name y py) X.env (.ref L)) _ _ _
  refine wpAny_assign_Name (store_ok2 (v := V.ref L) I' hN hy (.inl hyl) rfl (fun s2 I2 ⟨a, sb, ha⟩ => ?_) (.inr hyl))
  have haC : C ≠ a := by
    rcases ha with z | z
    · rw [z]; exact f1
    · exact fun e => f4 y a z e.symm
  exact ⟨m, hn.sameBut sb haC, fun h3 sb3 => ⟨_, H', I2.turned (t' := s2.toks) (fun b o hb e => (sb3.2 b hb).trans e) f0 f1 f3 f4 f5, q⟩⟩
theorem swD {kx vx : Expr} {gs : List Comprehension} {scope : Scope} {pos py : Pos} {y : Str} {l : Nat} {env : Env} (hk : env.scope.kind = .function) (hy : env.scope.names.lookup y = some .local) (hl : (py.line == pos.line) = true)
    (ha : (scope.names.any fun (n, k) => n == y && (k == .local || k == .cell)) = false) : swapsWith (.DictComp kx vx gs scope pos) (some (.Name y py)) l env = pure true := by
  have ky : env.kindOf y = some .local := hy
  have hb : env.blockKind = .function := by unfold Env.blockKind; rw [hk]; rfl
  unfold swapsWith
  simp only [hb, ky, ha, Expr.pos, hl]
  rfl
end
def aDc (w : AI) (t : Tg) (tk tv : AE) (vs : List Nat) : AE := fun env L post => w env L fun items kp L1 => ∃ J : Nat → KDs → List Cell → Prop, J 0 [] L1 ∧
  (∀ i d kds L, items[i]? = some d → J i kds L → kp L ∧ ∃ env', bindT t d (wipeE env vs) = some env' ∧ tk env' L fun y L2 => tv env' L2 fun z L3 => ∃ (ns : List Int) (dv : PyData), y = .dat (.tuple (ns.map PyData.int)) ∧ z = .dat dv ∧ kds.length < 100000 ∧ J (i + 1) (putD kds (intK ns) dv) L3) ∧
  ∀ kds L, J items.length kds L → kp L ∧ post (.dic kds) L
section
variable {G : Gp} {X : Cx} {K : PySem.W.Frag} {kx vx tg iter : Expr} {scope : Scope} {own : List (Str × Nat)} {pos : Pos} {w : AI} {t : Tg} {tk tv : AE} {k : Nat}
theorem dc_gen {vs : List Nat} (hv : ∀ i ∈ slT t, i ∈ vs) : ∀ σ H Q, cE K G (aDc w t tk tv vs) σ H Q → tDcT (cI K G w) (gT K t) (cE K G tk) (cE K G tv) vs σ H Q := fun σ H Q ⟨Hs, F, env, L, post, hs, hh, ha, hf⟩ =>
  ⟨Hs, F, env, L, _, hs, hh, ha, fun It items kp Hs1 H1 L1 ⟨J, j0, js, jd⟩ e1 hh1 ok D hD => by
    have hw := sr_wipe (sr_same e1 hs) vs
    refine ⟨fun i m H => m = items.length - i ∧ i ≤ items.length ∧ ∃ Hs2 kds L, Same Hs1 Hs2 ∧ Holds K G Hs2 ((D, .dic kds) :: (L ++ F)) H ∧ J i kds L, ⟨_, rfl, Nat.zero_le _, Hs1, [], L1, Same.refl _, hh1.fresh hD ⟨[], upd_same, .nil⟩, j0⟩, ?_⟩
    rintro i m H2 ⟨rfl, hi, Hs2, kds, L2, e2, hh2, jj⟩
    have sw : ∀ {kds : KDs} {L : List Cell} {Hs H : Hp}, Holds K G Hs ((D, .dic kds) :: (L ++ F)) H → Holds K G Hs (L ++ ((D, .dic kds) :: F)) H := fun h => h.perm List.perm_middle.symm
    have sw' : ∀ {kds : KDs} {L : List Cell} {Hs H : Hp}, Holds K G Hs (L ++ ((D, .dic kds) :: F)) H → Holds K G Hs ((D, .dic kds) :: (L ++ F)) H := fun h => h.perm List.perm_middle
    by_cases hlt : i < items.length
    · obtain ⟨hk, env', hb, hbody⟩ := js i items[i] kds L2 (by simp [hlt]) jj
      obtain ⟨hgo, hyld⟩ := (ok _ i Hs2 H2 L2 e2 (sw hh2) hk).1 items[i] (by simp [hlt])
      refine .inr ⟨hgo, fun H => ∃ Hs3 kds L, Same Hs1 Hs3 ∧ Holds K G Hs3 ((D, .dic kds) :: (L ++ F)) H ∧ J (i + 1) kds L, fun H' ⟨Hs3, kds3, L3, a1, a2, a3⟩ => ⟨items.length - (i + 1), by omega, rfl, hlt, Hs3, kds3, L3, a1, a2, a3⟩, fun x H' hy => ?_⟩
      obtain ⟨Hs4, e4, hh4, hd⟩ := hyld x H' hy
      obtain ⟨σ', k1, k2, k3⟩ := gT_run hd (sr_same (e2.trans e4) hw) hb hh4.st
      refine k2 _ ⟨by rw [k3 vs hv, wipe_wipe fun _ h => h], Hs4, _, env', L2, _, k1, hh4, hbody, fun y Hs5 H5 ey L5 p5 e5 hh5 r5 => ⟨Hs5, _, env', L5, _, sr_same e5 k1, hh5, p5, fun z Hs6 H6 ez L6 p6 e6 hh6 r6 => ?_⟩⟩
      obtain ⟨ns, dv, rfl, rfl, hl, j6⟩ := p6
      obtain ⟨kvs, h7, h8⟩ := ((sw' hh6).ow _ List.mem_cons_self).1
      obtain ⟨b, rfl, h9⟩ := key_rd (vr_same e6 r5)
      have r7 : Dq Hs6 z dv := r6
      exact ⟨kvs, intK ns, b, rfl, hh6.st _ _ h9, h7, Nat.lt_of_lt_of_le (by rw [kv_len h8]; exact hl) (by decide : 100000 ≤ sizeLine), Hs6, putD kds (intK ns) dv, L6, ((e2.trans e4).trans e5).trans e6, (sw' hh6).write ⟨_, upd_same, kv_put r7 h8⟩, j6⟩
    · have ei : i = items.length := by omega
      subst ei
      obtain ⟨hk, hnx⟩ := jd kds L2 jj
      refine .inl ⟨(ok _ _ Hs2 H2 L2 e2 (sw hh2) hk).2 (Nat.le_refl _), ?_⟩
      obtain ⟨kvs, h7, h8⟩ := (hh2.ow _ List.mem_cons_self).1
      obtain ⟨e3, hh3⟩ := hh2.freeze h7
      exact hf _ _ _ _ L2 hnx ((e1.trans e2).trans e3) hh3 ⟨D, kvs, rfl, upd_same, kv_same e3 h8⟩⟩
theorem d_dc (hr : Room k X.A) (hc : X.calm = true) (hN : X.N.Nodup) (hi : DI G X tg iter w) (ok : BlkOk X.N X.env.scope scope own) (hv : ∀ i ∈ slT t, i ∈ own.map (·.2))
    (hg : Blk X scope fun Y => DTg Y tg t) (hk : Blk X scope fun Y => DE G Y kx tk) (he : Blk X scope fun Y => DE G Y vx tv) (hs : ∀ x, foldedSetIterable iter X.env x = pure x := by intro _; rfl) :
    DE G X (.DictComp kx vx [⟨tg, iter, [], 0⟩] scope pos) (aDc w t tk tv (own.map (·.2))) := pe_imp (pe_dcT (room1 hr) hc hN hi ok hg hk he hs) (dc_gen hv)
theorem s_setDc {i : Nat} {y : Str} {py spos : Pos} (hr : Room k X.A) (hc : X.calm = true) (hN : X.N.Nodup) (hy : X.N[i]? = some y) (hyl : X.env.scope.names.lookup y = some .local)
    (hsw : swapsWith (.DictComp kx vx [⟨tg, iter, [], 0⟩] scope pos) (some (.Name y py)) spos.line X.env = pure true) (hi : DI G X tg iter w) (ok : BlkOk X.N X.env.scope scope own) (hv : ∀ i ∈ slT t, i ∈ own.map (·.2))
    (hg : Blk X scope fun Y => DTg Y tg t) (hk : Blk X scope fun Y => DE G Y kx tk) (he : Blk X scope fun Y => DE G Y vx tv) (hs : ∀ x, foldedSetIterable iter X.env x = pure x := by intro _; rfl) :
    DS G X (.Assign [.Name y py] (.DictComp kx vx [⟨tg, iter, [], 0⟩] scope pos) spos) (aAsg (aDc w t tk tv (own.map (·.2))) (aName i)) :=
  ps_imp (ps_setDcT (room1 hr) hc hN hy hyl hsw hi ok hg hk he hs) fun D σ H ⟨Hs, F, env, L, AD, hs, hh, ha, g1, g2, g3, g4⟩ =>
    dc_gen hv σ H _ ⟨Hs, F, env, L, _, hs, hh, ha, fun v Hs2 H2 en L2 p2 e2 hh2 r2 => g1 _ Hs2 H2 _ L2 p2 e2 hh2 (sr_set (sr_same e2 hs) r2 i)⟩
end
/-! ### a property -/
structure Dpr (S : Sx) (G : Gp) (Cl : Addr) (k : Nat) (f : Str) (C : AC) : Prop where
  ex : ∃ p g fd, PropOf S.K Cl f p g ∧ FnOk S.P S.w S.K S.mg S.base CX0 k g fd ["self"] (spA S.K G C) ∧ Binds S.K fd ["self"] []
def aProp (Cl : Addr) (C : AC) (a : AE) : AE := fun env L post => a env L fun x L1 => ∃ (q : Addr) (j : Nat) (dx : Addr) (fs : List (Str × En)), x = .own q ∧ L1[j]? = some (q, OD.obj Cl dx fs) ∧ ∃ Lc Lr, L1.Perm (Lc ++ Lr) ∧ C [x] Lc fun en L3 => ∃ L4, L4.Perm (L3 ++ Lr) ∧ post en L4
section
variable {G : Gp} {X : Cx} {e : Expr} {f : Str} {pos : Pos} {ta : AE} {Cl : Addr} {k : Nat} {C : AC}
theorem d_prop (c : Cls X.K Cl) (D : Dpr (sxOf X) G Cl k f C) (hr : Room (k + 1) X.A) (ha : DE G X e ta) (hb : attributeBase e f X.env (eval e X.env) = eval e X.env := by rfl) : DE G X (.Attribute e f pos) (aProp Cl C ta) := by
  obtain ⟨p, g, fd, hp, F, hbd⟩ := D.ex
  exact pe_imp (pe_prop (E := E0) ha c hp F hr hbd .nil pass0 hb) fun σ H Q ⟨Hs, F, env, L, post, hs, hh, ha, hf⟩ =>
    ⟨Hs, F, env, L, _, hs, hh, ha, fun x Hs1 H1 ex L1 ⟨q, j, dx, fs, ez, h1, h2⟩ e1 hh1 r1 => by
      subst ez
      have ex := (show x = V.ref q from r1)
      subst ex
      obtain ⟨vs, h4, h5⟩ := (hh1.ow _ (List.mem_append_left F (List.mem_of_getElem? h1))).1
      refine ⟨q, dx, vs, rfl, h4, ?_⟩
      exact sp_of hh1 (.cons (show VR X.K G Hs1 (.ref q) (.own q) from rfl) .nil) h2 (hf.same e1)⟩
end
end Mn
/-! Layer L: list(zip(list, tuple)). -/
namespace PySem
open Sem (wp)
namespace ZL
theorem zip_no_len : typeLookup (.type "zip") "__len__" = pure none := am_miss_of_fast (by decide +kernel)
theorem zip_no_hint : typeLookup (.type "zip") "__length_hint__" = pure none := am_miss_of_fast (by decide +kernel)
/-- a zip of a list and a tuple, i items drawn -/
structure Zs (z TI TO i1 i2 l t : Addr) (i : Nat) (h : Heap) : Prop where
  ti : IsPair h TI (.ref i1) (.ref i2)
  h1 : h.IsListIter i1 l i
  h2 : h.IsTupleIter i2 t i
  at_ : (i = 0 ∧ IsZip h z TI TO .none ∧ IsPair h TO .none .none) ∨ ∃ T f oT, IsZipHeld h z TI TO T f ∧ h.get? T = some oT
section
variable {prog : Program} {w : World} {A : Around} {E : Value → Shared → Prop} {s : Shared} {z TI TO i1 i2 l t : Addr}
theorem item_held {T : Addr} {f : Bool} {oT : Obj} {k : Nat} {xs ys : Array Value} {x y : Value} {Q : Value → Shared → Prop} (D : ZipApart z TI TO i1 i2 l t)
    (hz : IsZipHeld s.heap z TI TO T f) (hT : s.heap.get? T = some oT) (hTI : IsPair s.heap TI (.ref i1) (.ref i2))
    (h1 : s.heap.IsListIter i1 l k) (h2 : s.heap.IsTupleIter i2 t k) (hl : s.heap.IsList l xs) (ht : s.heap.IsTuple t ys) (hx : xs[k]? = some x) (hy : ys[k]? = some y)
    (hQ : ∀ h', IsZipHeld h' z TI TO T true → h'.IsListIter i1 l (k + 1) → h'.IsTupleIter i2 t (k + 1) → IsPair h' s.heap.objs.size x y → h'.objs.size = s.heap.objs.size + 1 →
      (∀ c o, c ≠ z → c ≠ i1 → c ≠ i2 → s.heap.get? c = some o → h'.get? c = some o) → Q (.ref s.heap.objs.size) { s with heap := h' }) :
    wpAny (model prog w) A (Builtin.«zip.__next__» ⟨[.ref z], []⟩) (fun fin s' => ∃ v, fin = .done (.ret v) ∧ Q v s') E s := by
  show wpAny _ _ (field (.ref z) 2 >>= _) _ _ _
  refine wpAny_bind (wpAny_field hz rfl (x := .bool false) rfl ?_)
  show wpAny _ _ (field (.ref z) 3 >>= _) _ _ _
  refine wpAny_bind (wpAny_field hz rfl (x := .ref TI) rfl (wpAny_bind (wpAny_seqItems hTI rfl ?_)))
  show wpAny _ _ (Builtin.SmallTypes.ownedTupleIsFree (.ref z) >>= _) _ _ _
  refine wpAny_bind (wpAny_tupleHeld_zip hz hT fun g1 hz1 e1 => ?_)
  simp only [Bool.false_eq_true, if_false]
  refine wpAny_bind ?_
  rw [← Array.forIn_toList]
  simp only [List.forIn_cons, List.forIn_nil]
  refine wpAny_bind (wpAny_bind (wpAny_holding ?_))
  show wpAny _ _ (Builtin.SmallTypes.nextOf (.ref i1) >>= _) _ _ _
  refine wpAny_bind (wpAny_nextOf_list_item (s := { s with heap := g1 }) (h1.extBut e1.extBut D.i1z) (hl.extBut e1.extBut D.l1z) hx fun g2 h12 e2 => wpAny_pure (wpAny_pure ?_))
  refine wpAny_bind (wpAny_bind (wpAny_holding ?_))
  show wpAny _ _ (Builtin.SmallTypes.nextOf (.ref i2) >>= _) _ _ _
  refine wpAny_bind (wpAny_nextOf_tuple_item (s := { s with heap := g2 }) ((h2.extBut e1.extBut D.i2z).extBut e2.extBut D.i12.symm) ((ht.extBut e1.extBut D.l2z).extBut e2.extBut D.l2i1) hy fun g3 h23 e3 => wpAny_pure ?_)
  refine wpAny_pure (wpAny_pure ?_)
  show wpAny _ _ (newTuple [x, y] >>= _) _ _ _
  refine wpAny_bind (wpAny_newTuple ?_)
  have hsz : g3.objs.size = s.heap.objs.size := by rw [e3.1, e2.1, e1.1]
  have hk : ∀ c o, c ≠ z → c ≠ i1 → c ≠ i2 → s.heap.get? c = some o → g3.get? c = some o := fun c o c1 c2 c3 e => e3.extBut _ _ c3 (e2.extBut _ _ c2 (e1.extBut _ _ c1 e))
  refine wpAny_pure ⟨_, rfl, ?_⟩
  show Q (.ref g3.objs.size) _
  have hp : IsPair (g3.push { cls := .type "tuple", data := .seq #[x, y] }) g3.objs.size x y := Heap.get?_push_size _ rfl
  have hz4 : (g3.push { cls := .type "tuple", data := .seq #[x, y] }).objs.size = g3.objs.size + 1 := Heap.size_push ..
  rw [hsz] at hp hz4 ⊢
  exact hQ _ (Heap.get?_push_of_some _ (e3.extBut _ _ D.i2z.symm (e2.extBut _ _ D.i1z.symm hz1))) ((h12.extBut e3.extBut D.i12).at fun o e => Heap.get?_push_of_some _ e) (h23.at fun o e => Heap.get?_push_of_some _ e) hp hz4
    fun c o c1 c2 c3 e => Heap.get?_push_of_some _ (hk c o c1 c2 c3 e)
theorem end_held {T : Addr} {f : Bool} {oT : Obj} {k : Nat} {xs : Array Value} {Q : Fin → Shared → Prop} (hh : A.handled = none) (D : ZipApart z TI TO i1 i2 l t)
    (hz : IsZipHeld s.heap z TI TO T f) (hT : s.heap.get? T = some oT) (hTI : IsPair s.heap TI (.ref i1) (.ref i2)) (h1 : s.heap.IsListIter i1 l k) (hl : s.heap.IsList l xs) (hx : xs[k]? = none)
    (hE : ∀ h' e, (∀ c o, c ≠ z → c ≠ i1 → s.heap.get? c = some o → h'.get? c = some o) → (∃ o, h'.get? e = some o ∧ o.cls = .type "StopIteration") → E (.ref e) { s with heap := h' }) :
    wpAny (model prog w) A (Builtin.«zip.__next__» ⟨[.ref z], []⟩) Q E s := by
  show wpAny _ _ (field (.ref z) 2 >>= _) _ _ _
  refine wpAny_bind (wpAny_field hz rfl (x := .bool false) rfl ?_)
  show wpAny _ _ (field (.ref z) 3 >>= _) _ _ _
  refine wpAny_bind (wpAny_field hz rfl (x := .ref TI) rfl (wpAny_bind (wpAny_seqItems hTI rfl ?_)))
  show wpAny _ _ (Builtin.SmallTypes.ownedTupleIsFree (.ref z) >>= _) _ _ _
  refine wpAny_bind (wpAny_tupleHeld_zip hz hT fun g1 hz1 e1 => ?_)
  simp only [Bool.false_eq_true, if_false]
  refine wpAny_bind ?_
  rw [← Array.forIn_toList]
  simp only [List.forIn_cons, List.forIn_nil]
  refine wpAny_bind (wpAny_bind (wpAny_holding ?_))
  show wpAny _ _ (Builtin.SmallTypes.nextOf (.ref i1) >>= _) _ _ _
  refine wpAny_bind (wpAny_nextOf_list_end (s := { s with heap := g1 }) hh (h1.extBut e1.extBut D.i1z) (hl.extBut e1.extBut D.l1z) hx fun g2 e e2 he => ?_)
  exact hE g2 e (fun c o c1 c2 x => e2 _ _ c2 (e1.extBut _ _ c1 x)) he
/-- next: an item -/
theorem next_item {k : Nat} {xs ys : Array Value} {x y : Value} {Q : Option Value → Shared → Prop} (hh : A.handled = none) (D : ZipApart z TI TO i1 i2 l t) (tz : t ≠ z)
    (Z : Zs z TI TO i1 i2 l t k s.heap) (hl : s.heap.IsList l xs) (ht : s.heap.IsTuple t ys) (hx : xs[k]? = some x) (hy : ys[k]? = some y)
    (hQ : ∀ h' tk, Zs z TI TO i1 i2 l t (k + 1) h' → IsPair h' s.heap.objs.size x y → h'.objs.size = s.heap.objs.size + 1 → (∀ c o, c ∉ [z, TO, i1, i2] → s.heap.get? c = some o → h'.get? c = some o) → Q (some (.ref s.heap.objs.size)) { s with heap := h', toks := tk }) :
    wpAny (model prog w) A (pyNext (.ref z)) Q E s := by
  rcases Z.at_ with ⟨rfl, hz, hTO⟩ | ⟨T, f, oT, hz, hT⟩
  · have S2 : ZipSep2 z TI TO i1 i2 [i1, l] [i2, t] :=
      { TIz := D.TIz, TOz := D.TOz, TITO := D.TITO, TIi1 := D.TIi1, mem1 := by simp, zf1 := by simp [D.i1z.symm, D.l1z.symm], Tf1 := by simp [D.TOi1, D.l1TO.symm], TIi2 := D.TIi2, mem2 := by simp, zf2 := by simp [D.i2z.symm, tz.symm], Tf2 := by simp [D.TOi2, D.l2TO.symm],
        sep1_2 := by simp [D.i12, D.l2i1.symm], sep2_1 := by simp [D.i12.symm, D.l1i2.symm] }
    have D1 := Draws.list (prog := prog) (w := w) (A := A.in1) hh i1 l D.l1i1 xs
    have D2 := Draws.tuple (prog := prog) (w := w) (A := A.in1) hh i2 t D.l2i2 ys
    refine wpAny_pyNext_zipD2_item S2 D1 D2 hz Z.ti hTO ⟨Z.h1, hl⟩ ⟨Z.h2, ht⟩ ((Array.getElem?_eq_some_iff.mp hx).1) ((Array.getElem?_eq_some_iff.mp hy).1) fun x1 x2 h' tk e1 e2 q1 q2 q3 q4 q5 q6 q7 => ?_
    have e1 : xs[0]? = some x1 := e1
    have e2 : ys[0]? = some x2 := e2
    rw [hx] at e1
    rw [hy] at e2
    cases e1
    cases e2
    exact hQ h' tk ⟨q7 _ _ D.TIz D.TITO D.TIi1 D.TIi2 Z.ti, q3.1, q4.1, .inr ⟨_, _, _, q1, q5⟩⟩ q5 q6 fun c o hc e => q7 c o (fun q => hc (by simp [q])) (fun q => hc (by simp [q])) (fun q => hc (by simp [q])) (fun q => hc (by simp [q])) e
  · have hTy : s.TypeIs (.ref z) "zip" := ⟨_, hz, rfl⟩
    unfold pyNext
    refine wpAny_bind (wpAny_attempt (wpAny_callSpecial?_slot (name := Str.ofString "__next__") hTy F.slot_zip_next
      (wpAny_call_entry F.slot_zip_next hTy F.entry_zip_next (item_held D hz hT Z.ti Z.h1 Z.h2 hl ht hx hy fun h' q1 q2 q3 q4 q6 q5 => wpAny_pure ?_) (F.args_zip_next_1 _))))
    refine hQ h' s.toks ⟨q5 _ _ D.TIz D.TIi1 D.TIi2 Z.ti, q2, q3, .inr ?_⟩ q4 q6 fun c o hc e => q5 c o (fun q => hc (by simp [q])) (fun q => hc (by simp [q])) (fun q => hc (by simp [q])) e
    by_cases c1 : T = z
    · rw [← c1] at q1
      exact ⟨T, true, _, by rw [← c1]; exact q1, q1⟩
    · by_cases c2 : T = i1
      · obtain ⟨o, e, _⟩ := q2
        exact ⟨T, true, o, q1, by rw [c2]; exact e⟩
      · by_cases c3 : T = i2
        · obtain ⟨o, e, _⟩ := q3
          exact ⟨T, true, o, q1, by rw [c3]; exact e⟩
        · exact ⟨T, true, oT, q1, q5 _ _ c1 c2 c3 hT⟩
theorem next_end {k : Nat} {xs : Array Value} {Q : Option Value → Shared → Prop} (hh : A.handled = none) (D : ZipApart z TI TO i1 i2 l t) (Z : Zs z TI TO i1 i2 l t k s.heap) (hk : k ≠ 0) (hl : s.heap.IsList l xs) (hx : xs[k]? = none)
    (hQ : ∀ h', (∀ c o, c ∉ [z, TO, i1, i2] → s.heap.get? c = some o → h'.get? c = some o) → Q none { s with heap := h' }) : wpAny (model prog w) A (pyNext (.ref z)) Q E s := by
  rcases Z.at_ with ⟨z0, _⟩ | ⟨T, f, oT, hz, hT⟩
  · exact absurd z0 hk
  · have hTy : s.TypeIs (.ref z) "zip" := ⟨_, hz, rfl⟩
    unfold pyNext
    refine wpAny_bind (wpAny_attempt (wpAny_callSpecial?_slot (name := Str.ofString "__next__") hTy F.slot_zip_next
      (wpAny_call_entry F.slot_zip_next hTy F.entry_zip_next (end_held hh D hz hT Z.ti Z.h1 hl hx fun h' e hkp he => ?_) (F.args_zip_next_1 _))))
    obtain ⟨o, ho, hc⟩ := he
    refine wpAny_bind (wpAny_isInstance (T := "StopIteration") (b := true) ⟨o, ho, hc⟩ isSubtype_stop ?_)
    exact wpAny_pure (hQ _ fun c o hc e => hkp c o (fun q => hc (by simp [q])) (fun q => hc (by simp [q])) e)
end
end ZL
end PySem
namespace Mn
open PySem PySem.Spec PyProof.Rows L2
def zipD (ds es : List PyData) : List PyData := List.zipWith (fun d e => PyData.tuple [d, e]) ds es
section
variable {G : Gp} {X : Cx} {pins : List (Addr × Obj)} {σ : L2.St} {z TI TO i1 i2 l t S : Addr}
theorem zip_loop {A : Around} {R : Result → Shared → Prop} {Hs : Hp} {Lall : List Cell} {ds es : List PyData} {xs ys : List V} (hh : A.handled = none) (D : ZipApart z TI TO i1 i2 l t) (tz : t ≠ z) (hS : S ∉ [z, TI, TO, i1, i2]) (hl : Hs l = some (.lst xs)) (hx : DqAll Hs xs ds) (ht : SqT X.K Hs t ys) (hy : DqAll Hs ys es)
    (hlen : ds.length = es.length) (hle : ds.length ≤ 100000) (hpos : ds.length ≠ 0) (hno : ∀ d ∈ ds, isS d = false)
    (hR : ∀ s' H' Hs', Inv X pins σ H' s' → Holds X.K G Hs' ((S, .lst (zipD ds es)) :: Lall) H' → Same Hs Hs' → R (.ok (.ret .none)) s') :
    ∀ (k i : Nat) (s : Shared) (H Hsi : Hp), ds.length - i = k → i ≤ ds.length → Inv X pins σ H s → Holds X.K G Hsi ((S, .lst ((zipD ds es).take i)) :: Lall) H → Same Hs Hsi → ZL.Zs z TI TO i1 i2 l t i s.heap → (∀ b ∈ [z, TI, TO, i1, i2], FpOk X pins H b ∧ b < s.heap.objs.size) →
      codeAny (model X.prog X.w) A (.builtin "list.extend.loop" ⟨[.ref S, .ref z, .none], []⟩) R s := by
  have zl : (zipD ds es).length = ds.length := by simp [zipD, hlen]
  intro k
  induction k with
  | zero =>
    intro i s H Hsi hk hi I hh2 hse Z hf
    have ei : i = ds.length := by omega
    subst ei
    obtain ⟨its, rv, pl, hz⟩ := I.list (SqL.of ((hse.trans hh2.st) _ _ hl))
    refine codeAny_builtin F.entry_extend_loop ?_
    rw [Around.under_plainId F.plain_extend_loop _]
    show wpAny _ A.in1 (pyNext (.ref z) >>= _) _ _ s
    refine wpAny_bind (ZL.next_end (A := A.in1) hh D Z hpos pl.isList (by simp [← rv.length, dpa_len hx]) fun h' kp => ?_)
    have I2 : Inv X pins σ H { s with heap := h' } := I.turnedL (t' := s.toks) (ch := [z, TI, TO, i1, i2]) (fun b o hb e => kp b o (fun q => hb (by simp at q; simp; rcases q with q | q | q | q <;> simp [q])) e) fun b hb => (hf b hb).1
    have e : (zipD ds es).take ds.length = zipD ds es := by rw [← zl, List.take_length]
    rw [e] at hh2
    exact wpAny_pure (hR _ H Hsi I2 hh2 hse)
  | succ k ih =>
    intro i s H Hsi hk hi I hh2 hse Z hf
    have hlt : i < ds.length := by omega
    obtain ⟨its, rv, pl, hz⟩ := I.list (SqL.of ((hse.trans hh2.st) _ _ hl))
    obtain ⟨jts, rw', pt, hz2⟩ := I.tuple (same_t (hse.trans hh2.st) ht)
    obtain ⟨x, hxi, hdx⟩ := dpa_get (i := i) (d := ds[i]) hx (by simp [hlt])
    obtain ⟨y, hyi, hdy⟩ := dpa_get (i := i) (d := es[i]) hy (by simp)
    obtain ⟨u, hu, ru⟩ := rv.get hxi
    obtain ⟨v, hv, rv2⟩ := rw'.get hyi
    refine codeAny_builtin F.entry_extend_loop ?_
    rw [Around.under_plainId F.plain_extend_loop _]
    show wpAny _ A.in1 (pyNext (.ref z) >>= _) _ _ s
    refine wpAny_bind (ZL.next_item (A := A.in1) hh D tz Z pl.isList pt (x := u) (y := v) (by simpa using hu) (by simpa using hv) fun h' tk Z' hp hsz kp => ?_)
    have new : ObjOk X.prog X.w (upd H s.heap.objs.size (.tup [x, y])) h' s.heap.objs.size (.tup [x, y]) :=
      ⟨sz_ok (n := 2) (by decide), [u, v], .cons ru (.cons rv2 .nil), ⟨_, hp, rfl, _, rfl⟩⟩
    have I2 : Inv X pins σ (upd H s.heap.objs.size (.tup [x, y])) { s with heap := h', toks := tk } := I.turnedNew (ch := [z, TI, TO, i1, i2]) (fun b o hb e => kp b o (fun q => hb (by simp at q; simp; rcases q with q | q | q | q <;> simp [q])) e) (fun b hb => (hf b hb).1) (Nat.le_refl _) new
    obtain ⟨e2, hh3⟩ := hh2.new (o := .tup [x, y]) (I.hok.fresh (Nat.le_refl _))
    have hseq := (hse.trans e2)
    have hq : Dq (upd Hsi s.heap.objs.size (.tup [x, y])) (.ref s.heap.objs.size) (.tuple [ds[i], es[i]]) := by
      refine .tup ?_ upd_same (.cons (dp_same hseq hdx) (.cons (dp_same hseq hdy) .nil))
      show (true && (isS ds[i] && _)) = false
      rw [hno _ (List.getElem_mem hlt)]
      rfl
    generalize hT : s.heap.objs.size = T at hp hsz I2 hh3 hq e2 hseq hf
    obtain ⟨us, hH, hus⟩ := (hh3.ow _ List.mem_cons_self).1
    obtain ⟨zz, jt, n, r, hl', e⟩ := I2.lstM hH
    have e : h'.get? S = some { cls := .type "list", data := .seq jt.toArray n } := e
    have hul : us.length = i := by rw [dpa_len hus, List.length_take, zl]; omega
    have hc : i < sizeLine := Nat.lt_of_lt_of_le (show i < 100000 by omega) (by decide)
    show wpAny _ A.in1 (updateSeq S (·.push (.ref T)) >>= _) _ _ _
    refine wpAny_bind ?_
    refine wpAny_updateSeq e rfl (wpAny_pure ⟨plainId_quiet F.plain_extend_loop _, ?_⟩) (by rw [List.size_toArray, ← hl', hul]; exact Nat.le_of_lt hc) (by show (jt.toArray.push _).size ≤ sizeLine + 1; rw [Array.size_push, List.size_toArray, ← hl', hul]; exact Nat.succ_le_succ (Nat.le_of_lt hc))
    have I3 := I2.lset (t' := tk) (f := (·.push (.ref T))) (its' := jt ++ [.ref T]) (ys := us ++ [.ref T]) hH e (by simp) (r.append (.cons (show RelV (.ref T) (Value.ref T) from rfl) .nil)) (by rw [List.length_append, hul]; exact hc)
    have hh4 := hh3.write (u := .lst (us ++ [.ref T])) (o' := .lst ((zipD ds es).take (i + 1))) ⟨_, upd_same, by
      have z2 : (zipD ds es).take (i + 1) = (zipD ds es).take i ++ [.tuple [ds[i], es[i]]] := by
        rw [List.take_succ, show (zipD ds es)[i]? = some (.tuple [ds[i], es[i]]) by
          have hlt2 : i < es.length := by omega
          simp [zipD, List.getElem?_zipWith, hlt, hlt2]]
        rfl
      rw [z2]
      exact dpa_app hus (.cons hq .nil)⟩
    have keepS : ∀ c o, c ≠ S → h'.get? c = some o → (h'.update S (Obj.mapSeq (·.push (.ref T)))).get? c = some o := fun c o hc e => (Heap.get?_update_other _ _ (Ne.symm hc)).trans e
    have hSne : ∀ b ∈ [z, TI, TO, i1, i2], b ≠ S := fun b hb q => hS (q ▸ hb)
    have szS : (h'.update S (Obj.mapSeq (·.push (.ref T)))).objs.size = h'.objs.size := (Heap.SameBut.update ..).1
    refine ih (i + 1) { s with heap := h'.update S (Obj.mapSeq (·.push (.ref T))), toks := tk } _ _ (by omega) hlt I3 hh4 hseq ⟨keepS _ _ (hSne TI (by simp)) Z'.ti, Z'.h1.at fun o e => keepS _ _ (hSne i1 (by simp)) e, Z'.h2.at fun o e => keepS _ _ (hSne i2 (by simp)) e, ?_⟩ fun b hb => ?_
    · rcases Z'.at_ with ⟨q, _⟩ | ⟨T2, f, oT, q1, q2⟩
      · exact absurd q (Nat.succ_ne_zero i)
      · refine .inr ?_
        by_cases c1 : T2 = S
        · have q5 := Heap.get?_update_self (Obj.mapSeq (·.push (.ref T))) e rfl
          exact ⟨T2, f, _, keepS _ _ (hSne z (by simp)) q1, by rw [c1]; exact q5⟩
        · exact ⟨T2, f, oT, keepS _ _ (hSne z (by simp)) q1, keepS _ _ c1 q2⟩
    · obtain ⟨⟨f1, f2⟩, f3⟩ := hf b hb
      refine ⟨⟨?_, f2⟩, ?_⟩
      · rw [upd_ne (hSne b hb), upd_ne (Nat.ne_of_lt f3)]
        exact f1
      · show b < (h'.update S (Obj.mapSeq (·.push (.ref T)))).objs.size
        rw [szS, hsz]
        exact Nat.lt_succ_of_lt f3
theorem call_zipL {E : Value → Shared → Prop} {Hs : Hp} {Lall : List Cell} {ds es : List PyData} {xs ys : List V} {s : Shared} {H : Hp} {Q : Value → Shared → Prop} (hh : X.A.handled = none) (I : Inv X pins σ H s) (ho : Holds X.K G Hs Lall H) (hl : Hs l = some (.lst xs)) (hx : DqAll Hs xs ds) (ht : SqT X.K Hs t ys) (hy : DqAll Hs ys es)
    (hlen : ds.length = es.length) (hle : ds.length ≤ 100000) (hpos : ds.length ≠ 0) (hno : ∀ d ∈ ds, isS d = false)
    (hQ : ∀ S s' H' Hs', Inv X pins σ H' s' → Holds X.K G Hs' ((S, .lst (zipD ds es)) :: Lall) H' → Same Hs Hs' → Q (.ref S) s') :
    wpAny (model X.prog X.w) X.A (call (.type "zip") [.ref l, .ref t]) (fun v s1 => wpAny (model X.prog X.w) X.A (call (.type "list") [v]) Q E s1) E s := by
  obtain ⟨its, rv, pl, hz⟩ := I.list (SqL.of (ho.st _ _ hl))
  obtain ⟨jts, rw', pt, hz2⟩ := I.tuple (same_t ho.st ht)
  have ll : l < s.heap.objs.size := by
    obtain ⟨o, n, e, _⟩ := pl
    exact Heap.lt_size e
  have lt : t < s.heap.objs.size := by
    obtain ⟨o, e, _⟩ := pt
    exact Heap.lt_size e
  refine zip_begins2 (begins_list l its.toArray) (begins_tuple t jts.toArray) pl.isList pt fun h1 q1 q2 q3 q4 q5 q6 q7 => ?_
  have D := PySem.W.ktu_apart s.heap.objs.size l t ll lt
  have I1 : Inv X pins σ H { s with heap := h1 } := I.kept (t' := s.toks) q7
  have old : ∀ b ∈ [s.heap.objs.size + 4, s.heap.objs.size + 2, s.heap.objs.size + 3, s.heap.objs.size, s.heap.objs.size + 1], FpOk X pins H b ∧ b < h1.objs.size := fun b hb => by
    have e' : b = s.heap.objs.size + 4 ∨ b = s.heap.objs.size + 2 ∨ b = s.heap.objs.size + 3 ∨ b = s.heap.objs.size ∨ b = s.heap.objs.size + 1 := by simpa using hb
    have hle : s.heap.objs.size ≤ b ∧ b < h1.objs.size := by
      rw [q6]
      rcases e' with z | z | z | z | z <;> rw [z] <;> refine ⟨?_, ?_⟩ <;> first | exact Nat.le_add_right _ _ | exact Nat.le_refl _ | (show (_ : Nat) < _; omega)
    exact ⟨I.fpOk hle.1 (I.hok.fresh hle.1), hle.2⟩
  have tz : t ≠ s.heap.objs.size + 4 := Nat.ne_of_lt (Nat.lt_of_lt_of_le lt (Nat.le_add_right _ _))
  have Z0 : ZL.Zs (s.heap.objs.size + 4) (s.heap.objs.size + 2) (s.heap.objs.size + 3) s.heap.objs.size (s.heap.objs.size + 1) l t 0 h1 := ⟨q2, ⟨_, q4, rfl, rfl⟩, ⟨_, q5, rfl, rfl⟩, .inl ⟨rfl, q1, q3⟩⟩
  generalize s.heap.objs.size + 4 = z at D q1 old tz Z0 ⊢
  generalize s.heap.objs.size + 2 = TI at D q1 q2 old Z0 ⊢
  generalize s.heap.objs.size + 3 = TO at D q1 q3 old Z0 ⊢
  generalize s.heap.objs.size + 1 = i2 at D q2 q5 old Z0 ⊢
  generalize s.heap.objs.size = i1 at D q2 q4 old Z0 ⊢
  refine callType_codes (Q₁ := fun obj s₁ => obj = .ref h1.objs.size ∧ s₁ = { s with heap := h1.push { cls := .type "list", data := .seq #[] } }) F.called_list (F.typeCall_list_1 _) F.entry_list_init
    (code_list_new _ ⟨rfl, rfl⟩) fun obj s₁ h₁ => ?_
  obtain ⟨rfl, rfl⟩ := h₁
  have hS : (h1.push { cls := .type "list", data := .seq #[] }).get? h1.objs.size = some { cls := .type "list", data := .seq #[] } := Heap.get?_push_size _ rfl
  refine ⟨⟨_, hS, rfl⟩, F.args_list_init_2 _ _, ?_⟩
  show wpAny _ X.A.in1.in1 (do let old ← Builtin.List.listItems (.ref h1.objs.size); Builtin.List.listUpdate (.ref h1.objs.size) (fun _ => #[]); letGo old.toList.reverse; Builtin.List.listExtendWith (.ref h1.objs.size) (.ref z) .none) _ _ _
  refine wpAny_bind ?_
  unfold Builtin.List.listItems
  refine wpAny_bind (wpAny_seqItems hS rfl (wpAny_pure ?_))
  show wpAny _ X.A.in1.in1 (updateSeq h1.objs.size (fun _ => #[]) >>= fun _ => letGo (#[] : Array Value).toList.reverse >>= fun _ => Builtin.List.listExtendWith (.ref h1.objs.size) (.ref z) .none) _ _ _
  refine wpAny_bind (wpAny_updateSeq hS rfl ?_)
  have hS2 := Heap.get?_update_self (Obj.mapSeq (fun _ => (#[] : Array Value))) hS rfl
  refine wpAny_bind (wpAny_letGo ?_)
  unfold Builtin.List.listExtendWith
  have up : ∀ (h : Heap) (f : Obj → Obj), (∀ b o, h1.get? b = some o → h.get? b = some o) → ∀ b o, h1.get? b = some o → (h.update h1.objs.size f).get? b = some o := fun h f q b o e =>
    (Heap.get?_update_other _ _ (Ne.symm (Nat.ne_of_lt (Heap.lt_size e)))).trans (q b o e)
  have k1 : ∀ b o, h1.get? b = some o → (h1.push { cls := .type "list", data := .seq #[] }).get? b = some o := fun b o e => Heap.get?_push_of_some _ e
  have k2 := up _ (Obj.mapSeq (fun _ => (#[] : Array Value))) k1
  have hSz : h1.objs.size ≠ z := Nat.ne_of_gt (old z (by simp)).2
  have zty : ∀ {h : Heap} {tk : Nat}, (∀ b o, h1.get? b = some o → h.get? b = some o) → Shared.TypeIs { s with heap := h, toks := tk } (.ref z) "zip" := fun q => ⟨_, q _ _ q1, rfl⟩
  refine wpAny_bind (wpAny_typeOf (zty (tk := s.toks) k2) ?_)
  have g1 : Builtin.List.listSameRef (.ref h1.objs.size) (.ref z) = false := by simp [Builtin.List.listSameRef, hSz]
  have g2 : (Value.type "zip" == Value.type "list") = false := by decide
  have g3 : (Value.type "zip" == Value.type "tuple") = false := by decide
  simp only [g1, g2, g3, Bool.or_false, Bool.false_eq_true, if_false]
  refine wpAny_bind (wpAny_pyIter_zip (k2 _ _ q1) ?_)
  refine wpAny_bind (wpAny_holding ?_)
  unfold Builtin.List.listLengthHint
  refine wpAny_bind (wpAny_specialOf (zty (tk := s.toks) k2) ZL.zip_no_len ?_)
  show wpAny _ X.A.in1.in1 (specialOf (Value.ref z) (Str.ofString "__length_hint__") >>= _) _ _ _
  refine wpAny_bind (wpAny_specialOf (zty (tk := s.toks) k2) ZL.zip_no_hint ?_)
  refine wpAny_pure ?_
  show wpAny _ X.A.in1.in1 (rule "list.extend.makes-room" >>= fun _ => Builtin.List.listTouch (.ref h1.objs.size) >>= fun _ =>
    again (.builtin "list.extend.loop" ⟨[.ref h1.objs.size, .ref z, .none], []⟩)) _ _ _
  refine wpAny_bind (wpAny_rule (wpAny_bind ?_))
  show wpAny _ X.A.in1.in1 (updateSeq h1.objs.size (·.push .none) >>= fun _ => updateSeq h1.objs.size (·.pop)) _ _ _
  refine wpAny_bind (wpAny_updateSeq hS2 rfl ?_)
  have hS3 := Heap.get?_update_self (Obj.mapSeq (·.push Value.none)) hS2 rfl
  refine wpAny_updateSeq (hz := by seq_fits) hS3 rfl ?_
  have hS4 := Heap.get?_update_self (Obj.mapSeq (·.pop)) hS3 rfl
  have k4 := up _ (Obj.mapSeq (·.pop)) (up _ (Obj.mapSeq (·.push Value.none)) k2)
  have sz4 : ((((h1.push { cls := .type "list", data := .seq #[] }).update h1.objs.size (Obj.mapSeq fun _ => #[])).update h1.objs.size (Obj.mapSeq (·.push Value.none))).update h1.objs.size (Obj.mapSeq (·.pop))).objs.size = h1.objs.size + 1 := by
    rw [(Heap.SameBut.update ..).1, (Heap.SameBut.update ..).1, (Heap.SameBut.update ..).1, Heap.size_push]
  generalize (((h1.push { cls := .type "list", data := .seq #[] }).update h1.objs.size (Obj.mapSeq fun _ => #[])).update h1.objs.size (Obj.mapSeq (·.push Value.none))).update h1.objs.size (Obj.mapSeq (·.pop)) = h4 at hS4 k4 sz4 ⊢
  refine wpAny_pure ⟨plainId_quiet F.plain_extend_loop _, ?_⟩
  have hSn : H h1.objs.size = none := I1.hok.fresh (Nat.le_refl _)
  have I4 : Inv X pins σ (upd H h1.objs.size (.lst [])) { s with heap := h4 } := I1.laid (t' := s.toks) k4 (Nat.le_refl _) ⟨Nat.zero_le _, [], _, .nil, hS4⟩
  refine zip_loop (A := X.A.in1) hh D tz (fun hm => absurd (old _ hm).2 (Nat.lt_irrefl _)) hl hx ht hy hlen hle hpos hno (fun s' H' Hs' a1 a2 a3 => ⟨rfl, hQ _ s' H' Hs' a1 a2 a3⟩) ds.length 0 _ _ Hs (by omega) (Nat.zero_le _) I4
    (ho.fresh hSn ⟨[], upd_same, .nil⟩) (Same.refl _) ⟨k4 _ _ q2, ⟨_, k4 _ _ q4, rfl, rfl⟩, ⟨_, k4 _ _ q5, rfl, rfl⟩, .inl ⟨rfl, k4 _ _ q1, k4 _ _ q3⟩⟩ fun b hb => ?_
  obtain ⟨⟨f1, f2⟩, f3⟩ := old b hb
  refine ⟨⟨by rw [upd_ne (Nat.ne_of_lt f3)]; exact f1, f2⟩, ?_⟩
  show b < h4.objs.size
  rw [sz4]
  exact Nat.lt_succ_of_lt f3
end
end Mn
namespace Mn
open PySem PySem.Spec PyProof.Rows L2
section
variable {G : Gp} {X : Cx} {a b : Expr} {p p2 pos pos2 : Pos} {ta tb : AE}
def aZipL (a b : AE) : AE := fun env L post => a env L fun x L1 => b env L1 fun y L2 => ∃ ds es : List PyData, x = .dat (.list ds) ∧ y = .dat (.tuple es) ∧ ds.length = es.length ∧ ds.length ≤ 100000 ∧ ds.length ≠ 0 ∧ (∀ d ∈ ds, isS d = false) ∧ post (.dat (.list (zipD ds es))) L2
theorem vrs2 {K : PySem.W.Frag} {Hs : Hp} {vs : List V} {e1 e2 : En} (h : VRs K G Hs vs [e1, e2]) : ∃ v w, vs = [v, w] ∧ VR K G Hs v e1 ∧ VR K G Hs w e2 := by
  cases h with
  | cons a b =>
    obtain ⟨w, rfl, c⟩ := vrs1 b
    exact ⟨_, w, rfl, a, c⟩
theorem d_zipL (hc : X.calm = true) (hg : Gl X "list") (hm : X.mg "list" = none) (gz : Gl X "zip") (mz : X.mg "zip" = none) (ha : DE G X a ta) (hb : DE G X b tb)
    (h1 : starEach [a, b] X.env = (false, eval a X.env) :: starEach [b] X.env := by rfl) (h2 : starEach [b] X.env = (false, eval b X.env) :: starEach [] X.env := by rfl) (hpl : (backTo pos2 (starEach [b] X.env)).any (·.1) = false := by rfl)
    (h3 : starEach [.Call (.Name "zip" p2) [a, b] [] pos2] X.env = (false, eval (.Call (.Name "zip" p2) [a, b] [] pos2) X.env) :: starEach [] X.env := by rfl) :
    DE G X (.Call (.Name "list" p) [.Call (.Name "zip" p2) [a, b] [] pos2] [] pos) (aZipL ta tb) := by
  refine ⟨fun pins s σ H Q I ⟨Hs, F, env, L, post, hs, hh, hab, hf⟩ => ?_⟩
  refine Call_ (ld_blt I hg hm boot_list (PyProof.Rows.callWith_type1 (args_cons (Call_ (ld_blt I gz mz PyProof.Rows.boot_zip (PyProof.Rows.callWith_type1 ?_ h1 hpl))) h3) h3))
  have dA : DA G X [a, b] (aCons ta (aCons tb aNil)) := da_cons ha (da_cons hb da_nil h2) h1
  refine thn (dA.run pos2 pins s σ H (fun vs H1 => ∃ (Hs1 : Hp) (L1 : List Cell) (ds es : List PyData) (v w : V), vs = [v, w] ∧ Same Hs Hs1 ∧ Holds X.K G Hs1 (L1 ++ F) H1 ∧ VR X.K G Hs1 v (.dat (.list ds)) ∧ VR X.K G Hs1 w (.dat (.tuple es)) ∧
    ds.length = es.length ∧ ds.length ≤ 100000 ∧ ds.length ≠ 0 ∧ (∀ d ∈ ds, isS d = false) ∧ post (.dat (.list (zipD ds es))) L1) I
    ⟨Hs, F, env, L, fun ens L1 => match ens with
      | [x, y] => ∃ ds es : List PyData, x = .dat (.list ds) ∧ y = .dat (.tuple es) ∧ ds.length = es.length ∧ ds.length ≤ 100000 ∧ ds.length ≠ 0 ∧ (∀ d ∈ ds, isS d = false) ∧ post (.dat (.list (zipD ds es))) L1
      | _ => False, hs, hh, hab, fun vs Hs1 H1 ens L1 g e1 hh1 r1 => ?_⟩) fun us s1 ⟨vs, H1, I1, r1, Hs1, L1, ds, es, v, w, ev, e1, hh1, q1, q2, q3, q4, q5, q6, q7⟩ => ?_
  · dsimp only at g
    split at g
    · obtain ⟨ds, es, rfl, rfl, g1, g2, g3, g4, g5⟩ := g
      obtain ⟨v, w, rfl, k1, k2⟩ := vrs2 r1
      exact ⟨Hs1, L1, ds, es, v, w, rfl, e1, hh1, k1, k2, g1, g2, g3, g4, g5⟩
    · exact g.elim
  · subst ev
    obtain ⟨l, xs, rfl, k1, k2⟩ := vr_lst q1
    obtain ⟨t, ys, rfl, k3, k4⟩ := vr_tup q2
    obtain ⟨u1, u2, rfl, r2, r3⟩ := vals2 r1
    cases (show u1 = Value.ref l from r2)
    cases (show u2 = Value.ref t from r3)
    refine thn (call_zipL (E := X.xe) (Q := EP X pins σ Q) (I1.ok.hd hc) I1 hh1 k1 k2 k3 k4 q3 q4 q5 q6 fun S s' H' Hs' I2 hh2 e2 => ?_) fun v s2 h => args_nil h
    obtain ⟨zs, k5, k6⟩ := (hh2.ow _ List.mem_cons_self).1
    obtain ⟨e3, hh3⟩ := hh2.freeze k5
    exact ⟨.ref S, H', I2, rfl, hf _ _ _ _ L1 q7 ((e1.trans e2).trans e3) hh3 (.lst upd_same (dpa_same e3 k6))⟩
end
end Mn
namespace Mn
open PySem PySem.Spec PyProof.Rows L2
section
variable {G : Gp} {X : Cx} {K : PySem.W.Frag} {a : Expr} {pos : Pos} {ta : AE}
def aNeg (a : AE) : AE := fun env L post => a env L fun x L1 => ∃ i : Int, x = .dat (.int i) ∧ post (.dat (.int (-i))) L1
theorem d_neg (ha : DE G X a ta) : DE G X (.UnaryOp .USub a pos) (aNeg ta) := pe_imp (pe_un un_neg ha) fun σ H Q ⟨Hs, F, env, L, post, hs, hh, ha, hf⟩ =>
  ⟨Hs, F, env, L, _, hs, hh, ha, fun x Hs1 H1 ex L1 ⟨i, ez, p1⟩ e1 hh1 r1 => by
    subst ez
    exact ⟨i, vr_int r1, hf _ Hs1 H1 _ L1 p1 e1 hh1 (.int _)⟩⟩
/-- a module's int -/
theorem d_gint {x : Str} {i : Int} (hg : Gl X x) (hm : ∃ t, X.mg x = some (.int i t)) (hd : (x == ("__debug__" : Str)) = false := by decide) : DE G X (.Name x pos) (aC (.int i)) := by
  obtain ⟨t, hm⟩ := hm
  exact de_c (v := .int i) (pe_glob hg hm (show RelV (.int i) (.int i t) from ⟨t, rfl⟩) hd) fun _ => .int i
/-- no builtin's name is the module's -/
structure Bi (S : Sx) : Prop where
  len_ : S.mg "len" = none
  range_ : S.mg "range" = none
  enumerate_ : S.mg "enumerate" = none
  isinstance_ : S.mg "isinstance" = none
  tuple_ : S.mg "tuple" = none
  list_ : S.mg "list" = none
  int_ : S.mg "int" = none
  bool_ : S.mg "bool" = none
  zip_ : S.mg "zip" = none
  sorted_ : S.mg "sorted" = none
  abs_ : S.mg "abs" = none
  all_ : S.mg "all" = none
  any_ : S.mg "any" = none
theorem room_gen {k : Nat} {A : Around} (h : Room (k + 1) A) (env : Env) : Room k (A.in1.in1.deeper env) :=
  ⟨h.hd, by have := h.dp; show A.depth + 1 + 3 * k + 5 < _; omega, by have := h.un; show A.units + 1 + 1 + 3 + 16 * k + 200 < _; omega⟩
/-- the class of programs, of workshops -/
structure Kp (S : Sx) (G : Gp) : Prop where
  cP : Cls S.K G.CP
  nP : NoAttr S.K G.CP "names"
  pP : NoAttr S.K G.CP "ports"
  mP : NoAttr S.K G.CP "modes"
  tP : NoAttr S.K G.CP "table"
structure Kw (S : Sx) (G : Gp) : Prop where
  cW : Cls S.K G.CW
  w_base : NoAttr S.K G.CW "_base"
  w_events : NoAttr S.K G.CW "_events"
  w_edits : NoAttr S.K G.CW "_edits"
  w_in_force : NoAttr S.K G.CW "_in_force"
  w_tests : NoAttr S.K G.CW "_tests"
  w_last : NoAttr S.K G.CW "_last"
  w_runs : NoAttr S.K G.CW "_runs"
theorem gblk_by {N : List Str} {sc scope : Scope} {own : List (Str × Nat)} (h : blkC N sc scope own = true) (h2 : (!scope.isCoroutine && scope.names.all (fun y => !decide (y.2 = .cell)) && decide (scope.names.lookup (".0" : Str) = some NameKind.local)) = true) : GBlk N sc scope own := by
  simp only [Bool.and_eq_true, Bool.not_eq_true', decide_eq_true_eq, List.all_eq_true, decide_eq_false_iff_not] at h2
  exact ⟨blkOk_by h, h2.1.1, h2.1.2, h2.2⟩
end
end Mn
namespace Mn
open PySem PySem.Spec PyProof.Rows L2
/-! ### the text by places -/
def top (i : Nat) : Stmt := PySem.Challenge.pw_missesnone_k26_whole_nobody_can_tell_wit.main.body.getD i (.Pass ⟨0, 0, 0, 0⟩)
abbrev s_cells_of : Stmt := top 9
abbrev s_idle : Stmt := top 10
abbrev s_Program__init : Stmt := inClass (top 11) 0
abbrev s_cells : Stmt := top 12
abbrev s_row_at : Stmt := top 13
abbrev s_frozen : Stmt := top 14
abbrev s_with_rows : Stmt := top 15
abbrev s_position_of : Stmt := top 16
abbrev s_candidates : Stmt := top 17
abbrev s_step : Stmt := top 18
abbrev s_run : Stmt := top 19
abbrev s_is_index : Stmt := top 20
abbrev s_is_cell : Stmt := top 21
abbrev s_is_write : Stmt := top 22
abbrev s_are_holds : Stmt := top 23
abbrev s_is_row : Stmt := top 24
abbrev s_is_integer : Stmt := top 28
abbrev s_is_event : Stmt := top 29
abbrev s_is_triple : Stmt := top 30
abbrev s_is_output : Stmt := top 31
abbrev s_Workshop__init : Stmt := inClass (top 32) 0
abbrev s_Workshop_events : Stmt := inClass (top 32) 5
abbrev s_Workshop_edits : Stmt := inClass (top 32) 6
abbrev s_Workshop_tests : Stmt := inClass (top 32) 7
abbrev s_Workshop_take : Stmt := inClass (top 32) 8
abbrev s_Workshop_edit : Stmt := inClass (top 32) 9
abbrev s_Workshop_turn : Stmt := inClass (top 32) 10
abbrev s_Workshop_undo : Stmt := inClass (top 32) 11
abbrev s_Workshop_redo : Stmt := inClass (top 32) 12
abbrev s_Workshop_test : Stmt := inClass (top 32) 13
abbrev s_Workshop_program_with : Stmt := inClass (top 32) 14
abbrev s_Workshop_program : Stmt := inClass (top 32) 15
abbrev s_Workshop_is_stale : Stmt := inClass (top 32) 16
abbrev s_Workshop_stale : Stmt := inClass (top 32) 17
abbrev s_Workshop_verdicts : Stmt := inClass (top 32) 18
abbrev s_l_cell : Stmt := top 34
abbrev s_l_source : Stmt := top 35
abbrev s_l_pick : Stmt := top 36
abbrev s_l_worded : Stmt := top 37
abbrev s_l_cells : Stmt := top 38
abbrev s_l_known : Stmt := top 39
abbrev s_l_some : Stmt := top 40
abbrev s_l_writes : Stmt := top 41
abbrev s_l_drawn_row : Stmt := top 42
abbrev s_l_named : Stmt := top 43
abbrev s_l_plan : Stmt := top 44
abbrev s_l_program : Stmt := top 45
abbrev s_l_idle : Stmt := top 46
abbrev s_l_table : Stmt := top 47
abbrev s_l_index : Stmt := top 48
abbrev s_l_position : Stmt := top 49
abbrev s_l_step : Stmt := top 50
abbrev s_l_run : Stmt := top 51
abbrev s_l_input : Stmt := top 52
abbrev s_l_shop : Stmt := top 53
abbrev s_l_model : Stmt := top 54
abbrev s_l_with : Stmt := top 55
abbrev s_l_now : Stmt := top 56
abbrev s_l_event : Stmt := top 57
abbrev s_l_take : Stmt := top 58
abbrev s_l_busy : Stmt := top 59
abbrev s_l_other_row : Stmt := top 60
abbrev s_l_changed : Stmt := top 61
abbrev s_law : Stmt := top 62
abbrev s_in_force : Stmt := inClass (top 32) 3
end Mn
/-! Contracts: what each def computes, over data; no program in sight. -/
namespace Mn
open PySem PySem.Spec PyProof.Rows L2
/-! ### the things -/
abbrev Cel := Nat × Nat × Nat
abbrev Wr := Nat × Str × Nat
abbrev Rw := Nat × List Nat × List Wr
abbrev Ev := Str × Int
abbrev Tr := Str × Str × Int
abbrev Out := List Tr
abbrev Pl := Nat × List Int
structure Fr where
  names : List Str
  ports : List (Str × List Str)
  modes : List (Str × Nat)
def Fr.held (F : Fr) (m : Nat) : Nat := ((F.modes[m]?).map (·.2)).getD 0
def kn (F : Fr) (c : Cel) : Nat := F.held c.1 + 1 - c.2.2 % 2
def Wd (x : Str) : Prop := PyData.strOk x = true ∧ x.length ≤ 12
structure FrOk (F : Fr) : Prop where
  n1 : 0 < F.names.length
  n2 : F.names.length ≤ 4
  nw : ∀ x ∈ F.names, Wd x
  p1 : 0 < F.ports.length
  p2 : F.ports.length ≤ 4
  pw : ∀ p ∈ F.ports, Wd p.1 ∧ 0 < p.2.length ∧ p.2.length ≤ 4 ∧ ∀ x ∈ p.2, Wd x
  m1 : 0 < F.modes.length
  m2 : F.modes.length ≤ 5
  m0 : F.held 0 = 0
  mw : ∀ m ∈ F.modes, Wd m.1 ∧ m.2 ≤ 4
def CelOk (F : Fr) (c : Cel) : Prop := c.1 < F.modes.length ∧ c.2.1 < F.names.length ∧ c.2.2 < 2 * F.held c.1 + 1
def WrOk (F : Fr) (k : Nat) (w : Wr) : Prop := (∃ p, F.ports[w.1]? = some p ∧ w.2.1 ∈ p.2) ∧ w.2.2 < k
structure RwOk (F : Fr) (c : Cel) (r : Rw) : Prop where
  tg : r.1 < F.modes.length
  asc : r.2.1.Pairwise (· < ·)
  lt : ∀ k ∈ r.2.1, k < kn F c
  len : r.2.1.length = F.held r.1
  few : r.2.2.length ≤ 4
  wr : ∀ w ∈ r.2.2, WrOk F (kn F c) w
def RfOk (F : Fr) (rf : Cel → Rw) : Prop := ∀ c, CelOk F c → RwOk F c (rf c)
def RowsOk (F : Fr) (rows : List (Cel × Rw)) : Prop := rows.length ≤ 3000 ∧ ∀ q ∈ rows, CelOk F q.1 ∧ RwOk F q.1 q.2
def big : Int := 1000000000000
def EvOk (F : Fr) (e : Ev) : Prop := e.1 ∈ F.names ∧ -big ≤ e.2 ∧ e.2 ≤ big
def TrOk (F : Fr) (t : Tr) : Prop := (∃ p ∈ F.ports, p.1 = t.1 ∧ t.2.1 ∈ p.2) ∧ -big ≤ t.2.2 ∧ t.2.2 ≤ big
def OutOk (F : Fr) (o : Out) : Prop := o.length ≤ 4 ∧ ∀ t ∈ o, TrOk F t
/-- a place; the strong form: in order -/
def PlOk (F : Fr) (p : Pl) : Prop := p.1 < F.modes.length ∧ p.2.length = F.held p.1 ∧ (∀ v ∈ p.2, -big ≤ v ∧ v ≤ big)
def PlAs (F : Fr) (p : Pl) : Prop := PlOk F p ∧ p.2.Pairwise (· < ·)
/-! ### as data -/
def eN (n : Nat) : PyData := .int n
def eCel (c : Cel) : PyData := .tuple [.int c.1, .int c.2.1, .int c.2.2]
def eWr (w : Wr) : PyData := .tuple [.int w.1, .str w.2.1, .int w.2.2]
def eRw (r : Rw) : PyData := .tuple [.int r.1, .tuple (r.2.1.map eN), .tuple (r.2.2.map eWr)]
def eEv (e : Ev) : PyData := .tuple [.str e.1, .int e.2]
def eTr (t : Tr) : PyData := .tuple [.str t.1, .str t.2.1, .int t.2.2]
def eOut (o : Out) : PyData := .tuple (o.map eTr)
def ePl (p : Pl) : PyData := .tuple [.int p.1, .tuple (p.2.map .int)]
def ePort (p : Str × List Str) : PyData := .tuple [.str p.1, .tuple (p.2.map .str)]
def eMode (m : Str × Nat) : PyData := .tuple [.str m.1, .int m.2]
def eNames (F : Fr) : PyData := .tuple (F.names.map .str)
def ePorts (F : Fr) : PyData := .tuple (F.ports.map ePort)
def eModes (F : Fr) : PyData := .tuple (F.modes.map eMode)
def ePair (q : Cel × Rw) : PyData := .tuple [eCel q.1, eRw q.2]
def ePlan (F : Fr) (rows : List (Cel × Rw)) : PyData := .list [eNames F, ePorts F, eModes F, .list (rows.map ePair)]
def kCel (c : Cel) : List L2.Key := intK [(c.1 : Int), (c.2.1 : Int), (c.2.2 : Int)]
/-! ### what is computed -/
def cellsF (F : Fr) : List Cel := (List.range F.modes.length).flatMap fun m => (List.range F.names.length).flatMap fun n => (List.range (2 * F.held m + 1)).map fun p => (m, n, p)
def idleR (F : Fr) (c : Cel) : Rw := if c.2.2 % 2 = 1 then (c.1, List.range (F.held c.1), []) else (c.1, (List.range (F.held c.1 + 1)).filter (fun k => decide (k ≠ c.2.2 / 2)), [])
def lastR : List (Cel × Rw) → Cel → Option Rw
  | [], _ => none
  | (d, r) :: t, c => match lastR t c with
    | some r' => some r'
    | none => if d = c then some r else none
def rfOf (F : Fr) (rows : List (Cel × Rw)) (c : Cel) : Rw := (lastR rows c).getD (idleR F c)
def tabF (F : Fr) (rf : Cel → Rw) : PyData := .tuple ((cellsF F).map fun c => eRw (rf c))
def eProg (F : Fr) (rf : Cel → Rw) : En := .prog (eNames F) (ePorts F) (eModes F) (tabF F rf)
def posA (n : Int) : List Int → Nat → Nat
  | [], a => a
  | v :: r, a => if n = v then a + 1 else if v < n then posA n r (a + 2) else posA n r a
def insS (n : Int) : List Int → List Int
  | [] => [n]
  | v :: r => if n ≤ v then n :: v :: r else v :: insS n r
def cand (held : List Int) (n : Int) : List Int := if n ∈ held then held else insS n held
def pName (F : Fr) (p : Nat) : Str := ((F.ports[p]?).map (·.1)).getD ⟨#[]⟩
def celOf (F : Fr) (p : Pl) (e : Ev) : Cel := (p.1, F.names.idxOf e.1, posA e.2 p.2 0)
def plOf (r : Rw) (ks : List Int) : Pl := (r.1, r.2.1.map fun k => ks.getD k 0)
def outOf (F : Fr) (r : Rw) (ks : List Int) : Out := r.2.2.map fun w => (pName F w.1, w.2.1, ks.getD w.2.2 0)
def runP (F : Fr) (rf : Cel → Rw) : Pl → List Ev → Pl
  | p, [] => p
  | p, e :: r => runP F rf (plOf (rf (celOf F p e)) (cand p.2 e.2)) r
def runO (F : Fr) (rf : Cel → Rw) : Pl → List Ev → List Out
  | _, [] => []
  | p, e :: r => outOf F (rf (celOf F p e)) (cand p.2 e.2) :: runO F rf (plOf (rf (celOf F p e)) (cand p.2 e.2)) r
def runT (F : Fr) (rf : Cel → Rw) : Pl → List Ev → List Cel
  | _, [] => []
  | p, e :: r => celOf F p e :: runT F rf (plOf (rf (celOf F p e)) (cand p.2 e.2)) r
def p0 : Pl := (0, [])
def eRun (p : Pl) (os : List Out) (ts : List Cel) : PyData := .tuple [ePl p, .list (os.map eOut), .list (ts.map eCel)]
/-! frozen -/
mutual
def fz : PyData → PyData
  | .list ds => .tuple (fzL ds)
  | .tuple ds => .tuple (fzL ds)
  | d => d
def fzL : List PyData → List PyData
  | [] => []
  | d :: ds => fz d :: fzL ds
end
def dOk : Nat → PyData → Prop
  | 0, d => isiLT d = false
  | n + 1, .list ds => ds.length ≤ 3000 ∧ ∀ d ∈ ds, dOk n d
  | n + 1, .tuple ds => ds.length ≤ 3000 ∧ ∀ d ∈ ds, dOk n d
  | _ + 1, _ => True
/-! ### contracts of the program's defs -/
abbrev C_cells_of (G : Gp) : AC := fun ens L post => ∃ F, ens = [.dat (eNames F), .dat (eModes F)] ∧ L = [] ∧ FrOk F ∧ post (.dat (.list ((cellsF F).map eCel))) []
abbrev C_idle (G : Gp) : AC := fun ens L post => ∃ F c, ens = [.dat (eModes F), .dat (eCel c)] ∧ L = [] ∧ FrOk F ∧ CelOk F c ∧ post (.dat (eRw (idleR F c))) []
abbrev C_Program_init (G : Gp) : AC := fun ens L post => ∃ F rows q dx, ens = [.own q, .dat (eNames F), .dat (ePorts F), .dat (eModes F), .dat (.list (rows.map ePair))] ∧ L = [(q, OD.obj G.CP dx [])] ∧ FrOk F ∧ RowsOk F rows ∧
  post (.dat .none) [(q, OD.obj G.CP dx [("names", .dat (eNames F)), ("ports", .dat (ePorts F)), ("modes", .dat (eModes F)), ("table", .dat (tabF F (rfOf F rows)))])]
abbrev C_cells (G : Gp) : AC := fun ens L post => ∃ F rf, ens = [eProg F rf] ∧ L = [] ∧ FrOk F ∧ post (.dat (.list ((cellsF F).map eCel))) []
abbrev C_row_at (G : Gp) : AC := fun ens L post => ∃ F rf c, ens = [eProg F rf, .dat (eCel c)] ∧ L = [] ∧ FrOk F ∧ CelOk F c ∧ post (.dat (eRw (rf c))) []
abbrev C_froz (n : Nat) : AC := fun ens L post => ∃ d, ens = [.dat d] ∧ L = [] ∧ dOk n d ∧ post (.dat (fz d)) []
abbrev C_frozen (G : Gp) : AC := C_froz 6
def baseRows (F : Fr) (rf : Cel → Rw) : List (Cel × Rw) := (cellsF F).map fun c => (c, rf c)
abbrev C_with_rows (G : Gp) : AC := fun ens L post => ∃ (F : Fr) (rf : Cel → Rw) (rows : List (Cel × Rw)), ens = [eProg F rf, .dat (.list (rows.map ePair))] ∧ L = [] ∧ FrOk F ∧ RfOk F rf ∧ (∀ q ∈ rows, CelOk F q.1 ∧ RwOk F q.1 q.2) ∧ rows.length ≤ 1000 ∧ post (eProg F (rfOf F (baseRows F rf ++ rows))) []
abbrev C_position_of (G : Gp) : AC := fun ens L post => ∃ (n : Int) (held : List Int), ens = [.dat (.int n), .dat (.tuple (held.map .int))] ∧ L = [] ∧ held.length ≤ 1000 ∧ post (.dat (.int (posA n held 0))) []
abbrev C_candidates (G : Gp) : AC := fun ens L post => ∃ (n : Int) (held : List Int), ens = [.dat (.tuple (held.map .int)), .dat (.int n)] ∧ L = [] ∧ held.length ≤ 1000 ∧ held.Pairwise (· < ·) ∧ post (.dat (.list ((cand held n).map .int))) []
abbrev C_step (G : Gp) : AC := fun ens L post => ∃ F rf p e, ens = [eProg F rf, .dat (ePl p), .dat (eEv e)] ∧ L = [] ∧ FrOk F ∧ RfOk F rf ∧ PlAs F p ∧ EvOk F e ∧
  post (.dat (.tuple [ePl (plOf (rf (celOf F p e)) (cand p.2 e.2)), eOut (outOf F (rf (celOf F p e)) (cand p.2 e.2)), eCel (celOf F p e)])) []
abbrev C_run (G : Gp) : AC := fun ens L post => ∃ (F : Fr) (rf : Cel → Rw) (es : List Ev) (d : PyData), ens = [eProg F rf, .dat d] ∧ (d = .list (es.map eEv) ∨ d = .tuple (es.map eEv)) ∧ L = [] ∧ FrOk F ∧ RfOk F rf ∧ (∀ e ∈ es, EvOk F e) ∧ es.length ≤ 1000 ∧
  post (.dat (eRun (runP F rf p0 es) (runO F rf p0 es) (runT F rf p0 es))) []
abbrev C_is_index (G : Gp) : AC := fun ens L post => ∃ i n : Int, ens = [.dat (.int i), .dat (.int n)] ∧ L = [] ∧ 0 ≤ i ∧ i < n ∧ post (.dat (.bool true)) []
abbrev C_is_cell (G : Gp) : AC := fun ens L post => ∃ F rf c, ens = [eProg F rf, .dat (eCel c)] ∧ L = [] ∧ FrOk F ∧ CelOk F c ∧ post (.dat (.bool true)) []
abbrev C_is_write (G : Gp) : AC := fun ens L post => ∃ F rf k w, ens = [eProg F rf, .dat (.int (k : Nat)), .dat (eWr w)] ∧ L = [] ∧ FrOk F ∧ WrOk F k w ∧ post (.dat (.bool true)) []
abbrev C_are_holds (G : Gp) : AC := fun ens L post => ∃ (hs : List Nat) (k n : Nat), ens = [.dat (.tuple (hs.map eN)), .dat (.int k), .dat (.int n)] ∧ L = [] ∧ hs.Pairwise (· < ·) ∧ (∀ h ∈ hs, h < k) ∧ hs.length = n ∧ n ≤ 1000 ∧ post (.dat (.bool true)) []
abbrev C_is_row (G : Gp) : AC := fun ens L post => ∃ F rf c r, ens = [eProg F rf, .dat (eCel c), .dat (eRw r)] ∧ L = [] ∧ FrOk F ∧ CelOk F c ∧ RwOk F c r ∧ post (.dat (.bool true)) []
abbrev C_is_integer (G : Gp) : AC := fun ens L post => ∃ i : Int, ens = [.dat (.int i)] ∧ L = [] ∧ -big ≤ i ∧ i ≤ big ∧ post (.dat (.bool true)) []
abbrev C_is_event (G : Gp) : AC := fun ens L post => ∃ F rf e, ens = [eProg F rf, .dat (eEv e)] ∧ L = [] ∧ FrOk F ∧ EvOk F e ∧ post (.dat (.bool true)) []
abbrev C_is_triple (G : Gp) : AC := fun ens L post => ∃ F rf t, ens = [eProg F rf, .dat (eTr t)] ∧ L = [] ∧ FrOk F ∧ TrOk F t ∧ post (.dat (.bool true)) []
abbrev C_is_output (G : Gp) : AC := fun ens L post => ∃ F rf o, ens = [eProg F rf, .dat (eOut o)] ∧ L = [] ∧ FrOk F ∧ OutOk F o ∧ post (.dat (.bool true)) []
/-! ### the workshop -/
abbrev Ed := Nat × Cel × Rw
abbrev Te := List Ev × List Out
abbrev La := Option (List (Cel × Rw) × Bool)
def eEd (e : Ed) : PyData := .tuple [.int e.1, eCel e.2.1, eRw e.2.2]
def eTe (t : Te) : PyData := .tuple [.tuple (t.1.map eEv), .tuple (t.2.map eOut)]
def eTeL (t : Te) : PyData := .tuple [.list (t.1.map eEv), .list (t.2.map eOut)]
def eLa : La → PyData
  | none => .none
  | some (ps, b) => .tuple [.list (ps.map ePair), .bool b]
structure Sh where
  evs : List PyData
  eds : List Ed
  frc : List Bool
  tes : List Te
  las : List La
  runs : Int
structure Sa where
  q : Addr
  dx : Addr
  a1 : Addr
  a2 : Addr
  a3 : Addr
  a4 : Addr
  a5 : Addr
def shF (F : Fr) (rf : Cel → Rw) (a : Sa) (S : Sh) : List (Str × En) :=
  [("_base", eProg F rf), ("_events", .own a.a1), ("_edits", .own a.a2), ("_in_force", .own a.a3), ("_tests", .own a.a4), ("_last", .own a.a5), ("_runs", .dat (.int S.runs))]
def shC (G : Gp) (F : Fr) (rf : Cel → Rw) (a : Sa) (S : Sh) : List Cell :=
  [(a.q, OD.obj G.CW a.dx (shF F rf a S)), (a.a1, .lst S.evs), (a.a2, .lst (S.eds.map eEd)), (a.a3, .lst (S.frc.map .bool)), (a.a4, .lst (S.tes.map eTe)), (a.a5, .lst (S.las.map eLa))]
def TeOk (F : Fr) (t : Te) : Prop := 0 < t.1.length ∧ t.1.length ≤ 100 ∧ t.2.length = t.1.length ∧ (∀ e ∈ t.1, EvOk F e) ∧ ∀ o ∈ t.2, OutOk F o
structure ShOk (F : Fr) (S : Sh) : Prop where
  n1 : S.evs.length ≤ 60
  n2 : S.eds.length ≤ 60
  n3 : S.frc.length = S.eds.length
  n4 : S.tes.length ≤ 60
  n5 : S.las.length = S.tes.length
  ed : ∀ e ∈ S.eds, CelOk F e.2.1 ∧ RwOk F e.2.1 e.2.2
  te : ∀ t ∈ S.tes, TeOk F t
  la : ∀ l ∈ S.las, ∀ ps b, l = some (ps, b) → ∀ q ∈ ps, CelOk F q.1 ∧ RwOk F q.1 q.2
def inF (S : Sh) : List Nat := (List.range S.frc.length).filter fun k => S.frc.getD k false
def edR (S : Sh) (n : Nat) : Cel × Rw := (S.eds.getD n (0, (0, 0, 0), (0, [], []))).2
def rfS (F : Fr) (rf : Cel → Rw) (S : Sh) : Cel → Rw := rfOf F (baseRows F rf ++ (inF S).map (edR S))
def stal (rf : Cel → Rw) : La → Bool
  | none => true
  | some (ps, _) => ps.any fun q => decide (rf q.1 ≠ q.2)
abbrev C_Workshop_init (G : Gp) : AC := fun ens L post => ∃ F rf q dx, ens = [.own q, eProg F rf] ∧ L = [(q, OD.obj G.CW dx [])] ∧ ∀ a : Sa, a.q = q → a.dx = dx → post (.dat .none) [(a.a5, .lst []), (a.a4, .lst []), (a.a3, .lst []), (a.a2, .lst []), (a.a1, .lst []), (q, OD.obj G.CW dx (shF F rf a ⟨[], [], [], [], [], 0⟩))]
abbrev C_in_force (G : Gp) : AC := fun ens L post => ∃ F rf a S, ens = [.own a.q] ∧ L = shC G F rf a S ∧ ShOk F S ∧ post (.dat (.list ((inF S).map eN))) L
abbrev C_Workshop_tests (G : Gp) : AC := fun ens L post => ∃ F rf a S, ens = [.own a.q] ∧ L = shC G F rf a S ∧ ShOk F S ∧ post (.dat (.list (S.tes.map eTeL))) L
abbrev C_Workshop_take (G : Gp) : AC := fun ens L post => ∃ F rf a S d, ens = [.own a.q, .dat d] ∧ L = shC G F rf a S ∧ S.evs.length ≤ 60 ∧ post (.dat .none) (shC G F rf a { S with evs := S.evs ++ [d] })
abbrev C_Workshop_edit (G : Gp) : AC := fun ens L post => ∃ F rf a S h c r, ens = [.own a.q, .dat (.int (h : Nat)), .dat (eCel c), .dat (eRw r)] ∧ L = shC G F rf a S ∧ FrOk F ∧ ShOk F S ∧ h < 10 ∧ CelOk F c ∧ RwOk F c r ∧
  ∀ d, post (.dat d) (shC G F rf a { S with evs := S.evs ++ [.tuple [.str "edit", .int h, eCel c, eRw r]], eds := S.eds ++ [(h, c, r)], frc := S.frc ++ [true] })
abbrev C_Workshop_turn (G : Gp) : AC := fun ens L post => ∃ F rf a S w n b, ens = [.own a.q, .dat (.str w), .dat (.int (n : Nat)), .dat (.bool b)] ∧ L = shC G F rf a S ∧ ShOk F S ∧ S.frc[n]? = some (!b) ∧
  post (.dat .none) (shC G F rf a { S with evs := S.evs ++ [.tuple [.str w, .int n]], frc := S.frc.set n b })
abbrev C_Workshop_undo (G : Gp) : AC := fun ens L post => ∃ F rf a S n, ens = [.own a.q, .dat (.int (n : Nat))] ∧ L = shC G F rf a S ∧ ShOk F S ∧ S.frc[n]? = some true ∧
  post (.dat .none) (shC G F rf a { S with evs := S.evs ++ [.tuple [.str "undo", .int n]], frc := S.frc.set n false })
abbrev C_Workshop_redo (G : Gp) : AC := fun ens L post => ∃ F rf a S n, ens = [.own a.q, .dat (.int (n : Nat))] ∧ L = shC G F rf a S ∧ ShOk F S ∧ S.frc[n]? = some false ∧
  post (.dat .none) (shC G F rf a { S with evs := S.evs ++ [.tuple [.str "redo", .int n]], frc := S.frc.set n true })
abbrev C_Workshop_test (G : Gp) : AC := fun ens L post => ∃ F rf a S t, ens = [.own a.q, .dat (.list (t.1.map eEv)), .dat (.list (t.2.map eOut))] ∧ L = shC G F rf a S ∧ FrOk F ∧ ShOk F S ∧ TeOk F t ∧
  ∀ d, post (.dat d) (shC G F rf a { S with evs := S.evs ++ [.tuple [.str "test", .tuple (t.1.map eEv), .tuple (t.2.map eOut)]], tes := S.tes ++ [t], las := S.las ++ [none] })
abbrev C_Workshop_program_with (G : Gp) : AC := fun ens L post => ∃ (F : Fr) (rf : Cel → Rw) (a : Sa) (S : Sh) (ns : List Nat), ens = [.own a.q, .dat (.list (ns.map eN))] ∧ L = shC G F rf a S ∧ FrOk F ∧ RfOk F rf ∧ ShOk F S ∧ (∀ n ∈ ns, n < S.eds.length) ∧ ns.length ≤ 1000 ∧ post (eProg F (rfOf F (baseRows F rf ++ ns.map (edR S)))) L
abbrev C_Workshop_program (G : Gp) : AC := fun ens L post => ∃ F rf a S, ens = [.own a.q] ∧ L = shC G F rf a S ∧ FrOk F ∧ RfOk F rf ∧ ShOk F S ∧ post (eProg F (rfS F rf S)) L
abbrev C_Workshop_is_stale (G : Gp) : AC := fun ens L post => ∃ F rf a S rf' n l, ens = [.own a.q, eProg F rf', .dat (.int (n : Nat))] ∧ L = shC G F rf a S ∧ FrOk F ∧ RfOk F rf' ∧ ShOk F S ∧ S.las[n]? = some l ∧ post (.dat (.bool (stal rf' l))) L
abbrev C_Workshop_stale (G : Gp) : AC := fun ens L post => ∃ F rf a S, ens = [.own a.q] ∧ L = shC G F rf a S ∧ FrOk F ∧ RfOk F rf ∧ ShOk F S ∧
  post (.dat (.list (((List.range S.tes.length).filter fun n => stal (rfS F rf S) (S.las.getD n none)).map eN))) L
def laOf (F : Fr) (rf : Cel → Rw) (t : Te) (b : Bool) : La := some ((runT F rf p0 t.1).map fun c => (c, rf c), b)
abbrev C_Workshop_verdicts (G : Gp) : AC := fun ens L post => ∃ F rf a S, ens = [.own a.q] ∧ L = shC G F rf a S ∧ FrOk F ∧ RfOk F rf ∧ ShOk F S ∧ (∀ l ∈ S.las, l = none) ∧
  ∀ (d : PyData) (las : List La) (r : Int), las.length = S.tes.length → (∀ (n : Nat) (t : Te), S.tes[n]? = some t → ∃ b, las[n]? = some (laOf F (rfS F rf S) t b)) → post (.dat d) (shC G F rf a { S with las := las, runs := r })
/-! ### contracts of the law's defs -/
def src (a b : Int) : OD := .lst [.int a, .int b]
abbrev C_l_cell (G : Gp) : AC := fun ens L post => ∃ ns, ens = [.scr ns, .dat (.int 0)] ∧ L = [] ∧ ∀ i : Int, post (.dat (.int i)) []
abbrev C_l_source (G : Gp) : AC := fun ens L post => ∃ i : Int, ens = [.dat (.int i), .dat (.int 0)] ∧ L = [] ∧ ∀ p a b, post (.own p) [(p, src a b)]
abbrev C_l_pick (G : Gp) : AC := fun ens L post => ∃ p a b m, ens = [.own p, .dat (.int (m : Nat))] ∧ L = [(p, src a b)] ∧ 0 < m ∧ m ≤ 100000 ∧ ∀ (r : Nat) (a' : Int) (b' : Int), r < m → post (.dat (.int r)) [(p, src a' b')]
abbrev C_l_worded (G : Gp) : AC := fun ens L post => ∃ (p : Addr) (a : Int) (b : Int) (ds : List PyData) (d0 : PyData), ens = [.own p, .dat d0] ∧ (d0 = .list ds ∨ d0 = .tuple ds) ∧ L = [(p, src a b)] ∧ 0 < ds.length ∧ ds.length ≤ 100000 ∧ ∀ d ∈ ds, ∀ a' b', post (.dat d) [(p, src a' b')]
abbrev C_l_cells (G : Gp) : AC := fun ens L post => ∃ F rows, ens = [.dat (ePlan F rows)] ∧ L = [] ∧ FrOk F ∧ post (.dat (.list ((cellsF F).map eCel))) []
abbrev C_l_known (G : Gp) : AC := fun ens L post => ∃ F rows c, ens = [.dat (ePlan F rows), .dat (eCel c)] ∧ L = [] ∧ FrOk F ∧ CelOk F c ∧ post (.dat (.int (kn F c))) []
abbrev C_l_some (G : Gp) : AC := fun ens L post => ∃ p a b k n, ens = [.own p, .dat (.int (k : Nat)), .dat (.int (n : Nat))] ∧ L = [(p, src a b)] ∧ n ≤ k ∧ k ≤ 1000 ∧
  ∀ (hs : List Nat) (a' : Int) (b' : Int), hs.Pairwise (· < ·) → (∀ h ∈ hs, h < k) → hs.length = n → post (.dat (.tuple (hs.map eN))) [(p, src a' b')]
abbrev C_l_writes (G : Gp) : AC := fun ens L post => ∃ p a b F rows k, ens = [.own p, .dat (ePlan F rows), .dat (.int (k : Nat))] ∧ L = [(p, src a b)] ∧ FrOk F ∧ 0 < k ∧ k ≤ 1000 ∧
  ∀ (ws : List Wr) (a' : Int) (b' : Int), ws.length ≤ 4 → (∀ w ∈ ws, WrOk F k w) → post (.dat (.tuple (ws.map eWr))) [(p, src a' b')]
abbrev C_l_drawn_row (G : Gp) : AC := fun ens L post => ∃ p a b F rows c, ens = [.own p, .dat (ePlan F rows), .dat (eCel c)] ∧ L = [(p, src a b)] ∧ FrOk F ∧ CelOk F c ∧
  ∀ r a' b', RwOk F c r → post (.dat (eRw r)) [(p, src a' b')]
def digits : Str := "0123456789"
abbrev C_l_named (G : Gp) : AC := fun ens L post => ∃ p a b n e, ens = [.own p, .dat (.int (n : Nat)), .dat (.str e)] ∧ L = [(p, src a b)] ∧ n ≤ 16 ∧ (e = "" ∨ e = digits) ∧
  ∀ (ws : List Str) (a' : Int) (b' : Int), ws.length = n → (∀ x ∈ ws, Wd x) → post (.dat (.tuple (ws.map .str))) [(p, src a' b')]
abbrev C_l_plan (G : Gp) : AC := fun ens L post => ∃ p a b, ens = [.own p, .dat (.int 0)] ∧ L = [(p, src a b)] ∧
  ∀ F rows a' b', FrOk F → RowsOk F rows → rows.length ≤ 1000 → post (.dat (ePlan F rows)) [(p, src a' b')]
abbrev C_l_program (G : Gp) : AC := fun ens L post => ∃ F rows, ens = [.dat (ePlan F rows)] ∧ L = [] ∧ FrOk F ∧ RowsOk F rows ∧ post (eProg F (rfOf F rows.reverse)) []
abbrev C_l_idle (G : Gp) : AC := fun ens L post => ∃ F rows c, ens = [.dat (ePlan F rows), .dat (eCel c)] ∧ L = [] ∧ FrOk F ∧ CelOk F c ∧ post (.dat (eRw (idleR F c))) []
def TabOk (F : Fr) (kds : KDs) : Prop := kds.length ≤ 5000 ∧ ∀ c, CelOk F c → ∃ r, RwOk F c r ∧ valD kds (kCel c) = some (eRw r)
abbrev C_l_table (G : Gp) : AC := fun ens L post => ∃ F rows, ens = [.dat (ePlan F rows)] ∧ L = [] ∧ FrOk F ∧ RowsOk F rows ∧ ∀ kds, TabOk F kds → post (.dic kds) []
abbrev C_l_index (G : Gp) : AC := fun ens L post => ∃ (xs : List Str) (x : Str), ens = [.dat (.tuple (xs.map .str)), .dat (.str x)] ∧ L = [] ∧ xs.length ≤ 1000 ∧ (∀ x ∈ xs, Wd x) ∧ x ∈ xs ∧ ∀ k : Nat, k < xs.length → post (.dat (.int k)) []
abbrev C_l_position (G : Gp) : AC := fun ens L post => ∃ (n : Int) (held : List Int), ens = [.dat (.int n), .dat (.tuple (held.map .int))] ∧ L = [] ∧ held.length ≤ 1000 ∧ ∀ k : Nat, k ≤ 2 * held.length → post (.dat (.int k)) []
abbrev C_l_step (G : Gp) : AC := fun ens L post => ∃ F rows kds p e, ens = [.dat (ePlan F rows), .dic kds, .dat (ePl p), .dat (eEv e)] ∧ L = [] ∧ FrOk F ∧ TabOk F kds ∧ PlOk F p ∧ EvOk F e ∧
  ∀ p' o c, PlOk F p' → OutOk F o → CelOk F c → post (.dat (.list [ePl p', eOut o, eCel c])) []
abbrev C_l_run (G : Gp) : AC := fun ens L post => ∃ (F : Fr) (rows : List (Cel × Rw)) (es : List Ev), ens = [.dat (ePlan F rows), .dat (.list (es.map eEv))] ∧ L = [] ∧ FrOk F ∧ RowsOk F rows ∧ (∀ e ∈ es, EvOk F e) ∧ es.length ≤ 1000 ∧
  ∀ (p' : Pl) (os : List Out) (ts : List Cel), os.length = es.length → (∀ o ∈ os, OutOk F o) → post (.dat (.list [ePl p', .list (os.map eOut), .list (ts.map eCel)])) []
abbrev C_l_input (G : Gp) : AC := fun ens L post => ∃ p a b F rows n, ens = [.own p, .dat (ePlan F rows), .dat (.int (n : Nat))] ∧ L = [(p, src a b)] ∧ FrOk F ∧ n ≤ 100 ∧
  ∀ (es : List Ev) (a' : Int) (b' : Int), es.length = n → (∀ e ∈ es, EvOk F e) → post (.dat (.list (es.map eEv))) [(p, src a' b')]
inductive Lg where
  | ed (h : Nat) (c : Cel) (r : Rw)
  | te (t : Te)
  | tu (b : Bool) (n : Nat)
def tuW (b : Bool) : Str := if b then "redo" else "undo"
def eLg : Lg → PyData
  | .ed h c r => .tuple [.str "edit", .int h, eCel c, eRw r]
  | .te t => .tuple [.str "test", .list (t.1.map eEv), .list (t.2.map eOut)]
  | .tu b n => .tuple [.str (tuW b), .int n]
/-- what the shop has behind an entry -/
abbrev Md := List Ed × List Bool × List Te
def mdS : Md → Lg → Md
  | (e, f, t), .ed h c r => (e ++ [(h, c, r)], f ++ [true], t)
  | (e, f, t), .te x => (e, f, t ++ [x])
  | (e, f, t), .tu b n => (e, f.set n b, t)
def mdl (log : List Lg) : Md := log.foldl mdS ([], [], [])
def LgOk (F : Fr) (m : Md) : Lg → Prop
  | .ed h c r => h < 10 ∧ CelOk F c ∧ RwOk F c r
  | .te t => TeOk F t
  | .tu b n => m.2.1[n]? = some (!b)
def LogOk (F : Fr) (log : List Lg) : Prop := log.length ≤ 50 ∧ ∀ i x, log[i]? = some x → LgOk F (mdl (log.take i)) x
def inB (f : List Bool) : List Nat := (List.range f.length).filter fun k => f.getD k false
abbrev C_l_model (G : Gp) : AC := fun ens L post => ∃ (F : Fr) (l : Addr) (log : List Lg), ens = [.own l] ∧ L = [(l, .lst (log.map eLg))] ∧ LogOk F log ∧
  post (.dat (.list [.list ((mdl log).1.map eEd), .list ((inB (mdl log).2.1).map eN), .list ((mdl log).2.2.map eTeL)])) L
abbrev C_l_with (G : Gp) : AC := fun ens L post => ∃ (F : Fr) (rows : List (Cel × Rw)) (eds : List Ed) (ns : List Nat), ens = [.dat (ePlan F rows), .dat (.list (eds.map eEd)), .dat (.list (ns.map eN))] ∧ L = [] ∧ FrOk F ∧ RowsOk F rows ∧ rows.length + ns.length ≤ 2500 ∧ eds.length ≤ 1000 ∧
  (∀ e ∈ eds, CelOk F e.2.1 ∧ RwOk F e.2.1 e.2.2) ∧ (∀ n ∈ ns, n < eds.length) ∧ ∀ rows', RowsOk F rows' → post (.dat (ePlan F rows')) []
abbrev C_l_now (G : Gp) : AC := fun ens L post => ∃ (F : Fr) (rows : List (Cel × Rw)) (l : Addr) (log : List Lg), ens = [.dat (ePlan F rows), .own l] ∧ L = [(l, .lst (log.map eLg))] ∧ FrOk F ∧ RowsOk F rows ∧ rows.length ≤ 1000 ∧ LogOk F log ∧ ∀ rows', RowsOk F rows' → post (.dat (ePlan F rows')) L
abbrev C_l_event (G : Gp) : AC := fun ens L post => ∃ (p : Addr) (a : Int) (b : Int) (F : Fr) (rows : List (Cel × Rw)) (l : Addr) (log : List Lg), ens = [.own p, .dat (ePlan F rows), .own l] ∧ L = [(p, src a b), (l, .lst (log.map eLg))] ∧ FrOk F ∧ RowsOk F rows ∧ rows.length ≤ 1000 ∧ LogOk F log ∧
  ∀ x a' b', LgOk F (mdl log) x → post (.dat (eLg x)) [(p, src a' b'), (l, .lst (log.map eLg))]
/-- the shop and the log -/
structure ShLog (F : Fr) (S : Sh) (log : List Lg) : Prop where
  ok : ShOk F S
  lo : LogOk F log
  ev : S.evs.length = log.length
  md : (S.eds, S.frc, S.tes) = mdl log
def shGo (S : Sh) : Lg → Sh
  | .ed h c r => { S with evs := S.evs ++ [.tuple [.str "edit", .int h, eCel c, eRw r]], eds := S.eds ++ [(h, c, r)], frc := S.frc ++ [true] }
  | .te t => { S with evs := S.evs ++ [.tuple [.str "test", .tuple (t.1.map eEv), .tuple (t.2.map eOut)]], tes := S.tes ++ [t], las := S.las ++ [none] }
  | .tu b n => { S with evs := S.evs ++ [.tuple [.str (tuW b), .int n]], frc := S.frc.set n b }
abbrev C_l_take (G : Gp) : AC := fun ens L post => ∃ F rf a S x, ens = [.own a.q, .dat (eLg x)] ∧ L = shC G F rf a S ∧ FrOk F ∧ ShOk F S ∧ LgOk F (S.eds, S.frc, S.tes) x ∧ ∀ d, post (.dat d) (shC G F rf a (shGo S x))
abbrev C_l_busy (G : Gp) : AC := fun ens L post => ∃ (p : Addr) (sa : Int) (sb : Int) (F : Fr) (rows : List (Cel × Rw)) (rf : Cel → Rw) (a : Sa) (S : Sh) (l : Addr) (log : List Lg) (n : Nat), ens = [.own p, .dat (ePlan F rows), .own a.q, .own l, .dat (.int (n : Nat))] ∧ L = (p, src sa sb) :: (shC G F rf a S ++ [(l, .lst (log.map eLg))]) ∧ FrOk F ∧ RowsOk F rows ∧ rows.length ≤ 1000 ∧ ShLog F S log ∧ log.length + n ≤ 40 ∧
  ∀ (sa' : Int) (sb' : Int) (S' : Sh) (log' : List Lg) (las' : List La), ShLog F S' log' → S'.las = S.las ++ las' → (∀ l ∈ las', l = none) → (∃ ts, S'.tes = S.tes ++ ts) → log'.length = log.length + n → post (.dat .none) ((p, src sa' sb') :: (shC G F rf a S' ++ [(l, .lst (log'.map eLg))]))
abbrev C_l_shop (G : Gp) : AC := fun ens L post => ∃ p sa sb F rows n, ens = [.own p, .dat (ePlan F rows), .dat (.int (n : Nat))] ∧ L = [(p, src sa sb)] ∧ FrOk F ∧ RowsOk F rows ∧ rows.length ≤ 1000 ∧ n ≤ 20 ∧
  ∀ (sa' : Int) (sb' : Int) (rf : Cel → Rw) (a : Sa) (S : Sh) (l : Addr) (log : List Lg), RfOk F rf → ShLog F S log → (∀ l ∈ S.las, l = none) → log.length ≤ 20 → post (.two a.q l) ((p, src sa' sb') :: (shC G F rf a S ++ [(l, .lst (log.map eLg))]))
def otherR (F : Fr) (r : Rw) : Rw := if 0 < r.2.2.length then (r.1, r.2.1, r.2.2.take (r.2.2.length - 1)) else (r.1, r.2.1, [(0, ((F.ports.getD 0 (⟨#[]⟩, [])).2).getD 0 ⟨#[]⟩, 0)])
abbrev C_l_other_row (G : Gp) : AC := fun ens L post => ∃ F rows r, ens = [.dat (ePlan F rows), .dat (eRw r)] ∧ L = [] ∧ FrOk F ∧ r.2.2.length ≤ 4 ∧ post (.dat (eRw (otherR F r))) []
def chgF (F : Fr) (rf1 rf2 : Cel → Rw) : List Cel := (cellsF F).filter fun c => decide (rf1 c ≠ rf2 c)
abbrev C_l_changed (G : Gp) : AC := fun ens L post => ∃ F rf1 rf2, ens = [eProg F rf1, eProg F rf2] ∧ L = [] ∧ FrOk F ∧ RfOk F rf1 ∧ RfOk F rf2 ∧ post (.dat (.list ((chgF F rf1 rf2).map eCel))) []
abbrev C_law (G : Gp) : AC := fun ens L post => ∃ ns, ens = [.scr ns] ∧ L = [] ∧ ∀ L', post (.dat (.bool true)) L'
/-- a cell that nobody will look at again -/
def aDropE (a : AE) : AE := fun env L post => a env L fun x L1 => ∃ (j : Nat) (c : Cell), L1[j]? = some c ∧ post x (L1.eraseIdx j)
theorem de_drop {G : Gp} {X : Cx} {e : Expr} {ta : AE} (h : DE G X e ta) : DE G X e (aDropE ta) := pe_imp h fun σ H Q ⟨Hs, F, env, L, post, hs, hh, ha, hf⟩ =>
  ⟨Hs, F, env, L, _, hs, hh, ha, fun x Hs1 H1 ex L1 ⟨j, c, hj, p1⟩ e1 hh1 r1 => hf x Hs1 H1 ex _ p1 e1 (hh1.at_ hj).drop r1⟩
end Mn
namespace Mn
open PySem PySem.Spec PyProof.Rows L2
abbrev oAdd : AR2 := aI0 fun i j => .int (i + j)
abbrev oSub : AR2 := aI0 fun i j => .int (i - j)
abbrev oMul : AR2 := aI2 CMul fun i j => .int (i * j)
abbrev oFdiv : AR2 := aI2 CDiv fun i j => .int (i / j)
abbrev oMod : AR2 := aI2 (fun _ j => 0 < j) fun i j => .int (i % j)
abbrev oPow : AR2 := aI2 CPow fun i j => .int (i ^ j.toNat)
abbrev oLt : AR2 := aI0 fun i j => .bool (decide (i < j))
abbrev oLe : AR2 := aI0 fun i j => .bool (decide (i ≤ j))
abbrev oGt : AR2 := aI0 fun i j => .bool (decide (j < i))
abbrev oGe : AR2 := aI0 fun i j => .bool (decide (j ≤ i))
def N_cells_of : List Str := [Str.ofString "names", Str.ofString "modes", Str.ofString "cells", Str.ofString "mode", Str.ofString "pair", Str.ofString "name", Str.ofString "position"]
def b_cells_of (G : Gp) : AS := (aSeq (aAsg (aLst aNil) (aName 2)) (aSeq (aFor (aEnT (aVar 1)) (.tp (.cons (.nm 3) (.cons (.nm 4) .nil))) (aSeq (aFor (aRange (aNary aLen (aCons (aVar 0) aNil))) (.nm 5) (aSeq (aAsg (aOp aCat (aVar 2) (aLc (aRange (aOp oAdd (aOp oMul (aC (.int 2)) (aOp aIx (aVar 4) (aC (.int 1)))) (aC (.int 1)))) (.nm 6) aYes (aTup (aCons (aVar 3) (aCons (aVar 5) (aCons (aVar 6) aNil)))) [6])) (aName 2)) aNext)) aNext)) (aSeq (aRet (aVar 2)) aNext)))
def N_idle : List Str := [Str.ofString "modes", Str.ofString "cell", Str.ofString "held", Str.ofString "mode", Str.ofString "_", Str.ofString "position", Str.ofString "k"]
def b_idle (G : Gp) : AS := (aSeq (aAsg (aVar 1) (aTg (.tp (.cons (.nm 3) (.cons (.nm 4) (.cons (.nm 5) .nil)))))) (aSeq (aAsg (aOp aIx (aOp aIx (aVar 0) (aVar 3)) (aC (.int 1))) (aName 2)) (aSeq (aIf (aB (aOp aEqD (aOp oMod (aVar 5) (aC (.int 2))) (aC (.int 1)))) (aSeq (aRet (aTup (aCons (aVar 3) (aCons (aTupRg (aVar 2)) (aCons (aTup aNil) aNil))))) aNext) aNext) (aSeq (aRet (aTup (aCons (aVar 3) (aCons (aNary aTupOf (aCons (aLc (aRange (aOp oAdd (aVar 2) (aC (.int 1)))) (.nm 6) (aB (aOp aNeD (aVar 6) (aOp oFdiv (aVar 5) (aC (.int 2))))) (aVar 6) [6]) aNil)) (aCons (aTup aNil) aNil))))) aNext))))
def N_frozen : List Str := [Str.ofString "value", Str.ofString "part"]
def b_frozen (G : Gp) (C : AC) : AS := (aSeq (aIf (aB (aIsi isiLT (aVar 0))) (aSeq (aRet (aNary aTupOf (aCons (aLc (aWalk (aVar 0)) (.nm 1) aYes (aCall C (aCons (aVar 1) aNil)) [1]) aNil))) aNext) aNext) (aSeq (aRet (aVar 0)) aNext))
def N_Program_init : List Str := [Str.ofString "self", Str.ofString "names", Str.ofString "ports", Str.ofString "modes", Str.ofString "rows", Str.ofString "told", Str.ofString "table", Str.ofString "cell", Str.ofString "row"]
def b_Program_init (G : Gp) : AS := (aSeq (aFSt G.CP "names" (aVar 0) (aNary aTupOf (aCons (aVar 1) aNil))) (aSeq (aFSt G.CP "ports" (aVar 0) (aCall (C_frozen G) (aCons (aVar 2) aNil))) (aSeq (aFSt G.CP "modes" (aVar 0) (aCall (C_frozen G) (aCons (aVar 3) aNil))) (aSeq (aAsg (aDc (aWalk (aVar 4)) (.tp (.cons (.nm 7) (.cons (.nm 8) .nil))) (aNary aTupOf (aCons (aVar 7) aNil)) (aCall (C_frozen G) (aCons (aVar 8) aNil)) [7, 8]) (aName 5)) (aSeq (aAsg (aOwn aNil) (aName 6)) (aSeq (aFor (aWalk (aCall (C_cells_of G) (aCons (aFld G.CP "names" (aVar 0)) (aCons (aFld G.CP "modes" (aVar 0)) aNil)))) (.nm 7) (aSeq (aIf (aB (aDIn (aVar 7) (aVar 5))) (aSeq (aExpr (aApp (aVar 6) (aDGet (aVar 5) (aVar 7)))) aNext) (aSeq (aExpr (aApp (aVar 6) (aCall (C_idle G) (aCons (aFld G.CP "modes" (aVar 0)) (aCons (aVar 7) aNil))))) aNext)) aNext)) (aSeq (aFSt G.CP "table" (aVar 0) (aNary aTupOf (aCons (aFrz (aVar 6)) aNil))) aNext)))))))
def N_cells : List Str := [Str.ofString "program"]
def b_cells (G : Gp) : AS := (aSeq (aRet (aCall (C_cells_of G) (aCons (aProg (fun n _ _ _ => n) (aVar 0)) (aCons (aProg (fun _ _ m _ => m) (aVar 0)) aNil)))) aNext)
def N_row_at : List Str := [Str.ofString "program", Str.ofString "cell", Str.ofString "at", Str.ofString "k", Str.ofString "mode", Str.ofString "name", Str.ofString "position"]
def b_row_at (G : Gp) : AS := (aSeq (aAsg (aVar 1) (aTg (.tp (.cons (.nm 4) (.cons (.nm 5) (.cons (.nm 6) .nil)))))) (aSeq (aAsg (aC (.int 0)) (aName 2)) (aSeq (aFor (aRange (aVar 4)) (.nm 3) (aSeq (aAug 2 (aOp oMul (aNary aLen (aCons (aProg (fun n _ _ _ => n) (aVar 0)) aNil)) (aOp oAdd (aOp oMul (aC (.int 2)) (aOp aIx (aOp aIx (aProg (fun _ _ m _ => m) (aVar 0)) (aVar 3)) (aC (.int 1)))) (aC (.int 1))))) aNext)) (aSeq (aRet (aOp aIx (aProg (fun _ _ _ t => t) (aVar 0)) (aOp oAdd (aOp oAdd (aVar 2) (aOp oMul (aVar 5) (aOp oAdd (aOp oMul (aC (.int 2)) (aOp aIx (aOp aIx (aProg (fun _ _ m _ => m) (aVar 0)) (aVar 4)) (aC (.int 1)))) (aC (.int 1))))) (aVar 6)))) aNext))))
def N_with_rows : List Str := [Str.ofString "program", Str.ofString "rows", Str.ofString "every", Str.ofString "cell", Str.ofString "row"]
def b_with_rows (G : Gp) : AS := (aSeq (aAsg (aOp aCat (aZipL (aCall (C_cells G) (aCons (aVar 0) aNil)) (aProg (fun _ _ _ t => t) (aVar 0))) (aLc (aWalk (aVar 1)) (.tp (.cons (.nm 3) (.cons (.nm 4) .nil))) aYes (aTup (aCons (aCall (C_frozen G) (aCons (aVar 3) aNil)) (aCons (aCall (C_frozen G) (aCons (aVar 4) aNil)) aNil))) [3, 4])) (aName 2)) (aSeq (aRet (aMakeP G.CP (C_Program_init G) (aCons (aProg (fun n _ _ _ => n) (aVar 0)) (aCons (aProg (fun _ p _ _ => p) (aVar 0)) (aCons (aProg (fun _ _ m _ => m) (aVar 0)) (aCons (aVar 2) aNil)))))) aNext))
def N_position_of : List Str := [Str.ofString "number", Str.ofString "held", Str.ofString "position", Str.ofString "value"]
def b_position_of (G : Gp) : AS := (aSeq (aAsg (aC (.int 0)) (aName 2)) (aSeq (aFor (aWalk (aVar 1)) (.nm 3) (aSeq (aIf (aB (aOp aEqD (aVar 0) (aVar 3))) (aSeq (aRet (aOp oAdd (aVar 2) (aC (.int 1)))) aNext) aNext) (aSeq (aIf (aB (aOp oGt (aVar 0) (aVar 3))) (aSeq (aAug 2 (aC (.int 2))) aNext) aNext) aNext))) (aSeq (aRet (aVar 2)) aNext)))
def N_candidates : List Str := [Str.ofString "held", Str.ofString "number"]
def b_candidates (G : Gp) : AS := (aSeq (aIf (aB (aOp (aIn false) (aVar 1) (aVar 0))) (aSeq (aRet (aNary aListOf (aCons (aVar 0) aNil))) aNext) aNext) (aSeq (aRet (aNary aSorted (aCons (aOp aCat (aNary aListOf (aCons (aVar 0) aNil)) (aLst (aCons (aVar 1) aNil))) aNil))) aNext))
def N_step : List Str := [Str.ofString "program", Str.ofString "place", Str.ofString "event", Str.ofString "cell", Str.ofString "known", Str.ofString "output", Str.ofString "mode", Str.ofString "held", Str.ofString "name", Str.ofString "number", Str.ofString "following", Str.ofString "holds", Str.ofString "writes", Str.ofString "port", Str.ofString "label", Str.ofString "k"]
def b_step (G : Gp) : AS := (aSeq (aAsg (aVar 1) (aTg (.tp (.cons (.nm 6) (.cons (.nm 7) .nil))))) (aSeq (aAsg (aVar 2) (aTg (.tp (.cons (.nm 8) (.cons (.nm 9) .nil))))) (aSeq (aAsg (aTup (aCons (aVar 6) (aCons (aIndex (aProg (fun n _ _ _ => n) (aVar 0)) (aVar 8)) (aCons (aCall (C_position_of G) (aCons (aVar 9) (aCons (aVar 7) aNil))) aNil)))) (aName 3)) (aSeq (aAsg (aCall (C_row_at G) (aCons (aVar 0) (aCons (aVar 3) aNil))) (aTg (.tp (.cons (.nm 10) (.cons (.nm 11) (.cons (.nm 12) .nil)))))) (aSeq (aAsg (aCall (C_candidates G) (aCons (aVar 7) (aCons (aVar 9) aNil))) (aName 4)) (aSeq (aAsg (aNary aTupOf (aCons (aLc (aWalk (aVar 12)) (.tp (.cons (.nm 13) (.cons (.nm 14) (.cons (.nm 15) .nil)))) aYes (aTup (aCons (aOp aIx (aOp aIx (aProg (fun _ p _ _ => p) (aVar 0)) (aVar 13)) (aC (.int 0))) (aCons (aVar 14) (aCons (aOp aIx (aVar 4) (aVar 15)) aNil)))) [13, 14, 15]) aNil)) (aName 5)) (aSeq (aRet (aTup (aCons (aTup (aCons (aVar 10) (aCons (aNary aTupOf (aCons (aLc (aWalk (aVar 11)) (.nm 15) aYes (aOp aIx (aVar 4) (aVar 15)) [15]) aNil)) aNil))) (aCons (aVar 5) (aCons (aVar 3) aNil))))) aNext)))))))
def N_run : List Str := [Str.ofString "program", Str.ofString "events", Str.ofString "place", Str.ofString "outputs", Str.ofString "touched", Str.ofString "event", Str.ofString "output", Str.ofString "cell"]
def b_run (G : Gp) : AS := (aSeq (aAsg (aTup (aCons (aC (.int 0)) (aCons (aTup aNil) aNil))) (aName 2)) (aSeq (aAsg (aOwn aNil) (aName 3)) (aSeq (aAsg (aOwn aNil) (aName 4)) (aSeq (aFor (aWalk (aVar 1)) (.nm 5) (aSeq (aAsg (aCall (C_step G) (aCons (aVar 0) (aCons (aVar 2) (aCons (aVar 5) aNil)))) (aTg (.tp (.cons (.nm 2) (.cons (.nm 6) (.cons (.nm 7) .nil)))))) (aSeq (aExpr (aApp (aVar 3) (aVar 6))) (aSeq (aExpr (aApp (aVar 4) (aVar 7))) aNext)))) (aSeq (aRet (aTup (aCons (aVar 2) (aCons (aFrz (aVar 3)) (aCons (aFrz (aVar 4)) aNil))))) aNext)))))
def N_is_index : List Str := [Str.ofString "value", Str.ofString "size"]
def b_is_index (G : Gp) : AS := (aSeq (aIf (aOr (aNot (aB (aIsi isiInt (aVar 0)))) (aB (aIsi isiBool (aVar 0)))) (aSeq (aRet (aC (.bool false))) aNext) aNext) (aSeq (aRet (aBetw (aC (.int 0)) (aVar 0) (aVar 1))) aNext))
def N_is_cell : List Str := [Str.ofString "program", Str.ofString "cell", Str.ofString "positions"]
def b_is_cell (G : Gp) : AS := (aSeq (aIf (aOr (aNot (aB (aIsi isiTup (aVar 1)))) (aOr (aB (aOp aNeD (aNary aLen (aCons (aVar 1) aNil)) (aC (.int 3)))) (aNot (aB (aCall (C_is_index G) (aCons (aOp aIx (aVar 1) (aC (.int 0))) (aCons (aNary aLen (aCons (aProg (fun _ _ m _ => m) (aVar 0)) aNil)) aNil))))))) (aSeq (aRet (aC (.bool false))) aNext) aNext) (aSeq (aAsg (aOp oAdd (aOp oMul (aC (.int 2)) (aOp aIx (aOp aIx (aProg (fun _ _ m _ => m) (aVar 0)) (aOp aIx (aVar 1) (aC (.int 0)))) (aC (.int 1)))) (aC (.int 1))) (aName 2)) (aSeq (aRet (aAndV (aCall (C_is_index G) (aCons (aOp aIx (aVar 1) (aC (.int 1))) (aCons (aNary aLen (aCons (aProg (fun n _ _ _ => n) (aVar 0)) aNil)) aNil))) (aCall (C_is_index G) (aCons (aOp aIx (aVar 1) (aC (.int 2))) (aCons (aVar 2) aNil))))) aNext)))
def N_is_write : List Str := [Str.ofString "program", Str.ofString "known", Str.ofString "write"]
def b_is_write (G : Gp) : AS := (aSeq (aIf (aOr (aNot (aB (aIsi isiTup (aVar 2)))) (aOr (aB (aOp aNeD (aNary aLen (aCons (aVar 2) aNil)) (aC (.int 3)))) (aNot (aB (aCall (C_is_index G) (aCons (aOp aIx (aVar 2) (aC (.int 0))) (aCons (aNary aLen (aCons (aProg (fun _ p _ _ => p) (aVar 0)) aNil)) aNil))))))) (aSeq (aRet (aC (.bool false))) aNext) aNext) (aSeq (aRet (aAndV (aOp (aIn false) (aOp aIx (aVar 2) (aC (.int 1))) (aOp aIx (aOp aIx (aProg (fun _ p _ _ => p) (aVar 0)) (aOp aIx (aVar 2) (aC (.int 0)))) (aC (.int 1)))) (aCall (C_is_index G) (aCons (aOp aIx (aVar 2) (aC (.int 2))) (aCons (aVar 1) aNil))))) aNext))
def N_are_holds : List Str := [Str.ofString "holds", Str.ofString "known", Str.ofString "count", Str.ofString "k"]
def b_are_holds (G : Gp) : AS := (aSeq (aIf (aOr (aNot (aB (aIsi isiTup (aVar 0)))) (aB (aOp aNeD (aNary aLen (aCons (aVar 0) aNil)) (aVar 2)))) (aSeq (aRet (aC (.bool false))) aNext) aNext) (aSeq (aIf (aNot (aB (aGen true (aWalk (aVar 0)) (.nm 3) (aCall (C_is_index G) (aCons (aVar 3) (aCons (aVar 1) aNil))) [3]))) (aSeq (aRet (aC (.bool false))) aNext) aNext) (aSeq (aRet (aGen true (aRange (aOp oSub (aVar 2) (aC (.int 1)))) (.nm 3) (aOp oLt (aOp aIx (aVar 0) (aVar 3)) (aOp aIx (aVar 0) (aOp oAdd (aVar 3) (aC (.int 1))))) [3])) aNext)))
def N_is_row : List Str := [Str.ofString "program", Str.ofString "cell", Str.ofString "row", Str.ofString "known", Str.ofString "write"]
def b_is_row (G : Gp) : AS := (aSeq (aAsg (aOp oSub (aOp oAdd (aOp aIx (aOp aIx (aProg (fun _ _ m _ => m) (aVar 0)) (aOp aIx (aVar 1) (aC (.int 0)))) (aC (.int 1))) (aC (.int 1))) (aOp oMod (aOp aIx (aVar 1) (aC (.int 2))) (aC (.int 2)))) (aName 3)) (aSeq (aIf (aOr (aNot (aB (aIsi isiTup (aVar 2)))) (aOr (aB (aOp aNeD (aNary aLen (aCons (aVar 2) aNil)) (aC (.int 3)))) (aNot (aB (aCall (C_is_index G) (aCons (aOp aIx (aVar 2) (aC (.int 0))) (aCons (aNary aLen (aCons (aProg (fun _ _ m _ => m) (aVar 0)) aNil)) aNil))))))) (aSeq (aRet (aC (.bool false))) aNext) aNext) (aSeq (aIf (aNot (aB (aCall (C_are_holds G) (aCons (aOp aIx (aVar 2) (aC (.int 1))) (aCons (aVar 3) (aCons (aOp aIx (aOp aIx (aProg (fun _ _ m _ => m) (aVar 0)) (aOp aIx (aVar 2) (aC (.int 0)))) (aC (.int 1))) aNil)))))) (aSeq (aRet (aC (.bool false))) aNext) aNext) (aSeq (aIf (aOr (aNot (aB (aIsi isiTup (aOp aIx (aVar 2) (aC (.int 2)))))) (aB (aOp oGt (aNary aLen (aCons (aOp aIx (aVar 2) (aC (.int 2))) aNil)) (aC (.int 4))))) (aSeq (aRet (aC (.bool false))) aNext) aNext) (aSeq (aRet (aGen true (aWalk (aOp aIx (aVar 2) (aC (.int 2)))) (.nm 4) (aCall (C_is_write G) (aCons (aVar 0) (aCons (aVar 3) (aCons (aVar 4) aNil)))) [4])) aNext)))))
def N_is_integer : List Str := [Str.ofString "value"]
def b_is_integer (G : Gp) : AS := (aSeq (aRet (aAndV (aIsi isiInt (aVar 0)) (aAndV (aNotV (aIsi isiBool (aVar 0))) (aOp oLt (aNary (aIntU fun i => if i < 0 then -i else i) (aCons (aVar 0) aNil)) (aC (.int (10 ^ 30))))))) aNext)
def N_is_event : List Str := [Str.ofString "program", Str.ofString "value"]
def b_is_event (G : Gp) : AS := (aSeq (aIf (aOr (aNot (aB (aIsi isiTup (aVar 1)))) (aB (aOp aNeD (aNary aLen (aCons (aVar 1) aNil)) (aC (.int 2))))) (aSeq (aRet (aC (.bool false))) aNext) aNext) (aSeq (aRet (aAndV (aOp (aIn false) (aOp aIx (aVar 1) (aC (.int 0))) (aProg (fun n _ _ _ => n) (aVar 0))) (aCall (C_is_integer G) (aCons (aOp aIx (aVar 1) (aC (.int 1))) aNil)))) aNext))
def N_is_triple : List Str := [Str.ofString "program", Str.ofString "value", Str.ofString "name", Str.ofString "labels"]
def b_is_triple (G : Gp) : AS := (aSeq (aIf (aOr (aNot (aB (aIsi isiTup (aVar 1)))) (aOr (aB (aOp aNeD (aNary aLen (aCons (aVar 1) aNil)) (aC (.int 3)))) (aNot (aB (aCall (C_is_integer G) (aCons (aOp aIx (aVar 1) (aC (.int 2))) aNil)))))) (aSeq (aRet (aC (.bool false))) aNext) aNext) (aSeq (aRet (aGen false (aWalk (aProg (fun _ p _ _ => p) (aVar 0))) (.tp (.cons (.nm 2) (.cons (.nm 3) .nil))) (aAndV (aOp aEqD (aVar 2) (aOp aIx (aVar 1) (aC (.int 0)))) (aOp (aIn false) (aOp aIx (aVar 1) (aC (.int 1))) (aVar 3))) [2, 3])) aNext))
def N_is_output : List Str := [Str.ofString "program", Str.ofString "value", Str.ofString "triple"]
def b_is_output (G : Gp) : AS := (aSeq (aIf (aOr (aNot (aB (aIsi isiTup (aVar 1)))) (aB (aOp oGt (aNary aLen (aCons (aVar 1) aNil)) (aC (.int 4))))) (aSeq (aRet (aC (.bool false))) aNext) aNext) (aSeq (aRet (aGen true (aWalk (aVar 1)) (.nm 2) (aCall (C_is_triple G) (aCons (aVar 0) (aCons (aVar 2) aNil))) [2])) aNext))
def N_Workshop_init : List Str := [Str.ofString "self", Str.ofString "base"]
def b_Workshop_init (G : Gp) : AS := (aSeq (aFSt G.CW "_base" (aVar 0) (aVar 1)) (aSeq (aFSt G.CW "_events" (aVar 0) (aOwn aNil)) (aSeq (aFSt G.CW "_edits" (aVar 0) (aOwn aNil)) (aSeq (aFSt G.CW "_in_force" (aVar 0) (aOwn aNil)) (aSeq (aFSt G.CW "_tests" (aVar 0) (aOwn aNil)) (aSeq (aFSt G.CW "_last" (aVar 0) (aOwn aNil)) (aSeq (aFSt G.CW "_runs" (aVar 0) (aC (.int 0))) aNext)))))))
def N_in_force : List Str := [Str.ofString "self", Str.ofString "number", Str.ofString "force"]
def b_in_force (G : Gp) : AS := (aSeq (aRet (aLc (aEnO (aFld G.CW "_in_force" (aVar 0))) (.tp (.cons (.nm 1) (.cons (.nm 2) .nil))) (aB (aVar 2)) (aVar 1) [1, 2])) aNext)
def N_Workshop_tests : List Str := [Str.ofString "self", Str.ofString "events", Str.ofString "outputs"]
def b_Workshop_tests (G : Gp) : AS := (aSeq (aRet (aLc (aWalk (aFld G.CW "_tests" (aVar 0))) (.tp (.cons (.nm 1) (.cons (.nm 2) .nil))) aYes (aTup (aCons (aNary aListOf (aCons (aVar 1) aNil)) (aCons (aNary aListOf (aCons (aVar 2) aNil)) aNil))) [1, 2])) aNext)
def N_Workshop_take : List Str := [Str.ofString "self", Str.ofString "event"]
def b_Workshop_take (G : Gp) : AS := (aSeq (aIf (aB (aOp aEqD (aNary aLen (aCons (aFld G.CW "_events" (aVar 0)) aNil)) (aC (.int 100)))) (aSeq aNever aNext) aNext) (aSeq (aExpr (aApp (aFld G.CW "_events" (aVar 0)) (aVar 1))) aNext))
def N_Workshop_edit : List Str := [Str.ofString "self", Str.ofString "hand", Str.ofString "cell", Str.ofString "row"]
def b_Workshop_edit (G : Gp) : AS := (aSeq (aAsg (aCall (C_frozen G) (aCons (aVar 2) aNil)) (aName 2)) (aSeq (aAsg (aCall (C_frozen G) (aCons (aVar 3) aNil)) (aName 3)) (aSeq (aIf (aOr (aNot (aB (aCall (C_is_index G) (aCons (aVar 1) (aCons (aC (.int 10)) aNil))))) (aOr (aNot (aB (aCall (C_is_cell G) (aCons (aFld G.CW "_base" (aVar 0)) (aCons (aVar 2) aNil))))) (aNot (aB (aCall (C_is_row G) (aCons (aFld G.CW "_base" (aVar 0)) (aCons (aVar 2) (aCons (aVar 3) aNil)))))))) (aSeq aNever aNext) aNext) (aSeq (aExpr (aMeth G.CW "_take" (C_Workshop_take G) (aVar 0) (aCons (aTup (aCons (aC (.str (Str.ofString "edit"))) (aCons (aVar 1) (aCons (aVar 2) (aCons (aVar 3) aNil))))) aNil))) (aSeq (aExpr (aApp (aFld G.CW "_edits" (aVar 0)) (aTup (aCons (aVar 1) (aCons (aVar 2) (aCons (aVar 3) aNil)))))) (aSeq (aExpr (aApp (aFld G.CW "_in_force" (aVar 0)) (aC (.bool true)))) (aSeq (aRet (aOp oSub (aNary aLen (aCons (aFld G.CW "_edits" (aVar 0)) aNil)) (aC (.int 1)))) aNext)))))))
def N_Workshop_turn : List Str := [Str.ofString "self", Str.ofString "word", Str.ofString "number", Str.ofString "force"]
def b_Workshop_turn (G : Gp) : AS := (aSeq (aIf (aOr (aNot (aB (aCall (C_is_index G) (aCons (aVar 2) (aCons (aNary aLen (aCons (aFld G.CW "_edits" (aVar 0)) aNil)) aNil))))) (aB (aOp aEqD (aOp aIx (aFld G.CW "_in_force" (aVar 0)) (aVar 2)) (aVar 3)))) (aSeq aNever aNext) aNext) (aSeq (aExpr (aMeth G.CW "_take" (C_Workshop_take G) (aVar 0) (aCons (aTup (aCons (aVar 1) (aCons (aVar 2) aNil))) aNil))) (aSeq (aAsg (aVar 3) (aSetIx (aFld G.CW "_in_force" (aVar 0)) (aVar 2))) aNext)))
def N_Workshop_undo : List Str := [Str.ofString "self", Str.ofString "number"]
def b_Workshop_undo (G : Gp) : AS := (aSeq (aExpr (aMeth G.CW "_turn" (C_Workshop_turn G) (aVar 0) (aCons (aC (.str (Str.ofString "undo"))) (aCons (aVar 1) (aCons (aC (.bool false)) aNil))))) aNext)
def N_Workshop_redo : List Str := [Str.ofString "self", Str.ofString "number"]
def b_Workshop_redo (G : Gp) : AS := (aSeq (aExpr (aMeth G.CW "_turn" (C_Workshop_turn G) (aVar 0) (aCons (aC (.str (Str.ofString "redo"))) (aCons (aVar 1) (aCons (aC (.bool true)) aNil))))) aNext)
def N_Workshop_test : List Str := [Str.ofString "self", Str.ofString "events", Str.ofString "outputs", Str.ofString "event", Str.ofString "output"]
def b_Workshop_test (G : Gp) : AS := (aSeq (aAsg (aCall (C_frozen G) (aCons (aVar 1) aNil)) (aName 1)) (aSeq (aAsg (aCall (C_frozen G) (aCons (aVar 2) aNil)) (aName 2)) (aSeq (aIf (aOr (aNot (aB (aIsi isiTup (aVar 1)))) (aB (aOp aEqD (aNary aLen (aCons (aVar 1) aNil)) (aC (.int 0))))) (aSeq aNever aNext) aNext) (aSeq (aIf (aNot (aB (aGen true (aWalk (aVar 1)) (.nm 3) (aCall (C_is_event G) (aCons (aFld G.CW "_base" (aVar 0)) (aCons (aVar 3) aNil))) [3]))) (aSeq aNever aNext) aNext) (aSeq (aIf (aOr (aNot (aB (aIsi isiTup (aVar 2)))) (aB (aOp aNeD (aNary aLen (aCons (aVar 2) aNil)) (aNary aLen (aCons (aVar 1) aNil))))) (aSeq aNever aNext) aNext) (aSeq (aIf (aNot (aB (aGen true (aWalk (aVar 2)) (.nm 4) (aCall (C_is_output G) (aCons (aFld G.CW "_base" (aVar 0)) (aCons (aVar 4) aNil))) [4]))) (aSeq aNever aNext) aNext) (aSeq (aExpr (aMeth G.CW "_take" (C_Workshop_take G) (aVar 0) (aCons (aTup (aCons (aC (.str (Str.ofString "test"))) (aCons (aVar 1) (aCons (aVar 2) aNil)))) aNil))) (aSeq (aExpr (aApp (aFld G.CW "_tests" (aVar 0)) (aTup (aCons (aVar 1) (aCons (aVar 2) aNil))))) (aSeq (aExpr (aApp (aFld G.CW "_last" (aVar 0)) (aC .none))) (aSeq (aRet (aOp oSub (aNary aLen (aCons (aFld G.CW "_tests" (aVar 0)) aNil)) (aC (.int 1)))) aNext))))))))))
def N_Workshop_program_with : List Str := [Str.ofString "self", Str.ofString "numbers", Str.ofString "number"]
def b_Workshop_program_with (G : Gp) : AS := (aSeq (aRet (aCall (C_with_rows G) (aCons (aFld G.CW "_base" (aVar 0)) (aCons (aLc (aWalk (aVar 1)) (.nm 2) aYes (aSl (aOp aIx (aFld G.CW "_edits" (aVar 0)) (aVar 2)) (aSoO (aC (.int 1))) aNoO) [2]) aNil)))) aNext)
def N_Workshop_program : List Str := [Str.ofString "self"]
def b_Workshop_program (G : Gp) : AS := (aSeq (aRet (aMeth G.CW "program_with" (C_Workshop_program_with G) (aVar 0) (aCons (aProp G.CW (C_in_force G) (aVar 0)) aNil))) aNext)
def N_Workshop_is_stale : List Str := [Str.ofString "self", Str.ofString "program", Str.ofString "number", Str.ofString "last", Str.ofString "cell", Str.ofString "row"]
def b_Workshop_is_stale (G : Gp) : AS := (aSeq (aAsg (aOp aIx (aFld G.CW "_last" (aVar 0)) (aVar 2)) (aName 3)) (aSeq (aIf (aB (aIsN (aVar 3))) (aSeq (aRet (aC (.bool true))) aNext) aNext) (aSeq (aRet (aGen false (aWalk (aOp aIx (aVar 3) (aC (.int 0)))) (.tp (.cons (.nm 4) (.cons (.nm 5) .nil))) (aOp aNeD (aCall (C_row_at G) (aCons (aVar 1) (aCons (aVar 4) aNil))) (aVar 5)) [4, 5])) aNext)))
def N_Workshop_stale : List Str := [Str.ofString "self", Str.ofString "program", Str.ofString "number"]
def b_Workshop_stale (G : Gp) : AS := (aSeq (aAsg (aMeth G.CW "program" (C_Workshop_program G) (aVar 0) aNil) (aName 1)) (aSeq (aRet (aLc (aRange (aNary aLen (aCons (aFld G.CW "_tests" (aVar 0)) aNil))) (.nm 2) (aB (aMeth G.CW "_is_stale" (C_Workshop_is_stale G) (aVar 0) (aCons (aVar 1) (aCons (aVar 2) aNil)))) (aVar 2) [2])) aNext))
def N_Workshop_verdicts : List Str := [Str.ofString "self", Str.ofString "program", Str.ofString "result", Str.ofString "number", Str.ofString "events", Str.ofString "outputs", Str.ofString "rows", Str.ofString "_", Str.ofString "written", Str.ofString "touched", Str.ofString "cell"]
def b_Workshop_verdicts (G : Gp) : AS := (aSeq (aAsg (aMeth G.CW "program" (C_Workshop_program G) (aVar 0) aNil) (aName 1)) (aSeq (aAsg (aOwn aNil) (aName 2)) (aSeq (aFor (aEnO (aFld G.CW "_tests" (aVar 0))) (.tp (.cons (.nm 3) (.cons (.tp (.cons (.nm 4) (.cons (.nm 5) .nil))) .nil))) (aSeq (aIf (aB (aMeth G.CW "_is_stale" (C_Workshop_is_stale G) (aVar 0) (aCons (aVar 1) (aCons (aVar 3) aNil)))) (aSeq (aAsg (aCall (C_run G) (aCons (aVar 1) (aCons (aVar 4) aNil))) (aTg (.tp (.cons (.nm 7) (.cons (.nm 8) (.cons (.nm 9) .nil)))))) (aSeq (aAsg (aLc (aWalk (aVar 9)) (.nm 10) aYes (aTup (aCons (aVar 10) (aCons (aCall (C_row_at G) (aCons (aVar 1) (aCons (aVar 10) aNil))) aNil))) [10]) (aName 6)) (aSeq (aAsg (aTup (aCons (aVar 6) (aCons (aOp aEqD (aVar 8) (aNary aListOf (aCons (aVar 5) aNil))) aNil))) (aSetIx (aFld G.CW "_last" (aVar 0)) (aVar 3))) (aSeq (aFAug G.CW "_runs" (aVar 0) (aC (.int 1))) aNext)))) aNext) (aSeq (aExpr (aApp (aVar 2) (aOp aIx (aOp aIx (aFld G.CW "_last" (aVar 0)) (aVar 3)) (aC (.int 1))))) aNext))) (aSeq (aRet (aFrz (aVar 2))) aNext))))
def N_l_cell : List Str := [Str.ofString "_law_script", Str.ofString "_law_k"]
def b_l_cell (G : Gp) : AS := (aSeq (aIf (aB (aOp oLt (aVar 1) (aNary aLen (aCons (aVar 0) aNil)))) (aSeq (aRet (aOp aIx (aVar 0) (aVar 1))) aNext) aNext) (aSeq (aRet (aC (.int 0))) aNext))
def N_l_source : List Str := [Str.ofString "_law_cell_here", Str.ofString "_law_k"]
def b_l_source (G : Gp) : AS := (aSeq (aIf (aB (aOp oGe (aVar 0) (aOp oPow (aC (.int 10)) (aC (.int 18))))) (aSeq (aRet (aOwn (aCons (aOp oSub (aVar 0) (aOp oPow (aC (.int 10)) (aC (.int 18)))) (aCons (aOp oAdd (aVar 1) (aC (.int 1))) aNil)))) aNext) aNext) (aSeq (aRet (aOwn (aCons (aC (.int 0)) (aCons (aOp oMod (aNary (aIntU fun i => i) (aCons (aOp oAdd (aOp oAdd (aOp oMul (aVar 0) (aC (.int 7919))) (aOp oMul (aVar 1) (aC (.int 104729)))) (aC (.int 1))) aNil)) (aC (.int 2147483647))) aNil)))) aNext))
def N_l_pick : List Str := [Str.ofString "_law_source_here", Str.ofString "_law_many", Str.ofString "_law_mixed", Str.ofString "_law_picked"]
def b_l_pick (G : Gp) : AS := (aSeq (aIf (aB (aOp oGt (aOp aIx (aVar 0) (aC (.int 0))) (aC (.int 1)))) (aSeq (aAsg (aOp oMod (aNary (aIntU fun i => i) (aCons (aOp aIx (aVar 0) (aC (.int 0))) aNil)) (aVar 1)) (aName 3)) (aSeq (aAsg (aOp oFdiv (aOp aIx (aVar 0) (aC (.int 0))) (aVar 1)) (aSetIx (aVar 0) (aC (.int 0)))) (aSeq (aRet (aVar 3)) aNext))) aNext) (aSeq (aAsg (aOp oMod (aNary (aIntU fun i => i) (aCons (aOp oAdd (aOp oMul (aOp aIx (aVar 0) (aC (.int 1))) (aC (.int 48271))) (aC (.int 12345))) aNil)) (aC (.int 2147483647))) (aSetIx (aVar 0) (aC (.int 1)))) (aSeq (aAsg (aOp oMod (aNary (aIntU fun i => i) (aCons (aOp oAdd (aOp oAdd (aOp oMul (aOp aIx (aVar 0) (aC (.int 1))) (aC (.int 69621))) (aOp oFdiv (aOp aIx (aVar 0) (aC (.int 1))) (aC (.int 127)))) (aC (.int 7))) aNil)) (aC (.int 2147483629))) (aName 2)) (aSeq (aRet (aOp oMod (aNary (aIntU fun i => i) (aCons (aOp oFdiv (aVar 2) (aC (.int 16))) aNil)) (aVar 1))) aNext))))
def N_l_worded : List Str := [Str.ofString "_law_source_here", Str.ofString "_law_words"]
def b_l_worded (G : Gp) : AS := (aSeq (aRet (aOp aIx (aVar 1) (aCall (C_l_pick G) (aCons (aVar 0) (aCons (aNary aLen (aCons (aVar 1) aNil)) aNil))))) aNext)
def N_l_cells : List Str := [Str.ofString "_law_plan_here", Str.ofString "_law_every", Str.ofString "_law_mode", Str.ofString "_law_name", Str.ofString "_law_position_here"]
def b_l_cells (G : Gp) : AS := (aSeq (aAsg (aLst aNil) (aName 1)) (aSeq (aFor (aRange (aNary aLen (aCons (aOp aIx (aVar 0) (aC (.int 2))) aNil))) (.nm 2) (aSeq (aFor (aRange (aNary aLen (aCons (aOp aIx (aVar 0) (aC (.int 0))) aNil))) (.nm 3) (aSeq (aAsg (aOp aCat (aVar 1) (aLc (aRange (aOp oAdd (aOp oMul (aC (.int 2)) (aOp aIx (aOp aIx (aOp aIx (aVar 0) (aC (.int 2))) (aVar 2)) (aC (.int 1)))) (aC (.int 1)))) (.nm 4) aYes (aTup (aCons (aVar 2) (aCons (aVar 3) (aCons (aVar 4) aNil)))) [4])) (aName 1)) aNext)) aNext)) (aSeq (aRet (aVar 1)) aNext)))
def N_l_known : List Str := [Str.ofString "_law_plan_here", Str.ofString "_law_cell_here"]
def b_l_known (G : Gp) : AS := (aSeq (aRet (aOp oSub (aOp oAdd (aOp aIx (aOp aIx (aOp aIx (aVar 0) (aC (.int 2))) (aOp aIx (aVar 1) (aC (.int 0)))) (aC (.int 1))) (aC (.int 1))) (aOp oMod (aOp aIx (aVar 1) (aC (.int 2))) (aC (.int 2))))) aNext)
def N_l_some : List Str := [Str.ofString "_law_source_here", Str.ofString "_law_known_here", Str.ofString "_law_count", Str.ofString "_law_left", Str.ofString "_law_k", Str.ofString "_law_at"]
def b_l_some (G : Gp) : AS := (aSeq (aAsg (aLc (aRange (aVar 1)) (.nm 4) aYes (aVar 4) [4]) (aName 3)) (aSeq (aFor (aRange (aOp oSub (aVar 1) (aVar 2))) (.nm 4) (aSeq (aAsg (aCall (C_l_pick G) (aCons (aVar 0) (aCons (aNary aLen (aCons (aVar 3) aNil)) aNil))) (aName 5)) (aSeq (aAsg (aOp aCat (aSl (aVar 3) aNoO (aSoO (aVar 5))) (aSl (aVar 3) (aSoO (aOp oAdd (aVar 5) (aC (.int 1)))) aNoO)) (aName 3)) aNext))) (aSeq (aRet (aNary aTupOf (aCons (aVar 3) aNil))) aNext)))
def N_l_writes : List Str := [Str.ofString "_law_source_here", Str.ofString "_law_plan_here", Str.ofString "_law_known_here", Str.ofString "_law_writes_here", Str.ofString "_law_k", Str.ofString "_law_port"]
def b_l_writes (G : Gp) : AS := (aSeq (aAsg (aOwn aNil) (aName 3)) (aSeq (aFor (aRange (aOp aIx (aLst (aCons (aC (.int 0)) (aCons (aC (.int 0)) (aCons (aC (.int 1)) (aCons (aC (.int 1)) (aCons (aC (.int 1)) (aCons (aC (.int 2)) (aCons (aC (.int 3)) (aCons (aC (.int 4)) aNil))))))))) (aCall (C_l_pick G) (aCons (aVar 0) (aCons (aC (.int 8)) aNil))))) (.nm 4) (aSeq (aAsg (aCall (C_l_pick G) (aCons (aVar 0) (aCons (aNary aLen (aCons (aOp aIx (aVar 1) (aC (.int 1))) aNil)) aNil))) (aName 5)) (aSeq (aExpr (aApp (aVar 3) (aTup (aCons (aVar 5) (aCons (aCall (C_l_worded G) (aCons (aVar 0) (aCons (aOp aIx (aOp aIx (aOp aIx (aVar 1) (aC (.int 1))) (aVar 5)) (aC (.int 1))) aNil))) (aCons (aCall (C_l_pick G) (aCons (aVar 0) (aCons (aVar 2) aNil))) aNil)))))) aNext))) (aSeq (aRet (aNary aTupOf (aCons (aFrz (aVar 3)) aNil))) aNext)))
def N_l_drawn_row : List Str := [Str.ofString "_law_source_here", Str.ofString "_law_plan_here", Str.ofString "_law_cell_here", Str.ofString "_law_known_here", Str.ofString "_law_target", Str.ofString "_law_k"]
def b_l_drawn_row (G : Gp) : AS := (aSeq (aAsg (aCall (C_l_known G) (aCons (aVar 1) (aCons (aVar 2) aNil))) (aName 3)) (aSeq (aAsg (aCall (C_l_worded G) (aCons (aVar 0) (aCons (aLc (aRange (aNary aLen (aCons (aOp aIx (aVar 1) (aC (.int 2))) aNil))) (.nm 5) (aB (aOp oLe (aOp aIx (aOp aIx (aOp aIx (aVar 1) (aC (.int 2))) (aVar 5)) (aC (.int 1))) (aVar 3))) (aVar 5) [5]) aNil))) (aName 4)) (aSeq (aRet (aTup (aCons (aVar 4) (aCons (aCall (C_l_some G) (aCons (aVar 0) (aCons (aVar 3) (aCons (aOp aIx (aOp aIx (aOp aIx (aVar 1) (aC (.int 2))) (aVar 4)) (aC (.int 1))) aNil)))) (aCons (aCall (C_l_writes G) (aCons (aVar 0) (aCons (aVar 1) (aCons (aVar 3) aNil)))) aNil))))) aNext)))
def N_l_named : List Str := [Str.ofString "_law_source_here", Str.ofString "_law_count", Str.ofString "_law_ends", Str.ofString "_law_letters", Str.ofString "_law_menu", Str.ofString "_law_words", Str.ofString "_law_k", Str.ofString "_law_word", Str.ofString "_law_turn", Str.ofString "_law_j"]
def b_l_named (G : Gp) : AS := (aSeq (aAsg (aC (.str (Str.ofString "abcdefghijklmnopqrstuvwxyz"))) (aName 3)) (aSeq (aAsg (aLst (aCons (aC (.str (Str.ofString "put"))) (aCons (aC (.str (Str.ofString "pull"))) (aCons (aC (.str (Str.ofString "at"))) (aCons (aC (.str (Str.ofString "write"))) (aCons (aC (.str (Str.ofString "go"))) (aCons (aC (.str (Str.ofString "hold"))) (aCons (aC (.str (Str.ofString "vex"))) (aCons (aC (.str (Str.ofString "hear"))) (aCons (aC (.str (Str.ofString "port"))) (aCons (aC (.str (Str.ofString "mode"))) (aCons (aC (.str (Str.ofString "test"))) (aCons (aC (.str (Str.ofString "edit"))) (aCons (aC (.str (Str.ofString "undo"))) (aCons (aC (.str (Str.ofString "redo"))) (aCons (aC (.str (Str.ofString "a"))) (aCons (aC (.str (Str.ofString "putx"))) (aCons (aC (.str (Str.ofString "jq"))) aNil)))))))))))))))))) (aName 4)) (aSeq (aAsg (aOwn aNil) (aName 5)) (aSeq (aFor (aRange (aVar 1)) (.nm 6) (aSeq (aAsg (aCall (C_l_worded G) (aCons (aVar 0) (aCons (aVar 4) aNil))) (aName 7)) (aSeq (aIf (aB (aOp aEqD (aCall (C_l_pick G) (aCons (aVar 0) (aCons (aC (.int 2)) aNil))) (aC (.int 0)))) (aSeq (aAsg (aOp aIx (aC (.str (Str.ofString "abcdefghijklmopqrstuvwxy"))) (aCall (C_l_pick G) (aCons (aVar 0) (aCons (aC (.int 24)) aNil)))) (aName 7)) (aSeq (aFor (aRange (aOp aIx (aLst (aCons (aC (.int 0)) (aCons (aC (.int 1)) (aCons (aC (.int 2)) (aCons (aC (.int 7)) aNil))))) (aCall (C_l_pick G) (aCons (aVar 0) (aCons (aC (.int 4)) aNil))))) (.nm 9) (aSeq (aAsg (aOp aAddS (aVar 7) (aOp aIx (aVar 3) (aCall (C_l_pick G) (aCons (aVar 0) (aCons (aC (.int 26)) aNil))))) (aName 7)) aNext)) aNext)) aNext) (aSeq (aIf (aAnd (aB (aOp oGt (aNary aLen (aCons (aVar 2) aNil)) (aC (.int 0)))) (aB (aOp aEqD (aCall (C_l_pick G) (aCons (aVar 0) (aCons (aC (.int 3)) aNil))) (aC (.int 0))))) (aSeq (aAsg (aOp aAddS (aOp aAddS (aSl (aVar 7) aNoO (aSoO (aC (.int 6)))) (aOp aIx (aVar 2) (aCall (C_l_pick G) (aCons (aVar 0) (aCons (aC (.int 10)) aNil))))) (aOp aIx (aVar 2) (aCall (C_l_pick G) (aCons (aVar 0) (aCons (aC (.int 10)) aNil))))) (aName 7)) aNext) aNext) (aSeq (aFor (aRange (aVar 1)) (.nm 8) (aSeq (aIf (aB (aOp (aIn false) (aVar 7) (aVar 5))) (aSeq (aAsg (aOp aAddS (aOp aIx (aC (.str (Str.ofString "abcdefghijklmopq"))) (aVar 8)) (aSl (aVar 7) (aSoO (aC (.int 1))) aNoO)) (aName 7)) aNext) aNext) aNext)) (aSeq (aExpr (aApp (aVar 5) (aVar 7))) aNext)))))) (aSeq (aRet (aNary aTupOf (aCons (aFrz (aVar 5)) aNil))) aNext)))))
def N_l_plan : List Str := [Str.ofString "_law_source_here", Str.ofString "_law_wide", Str.ofString "_law_names", Str.ofString "_law_told", Str.ofString "_law_first", Str.ofString "_law_second", Str.ofString "_law_ports", Str.ofString "_law_count", Str.ofString "_law_counts", Str.ofString "_law_words", Str.ofString "_law_modes", Str.ofString "_law_plan_here", Str.ofString "_law_rows", Str.ofString "_law_cell_here", Str.ofString "_law_k"]
def b_l_plan (G : Gp) : AS := (aSeq (aAsg (aCall (C_l_named G) (aCons (aVar 0) (aCons (aOp aIx (aOp aIx (aLst (aCons (aLst (aCons (aC (.int 1)) (aCons (aC (.int 1)) (aCons (aC (.int 2)) (aCons (aC (.int 1)) aNil))))) (aCons (aLst (aCons (aC (.int 1)) (aCons (aC (.int 2)) (aCons (aC (.int 3)) (aCons (aC (.int 4)) aNil))))) aNil))) (aVar 1)) (aCall (C_l_pick G) (aCons (aVar 0) (aCons (aC (.int 4)) aNil)))) (aCons (aC (.str (Str.ofString ""))) aNil)))) (aName 2)) (aSeq (aAsg (aCall (C_l_named G) (aCons (aVar 0) (aCons (aC (.int 3)) (aCons (aC (.str (Str.ofString ""))) aNil)))) (aName 3)) (aSeq (aAsg (aCall (C_l_named G) (aCons (aVar 0) (aCons (aC (.int 2)) (aCons (aC (.str (Str.ofString ""))) aNil)))) (aName 4)) (aSeq (aAsg (aCall (C_l_named G) (aCons (aVar 0) (aCons (aC (.int 2)) (aCons (aC (.str (Str.ofString ""))) aNil)))) (aName 5)) (aSeq (aIf (aB (aOp (aIn true) (aOp aIx (aVar 4) (aC (.int 1))) (aVar 5))) (aSeq (aAsg (aTup (aCons (aOp aIx (aVar 5) (aC (.int 0))) (aCons (aOp aIx (aVar 4) (aC (.int 1))) aNil))) (aName 5)) aNext) aNext) (aSeq (aAsg (aLst (aCons (aTup (aCons (aOp aIx (aVar 3) (aC (.int 0))) (aCons (aVar 4) aNil))) (aCons (aTup (aCons (aOp aIx (aVar 3) (aC (.int 1))) (aCons (aVar 5) aNil))) (aCons (aTup (aCons (aOp aIx (aVar 3) (aC (.int 2))) (aCons (aCall (C_l_named G) (aCons (aVar 0) (aCons (aC (.int 4)) (aCons (aC (.str (Str.ofString ""))) aNil)))) aNil))) aNil)))) (aName 6)) (aSeq (aAsg (aSl (aVar 6) aNoO (aSoO (aOp aIx (aLst (aCons (aC (.int 1)) (aCons (aC (.int 1)) (aCons (aC (.int 2)) (aCons (aOp oAdd (aC (.int 1)) (aOp oMul (aC (.int 2)) (aVar 1))) aNil))))) (aCall (C_l_pick G) (aCons (aVar 0) (aCons (aC (.int 4)) aNil)))))) (aName 6)) (aSeq (aAsg (aOp aIx (aLst (aCons (aC (.int 0)) (aCons (aC (.int 1)) (aCons (aC (.int 1)) (aCons (aC (.int 2)) (aCons (aOp oAdd (aC (.int 2)) (aOp oMul (aC (.int 2)) (aVar 1))) aNil)))))) (aCall (C_l_pick G) (aCons (aVar 0) (aCons (aC (.int 5)) aNil)))) (aName 7)) (aSeq (aAsg (aLst (aCons (aC (.int 0)) (aCons (aC (.int 1)) (aCons (aC (.int 1)) (aCons (aC (.int 2)) (aCons (aOp oAdd (aC (.int 2)) (aVar 1)) aNil)))))) (aName 8)) (aSeq (aIf (aAnd (aB (aOp aEqD (aVar 1) (aC (.int 1)))) (aB (aOp aEqD (aCall (C_l_pick G) (aCons (aVar 0) (aCons (aC (.int 10)) aNil))) (aC (.int 0))))) (aSeq (aAsg (aOp oAdd (aC (.int 5)) (aCall (C_l_pick G) (aCons (aVar 0) (aCons (aC (.int 11)) aNil)))) (aName 7)) (aSeq (aAsg (aLst (aCons (aC (.int 0)) (aCons (aC (.int 1)) (aCons (aC (.int 1)) (aCons (aC (.int 0)) (aCons (aC (.int 1)) aNil)))))) (aName 8)) (aSeq (aAsg (aSl (aVar 2) aNoO (aSoO (aC (.int 2)))) (aName 2)) aNext))) aNext) (aSeq (aAsg (aCall (C_l_named G) (aCons (aVar 0) (aCons (aOp oAdd (aVar 7) (aC (.int 1))) (aCons (aC (.str (Str.ofString "0123456789"))) aNil)))) (aName 9)) (aSeq (aAsg (aOp aCat (aLst (aCons (aTup (aCons (aOp aIx (aVar 9) (aC (.int 0))) (aCons (aC (.int 0)) aNil))) aNil)) (aLc (aRange (aVar 7)) (.nm 14) aYes (aTup (aCons (aOp aIx (aVar 9) (aOp oAdd (aVar 14) (aC (.int 1)))) (aCons (aOp aIx (aVar 8) (aCall (C_l_pick G) (aCons (aVar 0) (aCons (aC (.int 5)) aNil)))) aNil))) [14])) (aName 10)) (aSeq (aAsg (aLst (aCons (aNary aTupOf (aCons (aVar 2) aNil)) (aCons (aNary aTupOf (aCons (aVar 6) aNil)) (aCons (aNary aTupOf (aCons (aVar 10) aNil)) (aCons (aLst aNil) aNil))))) (aName 11)) (aSeq (aAsg (aOwn aNil) (aName 12)) (aSeq (aFor (aWalk (aCall (C_l_cells G) (aCons (aVar 11) aNil))) (.nm 13) (aSeq (aIf (aB (aOp oGt (aCall (C_l_pick G) (aCons (aVar 0) (aCons (aC (.int 4)) aNil))) (aC (.int 0)))) (aSeq (aExpr (aApp (aVar 12) (aTup (aCons (aVar 13) (aCons (aCall (C_l_drawn_row G) (aCons (aVar 0) (aCons (aVar 11) (aCons (aVar 13) aNil)))) aNil))))) aNext) aNext) aNext)) (aSeq (aRet (aLst (aCons (aOp aIx (aVar 11) (aC (.int 0))) (aCons (aOp aIx (aVar 11) (aC (.int 1))) (aCons (aOp aIx (aVar 11) (aC (.int 2))) (aCons (aFrz (aVar 12)) aNil)))))) aNext))))))))))))))))
def N_l_program : List Str := [Str.ofString "_law_plan_here"]
def b_l_program (G : Gp) : AS := (aSeq (aRet (aMakeP G.CP (C_Program_init G) (aCons (aOp aIx (aVar 0) (aC (.int 0))) (aCons (aOp aIx (aVar 0) (aC (.int 1))) (aCons (aOp aIx (aVar 0) (aC (.int 2))) (aCons (aRev (aOp aIx (aVar 0) (aC (.int 3)))) aNil)))))) aNext)
def N_l_idle : List Str := [Str.ofString "_law_plan_here", Str.ofString "_law_cell_here", Str.ofString "_law_held", Str.ofString "_law_mode", Str.ofString "_law_name", Str.ofString "_law_position_here", Str.ofString "_law_k"]
def b_l_idle (G : Gp) : AS := (aSeq (aAsg (aVar 1) (aTg (.tp (.cons (.nm 3) (.cons (.nm 4) (.cons (.nm 5) .nil)))))) (aSeq (aAsg (aOp aIx (aOp aIx (aOp aIx (aVar 0) (aC (.int 2))) (aVar 3)) (aC (.int 1))) (aName 2)) (aSeq (aIf (aB (aOp aEqD (aOp oMod (aVar 5) (aC (.int 2))) (aC (.int 1)))) (aSeq (aRet (aTup (aCons (aVar 3) (aCons (aNary aTupOf (aCons (aLc (aRange (aVar 2)) (.nm 6) aYes (aVar 6) [6]) aNil)) (aCons (aTup aNil) aNil))))) aNext) aNext) (aSeq (aRet (aTup (aCons (aVar 3) (aCons (aNary aTupOf (aCons (aLc (aRange (aOp oAdd (aVar 2) (aC (.int 1)))) (.nm 6) (aB (aOp aNeD (aVar 6) (aOp oFdiv (aVar 5) (aC (.int 2))))) (aVar 6) [6]) aNil)) (aCons (aTup aNil) aNil))))) aNext))))
def N_l_table : List Str := [Str.ofString "_law_plan_here", Str.ofString "_law_table_here", Str.ofString "_law_cell_here", Str.ofString "_law_row"]
def b_l_table (G : Gp) : AS := (aSeq (aAsg aDNew (aName 1)) (aSeq (aFor (aWalk (aCall (C_l_cells G) (aCons (aVar 0) aNil))) (.nm 2) (aSeq (aDPut (aVar 1) (aVar 2) (aCall (C_l_idle G) (aCons (aVar 0) (aCons (aVar 2) aNil)))) aNext)) (aSeq (aFor (aWalk (aOp aIx (aVar 0) (aC (.int 3)))) (.tp (.cons (.nm 2) (.cons (.nm 3) .nil))) (aSeq (aDPut (aVar 1) (aVar 2) (aVar 3)) aNext)) (aSeq (aRet (aFrzD (aVar 1))) aNext))))
def N_l_index : List Str := [Str.ofString "_law_words", Str.ofString "_law_word", Str.ofString "_law_k"]
def b_l_index (G : Gp) : AS := (aSeq (aFor (aRange (aNary aLen (aCons (aVar 0) aNil))) (.nm 2) (aSeq (aIf (aB (aOp aEqD (aOp aIx (aVar 0) (aVar 2)) (aVar 1))) (aSeq (aRet (aVar 2)) aNext) aNext) aNext)) (aSeq (aRet (aC .none)) aNext))
def N_l_position : List Str := [Str.ofString "_law_number", Str.ofString "_law_held", Str.ofString "_law_less", Str.ofString "_law_value"]
def b_l_position (G : Gp) : AS := (aSeq (aAsg (aNary aLen (aCons (aLc (aWalk (aVar 1)) (.nm 3) (aB (aOp oLt (aVar 3) (aVar 0))) (aVar 3) [3]) aNil)) (aName 2)) (aSeq (aRet (aOp oAdd (aOp oMul (aC (.int 2)) (aVar 2)) (aNary aLen (aCons (aLc (aWalk (aVar 1)) (.nm 3) (aB (aOp aEqD (aVar 3) (aVar 0))) (aVar 3) [3]) aNil)))) aNext))
def N_l_step : List Str := [Str.ofString "_law_plan_here", Str.ofString "_law_table_here", Str.ofString "_law_place", Str.ofString "_law_event_here", Str.ofString "_law_position_here", Str.ofString "_law_cell_here", Str.ofString "_law_known_here", Str.ofString "_law_output", Str.ofString "_law_target", Str.ofString "_law_holds", Str.ofString "_law_writes_here", Str.ofString "_law_write", Str.ofString "_law_k"]
def b_l_step (G : Gp) : AS := (aSeq (aAsg (aCall (C_l_position G) (aCons (aOp aIx (aVar 3) (aC (.int 1))) (aCons (aOp aIx (aVar 2) (aC (.int 1))) aNil))) (aName 4)) (aSeq (aAsg (aTup (aCons (aOp aIx (aVar 2) (aC (.int 0))) (aCons (aCall (C_l_index G) (aCons (aOp aIx (aVar 0) (aC (.int 0))) (aCons (aOp aIx (aVar 3) (aC (.int 0))) aNil))) (aCons (aVar 4) aNil)))) (aName 5)) (aSeq (aAsg (aNary aSorted (aCons (aOp aCat (aNary aListOf (aCons (aOp aIx (aVar 2) (aC (.int 1))) aNil)) (aSl (aLst (aCons (aOp aIx (aVar 3) (aC (.int 1))) aNil)) aNoO (aSoO (aOp oSub (aC (.int 1)) (aOp oMod (aVar 4) (aC (.int 2))))))) aNil)) (aName 6)) (aSeq (aAsg (aDGet (aVar 1) (aVar 5)) (aTg (.tp (.cons (.nm 8) (.cons (.nm 9) (.cons (.nm 10) .nil)))))) (aSeq (aAsg (aNary aTupOf (aCons (aLc (aWalk (aVar 10)) (.nm 11) aYes (aTup (aCons (aOp aIx (aOp aIx (aOp aIx (aVar 0) (aC (.int 1))) (aOp aIx (aVar 11) (aC (.int 0)))) (aC (.int 0))) (aCons (aOp aIx (aVar 11) (aC (.int 1))) (aCons (aOp aIx (aVar 6) (aOp aIx (aVar 11) (aC (.int 2)))) aNil)))) [11]) aNil)) (aName 7)) (aSeq (aRet (aLst (aCons (aTup (aCons (aVar 8) (aCons (aNary aTupOf (aCons (aLc (aWalk (aVar 9)) (.nm 12) aYes (aOp aIx (aVar 6) (aVar 12)) [12]) aNil)) aNil))) (aCons (aVar 7) (aCons (aVar 5) aNil))))) aNext))))))
def N_l_run : List Str := [Str.ofString "_law_plan_here", Str.ofString "_law_events", Str.ofString "_law_table_here", Str.ofString "_law_place", Str.ofString "_law_outputs", Str.ofString "_law_touched", Str.ofString "_law_event_here", Str.ofString "_law_output", Str.ofString "_law_cell_here"]
def b_l_run (G : Gp) : AS := (aSeq (aAsg (aCall (C_l_table G) (aCons (aVar 0) aNil)) (aName 2)) (aSeq (aAsg (aTup (aCons (aC (.int 0)) (aCons (aTup aNil) aNil))) (aName 3)) (aSeq (aAsg (aOwn aNil) (aName 4)) (aSeq (aAsg (aOwn aNil) (aName 5)) (aSeq (aFor (aWalk (aVar 1)) (.nm 6) (aSeq (aAsg (aCall (C_l_step G) (aCons (aVar 0) (aCons (aVar 2) (aCons (aVar 3) (aCons (aVar 6) aNil))))) (aUnL (.cons (.nm 3) (.cons (.nm 7) (.cons (.nm 8) .nil))))) (aSeq (aExpr (aApp (aVar 4) (aVar 7))) (aSeq (aExpr (aApp (aVar 5) (aVar 8))) aNext)))) (aSeq (aRet (aLst (aCons (aVar 3) (aCons (aFrz (aVar 4)) (aCons (aFrz (aVar 5)) aNil))))) aNext))))))
def N_l_input : List Str := [Str.ofString "_law_source_here", Str.ofString "_law_plan_here", Str.ofString "_law_size", Str.ofString "_law_events", Str.ofString "_law_far", Str.ofString "_law_k", Str.ofString "_law_number"]
def b_l_input (G : Gp) : AS := (aSeq (aAsg (aOwn aNil) (aName 3)) (aSeq (aAsg (aOp aEqD (aCall (C_l_pick G) (aCons (aVar 0) (aCons (aC (.int 4)) aNil))) (aC (.int 0))) (aName 4)) (aSeq (aFor (aRange (aVar 2)) (.nm 5) (aSeq (aAsg (aOp oSub (aCall (C_l_pick G) (aCons (aVar 0) (aCons (aC (.int 6)) aNil))) (aC (.int 2))) (aName 6)) (aSeq (aIf (aB (aVar 4)) (aSeq (aAsg (aOp oAdd (aOp oMul (aVar 6) (aC (.int 1000000007))) (aC (.int 13))) (aName 6)) aNext) aNext) (aSeq (aExpr (aApp (aVar 3) (aTup (aCons (aCall (C_l_worded G) (aCons (aVar 0) (aCons (aOp aIx (aVar 1) (aC (.int 0))) aNil))) (aCons (aVar 6) aNil))))) aNext)))) (aSeq (aRet (aFrz (aVar 3))) aNext))))
def N_l_model : List Str := [Str.ofString "_law_log", Str.ofString "_law_edits", Str.ofString "_law_force", Str.ofString "_law_tests", Str.ofString "_law_event_here", Str.ofString "_law_k"]
def b_l_model (G : Gp) : AS := (aSeq (aAsg (aOwn aNil) (aName 1)) (aSeq (aAsg (aOwn aNil) (aName 2)) (aSeq (aAsg (aOwn aNil) (aName 3)) (aSeq (aFor (aWalk (aVar 0)) (.nm 4) (aSeq (aIf (aB (aOp aEqD (aOp aIx (aVar 4) (aC (.int 0))) (aC (.str (Str.ofString "edit"))))) (aSeq (aExpr (aApp (aVar 1) (aSl (aVar 4) (aSoO (aC (.int 1))) aNoO))) (aSeq (aExpr (aApp (aVar 2) (aC (.bool true)))) aNext)) (aSeq (aIf (aB (aOp aEqD (aOp aIx (aVar 4) (aC (.int 0))) (aC (.str (Str.ofString "test"))))) (aSeq (aExpr (aApp (aVar 3) (aSl (aVar 4) (aSoO (aC (.int 1))) aNoO))) aNext) (aSeq (aAsg (aOp aEqD (aOp aIx (aVar 4) (aC (.int 0))) (aC (.str (Str.ofString "redo")))) (aSetIx (aVar 2) (aOp aIx (aVar 4) (aC (.int 1))))) aNext)) aNext)) aNext)) (aSeq (aRet (aDropE (aLst (aCons (aFrz (aVar 1)) (aCons (aLc (aRange (aNary aLen (aCons (aVar 2) aNil))) (.nm 5) (aB (aOp aIx (aVar 2) (aVar 5))) (aVar 5) [5]) (aCons (aFrz (aVar 3)) aNil)))))) aNext)))))
def N_l_with : List Str := [Str.ofString "_law_plan_here", Str.ofString "_law_edits", Str.ofString "_law_numbers", Str.ofString "_law_rows", Str.ofString "_law_number", Str.ofString "_law_hand", Str.ofString "_law_cell_here", Str.ofString "_law_row", Str.ofString "_law_pair"]
def b_l_with (G : Gp) : AS := (aSeq (aAsg (aNary aListOf (aCons (aOp aIx (aVar 0) (aC (.int 3))) aNil)) (aName 3)) (aSeq (aFor (aWalk (aVar 2)) (.nm 4) (aSeq (aAsg (aOp aIx (aVar 1) (aVar 4)) (aTg (.tp (.cons (.nm 5) (.cons (.nm 6) (.cons (.nm 7) .nil)))))) (aSeq (aAsg (aOp aCat (aLc (aWalk (aVar 3)) (.nm 8) (aB (aOp aNeD (aOp aIx (aVar 8) (aC (.int 0))) (aVar 6))) (aVar 8) [8]) (aLst (aCons (aTup (aCons (aVar 6) (aCons (aVar 7) aNil))) aNil))) (aName 3)) aNext))) (aSeq (aRet (aLst (aCons (aOp aIx (aVar 0) (aC (.int 0))) (aCons (aOp aIx (aVar 0) (aC (.int 1))) (aCons (aOp aIx (aVar 0) (aC (.int 2))) (aCons (aVar 3) aNil)))))) aNext)))
def N_l_now : List Str := [Str.ofString "_law_plan_here", Str.ofString "_law_log", Str.ofString "_law_edits", Str.ofString "_law_force", Str.ofString "_law_tests"]
def b_l_now (G : Gp) : AS := (aSeq (aAsg (aCall (C_l_model G) (aCons (aVar 1) aNil)) (aUnL (.cons (.nm 2) (.cons (.nm 3) (.cons (.nm 4) .nil))))) (aSeq (aRet (aCall (C_l_with G) (aCons (aVar 0) (aCons (aVar 2) (aCons (aVar 3) aNil))))) aNext))
def N_l_event : List Str := [Str.ofString "_law_source_here", Str.ofString "_law_plan_here", Str.ofString "_law_log", Str.ofString "_law_undone", Str.ofString "_law_kind", Str.ofString "_law_cell_here", Str.ofString "_law_row", Str.ofString "_law_edits", Str.ofString "_law_force", Str.ofString "_law_tests", Str.ofString "_law_events", Str.ofString "_law_outputs", Str.ofString "_law_k"]
def b_l_event (G : Gp) : AS := (aSeq (aAsg (aCall (C_l_model G) (aCons (aVar 2) aNil)) (aUnL (.cons (.nm 7) (.cons (.nm 8) (.cons (.nm 9) .nil))))) (aSeq (aAsg (aLc (aRange (aNary aLen (aCons (aVar 7) aNil))) (.nm 12) (aB (aOp (aIn true) (aVar 12) (aVar 8))) (aVar 12) [12]) (aName 3)) (aSeq (aAsg (aCall (C_l_pick G) (aCons (aVar 0) (aCons (aC (.int 8)) aNil))) (aName 4)) (aSeq (aIf (aAnd (aB (aOp aEqD (aVar 4) (aC (.int 0)))) (aB (aOp aNeD (aVar 8) (aLst aNil)))) (aSeq (aRet (aTup (aCons (aC (.str (Str.ofString "undo"))) (aCons (aCall (C_l_worded G) (aCons (aVar 0) (aCons (aVar 8) aNil))) aNil)))) aNext) aNext) (aSeq (aIf (aAnd (aB (aOp aEqD (aVar 4) (aC (.int 1)))) (aB (aOp aNeD (aVar 3) (aLst aNil)))) (aSeq (aRet (aTup (aCons (aC (.str (Str.ofString "redo"))) (aCons (aCall (C_l_worded G) (aCons (aVar 0) (aCons (aVar 3) aNil))) aNil)))) aNext) aNext) (aSeq (aIf (aB (aOp oLt (aVar 4) (aC (.int 4)))) (aSeq (aAsg (aCall (C_l_input G) (aCons (aVar 0) (aCons (aVar 1) (aCons (aOp oAdd (aC (.int 1)) (aCall (C_l_pick G) (aCons (aVar 0) (aCons (aC (.int 6)) aNil)))) aNil)))) (aName 10)) (aSeq (aAsg (aOp aIx (aCall (C_l_run G) (aCons (aCall (C_l_worded G) (aCons (aVar 0) (aCons (aLst (aCons (aVar 1) (aCons (aCall (C_l_now G) (aCons (aVar 1) (aCons (aVar 2) aNil))) aNil))) aNil))) (aCons (aVar 10) aNil))) (aC (.int 1))) (aName 11)) (aSeq (aRet (aTup (aCons (aC (.str (Str.ofString "test"))) (aCons (aVar 10) (aCons (aVar 11) aNil))))) aNext))) aNext) (aSeq (aAsg (aCall (C_l_worded G) (aCons (aVar 0) (aCons (aCall (C_l_cells G) (aCons (aVar 1) aNil)) aNil))) (aName 5)) (aSeq (aIf (aAnd (aB (aOp aNeD (aVar 7) (aLst aNil))) (aB (aOp aEqD (aCall (C_l_pick G) (aCons (aVar 0) (aCons (aC (.int 3)) aNil))) (aC (.int 0))))) (aSeq (aAsg (aOp aIx (aCall (C_l_worded G) (aCons (aVar 0) (aCons (aVar 7) aNil))) (aC (.int 1))) (aName 5)) aNext) aNext) (aSeq (aAsg (aCall (C_l_drawn_row G) (aCons (aVar 0) (aCons (aVar 1) (aCons (aVar 5) aNil)))) (aName 6)) (aSeq (aIf (aB (aOp aEqD (aCall (C_l_pick G) (aCons (aVar 0) (aCons (aC (.int 4)) aNil))) (aC (.int 0)))) (aSeq (aAsg (aDGet (aCall (C_l_table G) (aCons (aVar 1) aNil)) (aVar 5)) (aName 6)) aNext) aNext) (aSeq (aRet (aTup (aCons (aC (.str (Str.ofString "edit"))) (aCons (aCall (C_l_pick G) (aCons (aVar 0) (aCons (aC (.int 3)) aNil))) (aCons (aVar 5) (aCons (aVar 6) aNil)))))) aNext)))))))))))
def N_l_take : List Str := [Str.ofString "_law_shop_here", Str.ofString "_law_event_here"]
def b_l_take (G : Gp) : AS := (aSeq (aIf (aB (aOp aEqD (aOp aIx (aVar 1) (aC (.int 0))) (aC (.str (Str.ofString "edit"))))) (aSeq (aRet (aMeth G.CW "edit" (C_Workshop_edit G) (aVar 0) (aCons (aOp aIx (aVar 1) (aC (.int 1))) (aCons (aOp aIx (aVar 1) (aC (.int 2))) (aCons (aOp aIx (aVar 1) (aC (.int 3))) aNil))))) aNext) aNext) (aSeq (aIf (aB (aOp aEqD (aOp aIx (aVar 1) (aC (.int 0))) (aC (.str (Str.ofString "test"))))) (aSeq (aRet (aMeth G.CW "test" (C_Workshop_test G) (aVar 0) (aCons (aOp aIx (aVar 1) (aC (.int 1))) (aCons (aOp aIx (aVar 1) (aC (.int 2))) aNil)))) aNext) aNext) (aSeq (aIf (aB (aOp aEqD (aOp aIx (aVar 1) (aC (.int 0))) (aC (.str (Str.ofString "undo"))))) (aSeq (aRet (aMeth G.CW "undo" (C_Workshop_undo G) (aVar 0) (aCons (aOp aIx (aVar 1) (aC (.int 1))) aNil))) aNext) aNext) (aSeq (aRet (aMeth G.CW "redo" (C_Workshop_redo G) (aVar 0) (aCons (aOp aIx (aVar 1) (aC (.int 1))) aNil))) aNext))))
def N_l_busy : List Str := [Str.ofString "_law_source_here", Str.ofString "_law_plan_here", Str.ofString "_law_shop_here", Str.ofString "_law_log", Str.ofString "_law_count", Str.ofString "_law_k", Str.ofString "_law_event_here"]
def b_l_busy (G : Gp) : AS := (aSeq (aFor (aRange (aVar 4)) (.nm 5) (aSeq (aAsg (aCall (C_l_event G) (aCons (aVar 0) (aCons (aVar 1) (aCons (aVar 3) aNil)))) (aName 6)) (aSeq (aExpr (aCall (C_l_take G) (aCons (aVar 2) (aCons (aVar 6) aNil)))) (aSeq (aExpr (aApp (aVar 3) (aVar 6))) aNext)))) aNext)
def N_l_shop : List Str := [Str.ofString "_law_source_here", Str.ofString "_law_plan_here", Str.ofString "_law_count", Str.ofString "_law_shop_here", Str.ofString "_law_log"]
def b_l_shop (G : Gp) : AS := (aSeq (aAsg (aMake G.CW (C_Workshop_init G) (aCons (aCall (C_l_program G) (aCons (aVar 1) aNil)) aNil)) (aName 3)) (aSeq (aAsg (aOwn aNil) (aName 4)) (aSeq (aExpr (aCall (C_l_busy G) (aCons (aVar 0) (aCons (aVar 1) (aCons (aVar 3) (aCons (aVar 4) (aCons (aVar 2) aNil))))))) (aSeq (aRet (aTwo (aCons (aVar 3) (aCons (aVar 4) aNil)))) aNext))))
def N_l_other_row : List Str := [Str.ofString "_law_plan_here", Str.ofString "_law_row", Str.ofString "_law_target", Str.ofString "_law_holds", Str.ofString "_law_writes_here"]
def b_l_other_row (G : Gp) : AS := (aSeq (aAsg (aVar 1) (aTg (.tp (.cons (.nm 2) (.cons (.nm 3) (.cons (.nm 4) .nil)))))) (aSeq (aIf (aB (aOp oGt (aNary aLen (aCons (aVar 4) aNil)) (aC (.int 0)))) (aSeq (aRet (aTup (aCons (aVar 2) (aCons (aVar 3) (aCons (aSl (aVar 4) aNoO (aSoO (aNeg (aC (.int 1))))) aNil))))) aNext) aNext) (aSeq (aRet (aTup (aCons (aVar 2) (aCons (aVar 3) (aCons (aTup (aCons (aTup (aCons (aC (.int 0)) (aCons (aOp aIx (aOp aIx (aOp aIx (aOp aIx (aVar 0) (aC (.int 1))) (aC (.int 0))) (aC (.int 1))) (aC (.int 0))) (aCons (aC (.int 0)) aNil)))) aNil)) aNil))))) aNext)))
def N_l_changed : List Str := [Str.ofString "_law_first", Str.ofString "_law_second", Str.ofString "_law_cell_here"]
def b_l_changed (G : Gp) : AS := (aSeq (aRet (aLc (aWalk (aCall (C_cells G) (aCons (aVar 0) aNil))) (.nm 2) (aB (aOp aNeD (aCall (C_row_at G) (aCons (aVar 0) (aCons (aVar 2) aNil))) (aCall (C_row_at G) (aCons (aVar 1) (aCons (aVar 2) aNil))))) (aVar 2) [2])) aNext)
def N_law : List Str := [Str.ofString "_law_script", Str.ofString "_law_source_here", Str.ofString "_law_plan_here", Str.ofString "_law_before", Str.ofString "_law_tests", Str.ofString "_law_now_here", Str.ofString "_law_changed_here", Str.ofString "_law_stale", Str.ofString "_law_k", Str.ofString "_law_shop_here", Str.ofString "_law_log", Str.ofString "_law_events", Str.ofString "_law_written", Str.ofString "_law_rows", Str.ofString "_law_cell_here", Str.ofString "_law_made", Str.ofString "_law_touched", Str.ofString "_law_row"]
def b_law (G : Gp) : AS := (aSeq (aAsg (aCall (C_l_source G) (aCons (aCall (C_l_cell G) (aCons (aVar 0) (aCons (aC (.int 0)) aNil))) (aCons (aC (.int 0)) aNil))) (aName 1)) (aSeq (aAsg (aCall (C_l_plan G) (aCons (aVar 1) (aCons (aC (.int 0)) aNil))) (aName 2)) (aSeq (aAsg (aCall (C_l_shop G) (aCons (aVar 1) (aCons (aVar 2) (aCons (aOp oAdd (aC (.int 4)) (aCall (C_l_pick G) (aCons (aVar 1) (aCons (aC (.int 10)) aNil)))) aNil)))) (aUn2 9 10)) (aSeq (aExpr (aMeth G.CW "verdicts" (C_Workshop_verdicts G) (aVar 9) aNil)) (aSeq (aAsg (aMeth G.CW "program" (C_Workshop_program G) (aVar 9) aNil) (aName 3)) (aSeq (aAsg (aMeth G.CW "tests" (C_Workshop_tests G) (aVar 9) aNil) (aName 4)) (aSeq (aExpr (aCall (C_l_busy G) (aCons (aVar 1) (aCons (aVar 2) (aCons (aVar 9) (aCons (aVar 10) (aCons (aOp oAdd (aC (.int 1)) (aCall (C_l_pick G) (aCons (aVar 1) (aCons (aC (.int 4)) aNil)))) aNil))))))) (aSeq (aAsg (aMeth G.CW "program" (C_Workshop_program G) (aVar 9) aNil) (aName 5)) (aSeq (aAsg (aCall (C_l_changed G) (aCons (aVar 3) (aCons (aVar 5) aNil))) (aName 6)) (aSeq (aAsg (aMeth G.CW "stale" (C_Workshop_stale G) (aVar 9) aNil) (aName 7)) (aSeq (aFor (aRange (aNary aLen (aCons (aVar 4) aNil))) (.nm 8) (aSeq (aAsg (aOp aIx (aOp aIx (aVar 4) (aVar 8)) (aC (.int 0))) (aName 11)) (aSeq (aAsg (aOp aIx (aCall (C_run G) (aCons (aVar 3) (aCons (aVar 11) aNil))) (aC (.int 1))) (aName 12)) (aSeq (aIf (aB (aOp (aIn false) (aVar 8) (aVar 7))) (aSeq (aAsg (aOwn aNil) (aName 13)) (aSeq (aFor (aWalk (aCall (C_cells G) (aCons (aVar 3) aNil))) (.nm 14) (aSeq (aAsg (aCall (C_row_at G) (aCons (aVar 3) (aCons (aVar 14) aNil))) (aName 17)) (aSeq (aIf (aB (aOp (aIn false) (aVar 14) (aVar 6))) (aSeq (aAsg (aCall (C_l_other_row G) (aCons (aVar 2) (aCons (aVar 17) aNil))) (aName 17)) aNext) aNext) (aSeq (aExpr (aApp (aVar 13) (aTup (aCons (aVar 14) (aCons (aVar 17) aNil))))) aNext)))) (aSeq (aAsg (aMakeP G.CP (C_Program_init G) (aCons (aOp aIx (aVar 2) (aC (.int 0))) (aCons (aOp aIx (aVar 2) (aC (.int 1))) (aCons (aOp aIx (aVar 2) (aC (.int 2))) (aCons (aFrz (aVar 13)) aNil))))) (aName 15)) (aSeq (aIf (aOr (aB (aOp aNeD (aCall (C_l_changed G) (aCons (aVar 3) (aCons (aVar 15) aNil))) (aVar 6))) (aB (aOp aEqD (aOp aIx (aCall (C_run G) (aCons (aVar 15) (aCons (aVar 11) aNil))) (aC (.int 1))) (aVar 12)))) (aSeq (aRet (aC (.bool false))) aNext) aNext) aNext)))) (aSeq (aAsg (aOp aIx (aCall (C_run G) (aCons (aVar 3) (aCons (aVar 11) aNil))) (aC (.int 2))) (aName 16)) (aSeq (aAsg (aOwn aNil) (aName 13)) (aSeq (aFor (aWalk (aCall (C_cells G) (aCons (aVar 3) aNil))) (.nm 14) (aSeq (aAsg (aCall (C_row_at G) (aCons (aVar 5) (aCons (aVar 14) aNil))) (aName 17)) (aSeq (aIf (aB (aOp (aIn true) (aVar 14) (aVar 16))) (aSeq (aAsg (aCall (C_l_drawn_row G) (aCons (aVar 1) (aCons (aVar 2) (aCons (aVar 14) aNil)))) (aName 17)) aNext) aNext) (aSeq (aExpr (aApp (aVar 13) (aTup (aCons (aVar 14) (aCons (aVar 17) aNil))))) aNext)))) (aSeq (aIf (aOr (aB (aOp aNeD (aOp aIx (aCall (C_run G) (aCons (aMakeP G.CP (C_Program_init G) (aCons (aOp aIx (aVar 2) (aC (.int 0))) (aCons (aOp aIx (aVar 2) (aC (.int 1))) (aCons (aOp aIx (aVar 2) (aC (.int 2))) (aCons (aFrz (aVar 13)) aNil))))) (aCons (aVar 11) aNil))) (aC (.int 1))) (aVar 12))) (aB (aOp aNeD (aOp aIx (aCall (C_run G) (aCons (aVar 5) (aCons (aVar 11) aNil))) (aC (.int 1))) (aVar 12)))) (aSeq (aRet (aC (.bool false))) aNext) aNext) aNext))))) aNext)))) (aSeq (aRet (aC (.bool true))) aNext))))))))))))
end Mn
namespace Mn
open PySem PySem.Spec PyProof.Rows L2
theorem nd_cells_of : N_cells_of.Nodup := by decide +kernel
theorem w_cells_of {S : Sx} {G : Gp} (bi : Bi S) (kp : Kp S G) (kw : Kw S G) {f : Addr} {cdv : Value} {A : Around} {outer : List Env} {s : Shared} {H : Hp} {E : XK} (hr : Room 0 (A.deeper (envOfC "cells_of" (defScope s_cells_of) s.heap.objs.size f cdv))) :
    DSs G (cxOf CX0 S.P S.w S.K S.mg S.base N_cells_of "cells_of" (defScope s_cells_of) f cdv A outer s H E).nox (defBody s_cells_of) (b_cells_of G) :=
  (s_cons (s_set (i := 2) nd_cells_of rfl (by first | exact Or.inl rfl | exact Or.inr rfl) (de_lst da_nil))
    (s_cons (s_for PassesOwn.never rfl (di_enT rfl bi.enumerate_ (de_var (pv 1))) (tg_tp rfl (tg_cons (tg_nm (i := 3) nd_cells_of rfl (by first | exact Or.inl rfl | exact Or.inr rfl)) (tg_cons (tg_nm (i := 4) nd_cells_of rfl (by first | exact Or.inl rfl | exact Or.inr rfl)) tg_nil))) (s_cons (s_for PassesOwn.never rfl (di_range rfl bi.range_ (d_len rfl bi.len_ (da_cons (de_var (pv 0)) da_nil))) (tg_nm (i := 5) nd_cells_of rfl (by first | exact Or.inl rfl | exact Or.inr rfl)) (s_cons (s_set (i := 2) nd_cells_of rfl (by first | exact Or.inl rfl | exact Or.inr rfl) (d_cat (de_var (pv 2)) (d_lc (own := [(Str.ofString "position", 6)]) rfl nd_cells_of (di_range rfl bi.range_ (d_add (d_mul de_int (d_ix (de_var (pv 4)) de_int)) de_int)) (blkOk_by (own := [(Str.ofString "position", 6)]) (N := N_cells_of) (sc := defScope s_cells_of) (by decide +kernel)) (by decide) (fun _ _ _ _ _ => (tg_nm (i := 6) nd_cells_of rfl (by first | exact Or.inl rfl | exact Or.inr rfl))) (fun _ _ _ _ _ => ts_nil) (fun _ _ _ _ _ => (de_tup (da_cons (de_var (pv 3)) (da_cons (de_var (pv 5)) (da_cons (de_var (pv 6)) da_nil))))))))
    s_nil))
    s_nil))
    (s_cons (s_ret (de_var (pv 2)))
    s_nil)))
theorem nd_idle : N_idle.Nodup := by decide +kernel
theorem w_idle {S : Sx} {G : Gp} (bi : Bi S) (kp : Kp S G) (kw : Kw S G) {f : Addr} {cdv : Value} {A : Around} {outer : List Env} {s : Shared} {H : Hp} {E : XK} (hr : Room 0 (A.deeper (envOfC "idle" (defScope s_idle) s.heap.objs.size f cdv))) :
    DSs G (cxOf CX0 S.P S.w S.K S.mg S.base N_idle "idle" (defScope s_idle) f cdv A outer s H E).nox (defBody s_idle) (b_idle G) :=
  (s_cons (s_asg (de_var (pv 1)) (g_tg (tg_tp rfl (tg_cons (tg_nm (i := 3) nd_idle rfl (by first | exact Or.inl rfl | exact Or.inr rfl)) (tg_cons (tg_nm (i := 4) nd_idle rfl (by first | exact Or.inl rfl | exact Or.inr rfl)) (tg_cons (tg_nm (i := 5) nd_idle rfl (by first | exact Or.inl rfl | exact Or.inr rfl)) tg_nil))))))
    (s_cons (s_set (i := 2) nd_idle rfl (by first | exact Or.inl rfl | exact Or.inr rfl) (d_ix (d_ix (de_var (pv 0)) (de_var (pv 3))) de_int))
    (s_cons (s_if (t_eq hr (d_mod (de_var (pv 5)) de_int) de_int) (s_cons (s_ret (de_tup (da_cons (de_var (pv 3)) (da_cons (d_tupRg rfl rfl bi.tuple_ rfl bi.range_ (de_var (pv 2))) (da_cons (de_tup da_nil) da_nil)))))
    s_nil) s_nil)
    (s_cons (s_ret (de_tup (da_cons (de_var (pv 3)) (da_cons (d_tuple rfl bi.tuple_ (da_cons (d_lc (own := [(Str.ofString "k", 6)]) rfl nd_idle (di_range rfl bi.range_ (d_add (de_var (pv 2)) de_int)) (blkOk_by (own := [(Str.ofString "k", 6)]) (N := N_idle) (sc := defScope s_idle) (by decide +kernel)) (by decide) (fun _ _ _ _ _ => (tg_nm (i := 6) nd_idle rfl (by first | exact Or.inl rfl | exact Or.inr rfl))) (fun _ _ _ _ _ => (ts_one (t_ne hr (de_var (pv 6)) (d_fdiv (de_var (pv 5)) de_int)))) (fun _ _ _ _ _ => (de_var (pv 6)))) da_nil)) (da_cons (de_tup da_nil) da_nil)))))
    s_nil))))
theorem nd_frozen : N_frozen.Nodup := by decide +kernel
theorem w_frozen {k : Nat} {S : Sx} {G : Gp} (bi : Bi S) (kp : Kp S G) (kw : Kw S G) {f : Addr} {cdv : Value} {A : Around} {outer : List Env} {s : Shared} {H : Hp} {E : XK} (hr : Room k (A.deeper (envOfC "frozen" (defScope s_frozen) s.heap.objs.size f cdv))) {C : AC} (D_frozen : Dn S G k "frozen" ["value"] C) :
    DSs G (cxOf CX0 S.P S.w S.K S.mg S.base N_frozen "frozen" (defScope s_frozen) f cdv A outer s H E).nox (defBody s_frozen) (b_frozen G C) :=
  (s_cons (s_if (dt_val (d_isiLT rfl bi.isinstance_ rfl bi.list_ rfl bi.tuple_ (de_var (pv 0)))) (s_cons (s_ret (d_tuple rfl bi.tuple_ (da_cons (d_lc (own := [(Str.ofString "part", 1)]) rfl nd_frozen (di_walk (de_var (pv 0))) (blkOk_by (own := [(Str.ofString "part", 1)]) (N := N_frozen) (sc := defScope s_frozen) (by decide +kernel)) (by decide) (fun _ _ _ _ _ => (tg_nm (i := 1) nd_frozen rfl (by first | exact Or.inl rfl | exact Or.inr rfl))) (fun _ _ _ _ _ => ts_nil) (fun _ _ _ _ _ => (d_call D_frozen hr rfl (da_cons (de_var (pv 1)) da_nil)))) da_nil)))
    s_nil) s_nil)
    (s_cons (s_ret (de_var (pv 0)))
    s_nil))
theorem nd_Program_init : N_Program_init.Nodup := by decide +kernel
theorem w_Program_init {S : Sx} {G : Gp} (bi : Bi S) (kp : Kp S G) (kw : Kw S G) {f : Addr} {cdv : Value} {A : Around} {outer : List Env} {s : Shared} {H : Hp} {E : XK} (hr : Room 7 (A.deeper (envOfC "Program.__init__" (defScope s_Program__init) s.heap.objs.size f cdv))) (D_cells_of : Dn S G 1 "cells_of" ["names", "modes"] (C_cells_of G)) (D_frozen : Dn S G 7 "frozen" ["value"] (C_frozen G)) (D_idle : Dn S G 1 "idle" ["modes", "cell"] (C_idle G)) :
    DSs G (cxOf CX0 S.P S.w S.K S.mg S.base N_Program_init "Program.__init__" (defScope s_Program__init) f cdv A outer s H E).nox (defBody s_Program__init) (b_Program_init G) :=
  (s_cons (s_fst kp.cP kp.nP (de_var (pv 0)) (d_tuple rfl bi.tuple_ (da_cons (de_var (pv 1)) da_nil)))
    (s_cons (s_fst kp.cP kp.pP (de_var (pv 0)) (d_call D_frozen (hr.mono (by decide)) rfl (da_cons (de_var (pv 2)) da_nil)))
    (s_cons (s_fst kp.cP kp.mP (de_var (pv 0)) (d_call D_frozen (hr.mono (by decide)) rfl (da_cons (de_var (pv 3)) da_nil)))
    (s_cons (s_setDc (i := 5) (own := [(Str.ofString "cell", 7), (Str.ofString "row", 8)]) hr rfl nd_Program_init rfl rfl (swD rfl rfl rfl (by decide +kernel)) (di_walk (de_var (pv 4))) (blkOk_by (own := [(Str.ofString "cell", 7), (Str.ofString "row", 8)]) (N := N_Program_init) (sc := defScope s_Program__init) (by decide +kernel)) (by decide) (fun _ _ _ _ _ => (tg_tp rfl (tg_cons (tg_nm (i := 7) nd_Program_init rfl (by first | exact Or.inl rfl | exact Or.inr rfl)) (tg_cons (tg_nm (i := 8) nd_Program_init rfl (by first | exact Or.inl rfl | exact Or.inr rfl)) tg_nil)))) (fun _ _ _ _ _ => (d_tuple rfl bi.tuple_ (da_cons (de_var (pv 7)) da_nil))) (fun _ _ _ _ _ => (d_call D_frozen (hr.mono (by decide)) rfl (da_cons (de_var (pv 8)) da_nil))))
    (s_cons (s_set (i := 6) nd_Program_init rfl (by first | exact Or.inl rfl | exact Or.inr rfl) (de_own da_nil))
    (s_cons (s_for PassesOwn.never rfl (di_walk (d_call D_cells_of (hr.mono (by decide)) rfl (da_cons (d_fld kp.cP kp.nP (de_var (pv 0))) (da_cons (d_fld kp.cP kp.mP (de_var (pv 0))) da_nil)))) (tg_nm (i := 7) nd_Program_init rfl (by first | exact Or.inl rfl | exact Or.inr rfl)) (s_cons (s_if (t_din hr (de_var (pv 7)) (de_var (pv 5))) (s_cons (s_expr (d_app (de_var (pv 6)) (d_dget hr (de_var (pv 5)) (de_var (pv 7)))))
    s_nil) (s_cons (s_expr (d_app (de_var (pv 6)) (d_call D_idle (hr.mono (by decide)) rfl (da_cons (d_fld kp.cP kp.mP (de_var (pv 0))) (da_cons (de_var (pv 7)) da_nil)))))
    s_nil))
    s_nil))
    (s_cons (s_fst kp.cP kp.tP (de_var (pv 0)) (d_tuple rfl bi.tuple_ (da_cons (de_frz (de_var (pv 6))) da_nil)))
    s_nil)))))))
theorem nd_cells : N_cells.Nodup := by decide +kernel
theorem w_cells {S : Sx} {G : Gp} (bi : Bi S) (kp : Kp S G) (kw : Kw S G) {f : Addr} {cdv : Value} {A : Around} {outer : List Env} {s : Shared} {H : Hp} {E : XK} (hr : Room 1 (A.deeper (envOfC "cells" (defScope s_cells) s.heap.objs.size f cdv))) (D_cells_of : Dn S G 1 "cells_of" ["names", "modes"] (C_cells_of G)) :
    DSs G (cxOf CX0 S.P S.w S.K S.mg S.base N_cells "cells" (defScope s_cells) f cdv A outer s H E).nox (defBody s_cells) (b_cells G) :=
  (s_cons (s_ret (d_call D_cells_of (hr.mono (by decide)) rfl (da_cons (d_names kp.cP kp.nP (de_var (pv 0))) (da_cons (d_modes kp.cP kp.mP (de_var (pv 0))) da_nil))))
    s_nil)
theorem nd_row_at : N_row_at.Nodup := by decide +kernel
theorem w_row_at {S : Sx} {G : Gp} (bi : Bi S) (kp : Kp S G) (kw : Kw S G) {f : Addr} {cdv : Value} {A : Around} {outer : List Env} {s : Shared} {H : Hp} {E : XK} (hr : Room 0 (A.deeper (envOfC "row_at" (defScope s_row_at) s.heap.objs.size f cdv))) :
    DSs G (cxOf CX0 S.P S.w S.K S.mg S.base N_row_at "row_at" (defScope s_row_at) f cdv A outer s H E).nox (defBody s_row_at) (b_row_at G) :=
  (s_cons (s_asg (de_var (pv 1)) (g_tg (tg_tp rfl (tg_cons (tg_nm (i := 4) nd_row_at rfl (by first | exact Or.inl rfl | exact Or.inr rfl)) (tg_cons (tg_nm (i := 5) nd_row_at rfl (by first | exact Or.inl rfl | exact Or.inr rfl)) (tg_cons (tg_nm (i := 6) nd_row_at rfl (by first | exact Or.inl rfl | exact Or.inr rfl)) tg_nil))))))
    (s_cons (s_set (i := 2) nd_row_at rfl (by first | exact Or.inl rfl | exact Or.inr rfl) de_int)
    (s_cons (s_for PassesOwn.never rfl (di_range rfl bi.range_ (de_var (pv 4))) (tg_nm (i := 3) nd_row_at rfl (by first | exact Or.inl rfl | exact Or.inr rfl)) (s_cons (s_aug (i := 2) nd_row_at rfl (by first | exact Or.inl rfl | exact Or.inr rfl) (d_mul (d_len rfl bi.len_ (da_cons (d_names kp.cP kp.nP (de_var (pv 0))) da_nil)) (d_add (d_mul de_int (d_ix (d_ix (d_modes kp.cP kp.mP (de_var (pv 0))) (de_var (pv 3))) de_int)) de_int)))
    s_nil))
    (s_cons (s_ret (d_ix (d_table kp.cP kp.tP (de_var (pv 0))) (d_add (d_add (de_var (pv 2)) (d_mul (de_var (pv 5)) (d_add (d_mul de_int (d_ix (d_ix (d_modes kp.cP kp.mP (de_var (pv 0))) (de_var (pv 4))) de_int)) de_int))) (de_var (pv 6)))))
    s_nil))))
theorem nd_with_rows : N_with_rows.Nodup := by decide +kernel
theorem w_with_rows {S : Sx} {G : Gp} (bi : Bi S) (kp : Kp S G) (kw : Kw S G) {f : Addr} {cdv : Value} {A : Around} {outer : List Env} {s : Shared} {H : Hp} {E : XK} (hr : Room 9 (A.deeper (envOfC "with_rows" (defScope s_with_rows) s.heap.objs.size f cdv))) (D_Program_init : Dk S G G.CP 8 "Program" ["self", "names", "ports", "modes", "rows"] (C_Program_init G)) (D_cells : Dn S G 2 "cells" ["program"] (C_cells G)) (D_frozen : Dn S G 7 "frozen" ["value"] (C_frozen G)) :
    DSs G (cxOf CX0 S.P S.w S.K S.mg S.base N_with_rows "with_rows" (defScope s_with_rows) f cdv A outer s H E).nox (defBody s_with_rows) (b_with_rows G) :=
  (s_cons (s_set (i := 2) nd_with_rows rfl (by first | exact Or.inl rfl | exact Or.inr rfl) (d_cat (d_zipL rfl rfl bi.list_ rfl bi.zip_ (d_call D_cells (hr.mono (by decide)) rfl (da_cons (de_var (pv 0)) da_nil)) (d_table kp.cP kp.tP (de_var (pv 0)))) (d_lc (own := [(Str.ofString "cell", 3), (Str.ofString "row", 4)]) rfl nd_with_rows (di_walk (de_var (pv 1))) (blkOk_by (own := [(Str.ofString "cell", 3), (Str.ofString "row", 4)]) (N := N_with_rows) (sc := defScope s_with_rows) (by decide +kernel)) (by decide) (fun _ _ _ _ _ => (tg_tp rfl (tg_cons (tg_nm (i := 3) nd_with_rows rfl (by first | exact Or.inl rfl | exact Or.inr rfl)) (tg_cons (tg_nm (i := 4) nd_with_rows rfl (by first | exact Or.inl rfl | exact Or.inr rfl)) tg_nil)))) (fun _ _ _ _ _ => ts_nil) (fun _ _ _ _ _ => (de_tup (da_cons (d_call D_frozen (hr.mono (by decide)) rfl (da_cons (de_var (pv 3)) da_nil)) (da_cons (d_call D_frozen (hr.mono (by decide)) rfl (da_cons (de_var (pv 4)) da_nil)) da_nil)))))))
    (s_cons (s_ret (d_makeP D_Program_init (hr.mono (by decide)) rfl (da_cons (d_names kp.cP kp.nP (de_var (pv 0))) (da_cons (d_ports kp.cP kp.pP (de_var (pv 0))) (da_cons (d_modes kp.cP kp.mP (de_var (pv 0))) (da_cons (de_var (pv 2)) da_nil))))))
    s_nil))
theorem nd_position_of : N_position_of.Nodup := by decide +kernel
theorem w_position_of {S : Sx} {G : Gp} (bi : Bi S) (kp : Kp S G) (kw : Kw S G) {f : Addr} {cdv : Value} {A : Around} {outer : List Env} {s : Shared} {H : Hp} {E : XK} (hr : Room 0 (A.deeper (envOfC "position_of" (defScope s_position_of) s.heap.objs.size f cdv))) :
    DSs G (cxOf CX0 S.P S.w S.K S.mg S.base N_position_of "position_of" (defScope s_position_of) f cdv A outer s H E).nox (defBody s_position_of) (b_position_of G) :=
  (s_cons (s_set (i := 2) nd_position_of rfl (by first | exact Or.inl rfl | exact Or.inr rfl) de_int)
    (s_cons (s_for PassesOwn.never rfl (di_walk (de_var (pv 1))) (tg_nm (i := 3) nd_position_of rfl (by first | exact Or.inl rfl | exact Or.inr rfl)) (s_cons (s_if (t_eq hr (de_var (pv 0)) (de_var (pv 3))) (s_cons (s_ret (d_add (de_var (pv 2)) de_int))
    s_nil) s_nil)
    (s_cons (s_if (t_gt (de_var (pv 0)) (de_var (pv 3))) (s_cons (s_aug (i := 2) nd_position_of rfl (by first | exact Or.inl rfl | exact Or.inr rfl) de_int)
    s_nil) s_nil)
    s_nil)))
    (s_cons (s_ret (de_var (pv 2)))
    s_nil)))
theorem nd_candidates : N_candidates.Nodup := by decide +kernel
theorem w_candidates {S : Sx} {G : Gp} (bi : Bi S) (kp : Kp S G) (kw : Kw S G) {f : Addr} {cdv : Value} {A : Around} {outer : List Env} {s : Shared} {H : Hp} {E : XK} (hr : Room 0 (A.deeper (envOfC "candidates" (defScope s_candidates) s.heap.objs.size f cdv))) :
    DSs G (cxOf CX0 S.P S.w S.K S.mg S.base N_candidates "candidates" (defScope s_candidates) f cdv A outer s H E).nox (defBody s_candidates) (b_candidates G) :=
  (s_cons (s_if (t_in hr (de_var (pv 1)) (de_var (pv 0))) (s_cons (s_ret (d_list rfl bi.list_ (da_cons (de_var (pv 0)) da_nil)))
    s_nil) s_nil)
    (s_cons (s_ret (d_sorted rfl bi.sorted_ (da_cons (d_cat (d_list rfl bi.list_ (da_cons (de_var (pv 0)) da_nil)) (de_lst (da_cons (de_var (pv 1)) da_nil))) da_nil)))
    s_nil))
theorem nd_step : N_step.Nodup := by decide +kernel
theorem w_step {S : Sx} {G : Gp} (bi : Bi S) (kp : Kp S G) (kw : Kw S G) {f : Addr} {cdv : Value} {A : Around} {outer : List Env} {s : Shared} {H : Hp} {E : XK} (hr : Room 1 (A.deeper (envOfC "step" (defScope s_step) s.heap.objs.size f cdv))) (D_candidates : Dn S G 1 "candidates" ["held", "number"] (C_candidates G)) (D_position_of : Dn S G 1 "position_of" ["number", "held"] (C_position_of G)) (D_row_at : Dn S G 1 "row_at" ["program", "cell"] (C_row_at G)) :
    DSs G (cxOf CX0 S.P S.w S.K S.mg S.base N_step "step" (defScope s_step) f cdv A outer s H E).nox (defBody s_step) (b_step G) :=
  (s_cons (s_asg (de_var (pv 1)) (g_tg (tg_tp rfl (tg_cons (tg_nm (i := 6) nd_step rfl (by first | exact Or.inl rfl | exact Or.inr rfl)) (tg_cons (tg_nm (i := 7) nd_step rfl (by first | exact Or.inl rfl | exact Or.inr rfl)) tg_nil)))))
    (s_cons (s_asg (de_var (pv 2)) (g_tg (tg_tp rfl (tg_cons (tg_nm (i := 8) nd_step rfl (by first | exact Or.inl rfl | exact Or.inr rfl)) (tg_cons (tg_nm (i := 9) nd_step rfl (by first | exact Or.inl rfl | exact Or.inr rfl)) tg_nil)))))
    (s_cons (s_set (i := 3) nd_step rfl (by first | exact Or.inl rfl | exact Or.inr rfl) (de_tup (da_cons (de_var (pv 6)) (da_cons (d_index (d_names kp.cP kp.nP (de_var (pv 0))) (de_var (pv 8))) (da_cons (d_call D_position_of (hr.mono (by decide)) rfl (da_cons (de_var (pv 9)) (da_cons (de_var (pv 7)) da_nil))) da_nil)))))
    (s_cons (s_asg (d_call D_row_at (hr.mono (by decide)) rfl (da_cons (de_var (pv 0)) (da_cons (de_var (pv 3)) da_nil))) (g_tg (tg_tp rfl (tg_cons (tg_nm (i := 10) nd_step rfl (by first | exact Or.inl rfl | exact Or.inr rfl)) (tg_cons (tg_nm (i := 11) nd_step rfl (by first | exact Or.inl rfl | exact Or.inr rfl)) (tg_cons (tg_nm (i := 12) nd_step rfl (by first | exact Or.inl rfl | exact Or.inr rfl)) tg_nil))))))
    (s_cons (s_set (i := 4) nd_step rfl (by first | exact Or.inl rfl | exact Or.inr rfl) (d_call D_candidates (hr.mono (by decide)) rfl (da_cons (de_var (pv 7)) (da_cons (de_var (pv 9)) da_nil))))
    (s_cons (s_set (i := 5) nd_step rfl (by first | exact Or.inl rfl | exact Or.inr rfl) (d_tuple rfl bi.tuple_ (da_cons (d_lc (own := [(Str.ofString "port", 13), (Str.ofString "label", 14), (Str.ofString "k", 15)]) rfl nd_step (di_walk (de_var (pv 12))) (blkOk_by (own := [(Str.ofString "port", 13), (Str.ofString "label", 14), (Str.ofString "k", 15)]) (N := N_step) (sc := defScope s_step) (by decide +kernel)) (by decide) (fun _ _ _ _ _ => (tg_tp rfl (tg_cons (tg_nm (i := 13) nd_step rfl (by first | exact Or.inl rfl | exact Or.inr rfl)) (tg_cons (tg_nm (i := 14) nd_step rfl (by first | exact Or.inl rfl | exact Or.inr rfl)) (tg_cons (tg_nm (i := 15) nd_step rfl (by first | exact Or.inl rfl | exact Or.inr rfl)) tg_nil))))) (fun _ _ _ _ _ => ts_nil) (fun _ _ _ _ _ => (de_tup (da_cons (d_ix (d_ix (d_ports kp.cP kp.pP (de_var (pv 0))) (de_var (pv 13))) de_int) (da_cons (de_var (pv 14)) (da_cons (d_ix (de_var (pv 4)) (de_var (pv 15))) da_nil)))))) da_nil)))
    (s_cons (s_ret (de_tup (da_cons (de_tup (da_cons (de_var (pv 10)) (da_cons (d_tuple rfl bi.tuple_ (da_cons (d_lc (own := [(Str.ofString "k", 15)]) rfl nd_step (di_walk (de_var (pv 11))) (blkOk_by (own := [(Str.ofString "k", 15)]) (N := N_step) (sc := defScope s_step) (by decide +kernel)) (by decide) (fun _ _ _ _ _ => (tg_nm (i := 15) nd_step rfl (by first | exact Or.inl rfl | exact Or.inr rfl))) (fun _ _ _ _ _ => ts_nil) (fun _ _ _ _ _ => (d_ix (de_var (pv 4)) (de_var (pv 15))))) da_nil)) da_nil))) (da_cons (de_var (pv 5)) (da_cons (de_var (pv 3)) da_nil)))))
    s_nil)))))))
theorem nd_run : N_run.Nodup := by decide +kernel
theorem w_run {S : Sx} {G : Gp} (bi : Bi S) (kp : Kp S G) (kw : Kw S G) {f : Addr} {cdv : Value} {A : Around} {outer : List Env} {s : Shared} {H : Hp} {E : XK} (hr : Room 2 (A.deeper (envOfC "run" (defScope s_run) s.heap.objs.size f cdv))) (D_step : Dn S G 2 "step" ["program", "place", "event"] (C_step G)) :
    DSs G (cxOf CX0 S.P S.w S.K S.mg S.base N_run "run" (defScope s_run) f cdv A outer s H E).nox (defBody s_run) (b_run G) :=
  (s_cons (s_set (i := 2) nd_run rfl (by first | exact Or.inl rfl | exact Or.inr rfl) (de_tup (da_cons de_int (da_cons (de_tup da_nil) da_nil))))
    (s_cons (s_set (i := 3) nd_run rfl (by first | exact Or.inl rfl | exact Or.inr rfl) (de_own da_nil))
    (s_cons (s_set (i := 4) nd_run rfl (by first | exact Or.inl rfl | exact Or.inr rfl) (de_own da_nil))
    (s_cons (s_for PassesOwn.never rfl (di_walk (de_var (pv 1))) (tg_nm (i := 5) nd_run rfl (by first | exact Or.inl rfl | exact Or.inr rfl)) (s_cons (s_asg (d_call D_step (hr.mono (by decide)) rfl (da_cons (de_var (pv 0)) (da_cons (de_var (pv 2)) (da_cons (de_var (pv 5)) da_nil)))) (g_tg (tg_tp rfl (tg_cons (tg_nm (i := 2) nd_run rfl (by first | exact Or.inl rfl | exact Or.inr rfl)) (tg_cons (tg_nm (i := 6) nd_run rfl (by first | exact Or.inl rfl | exact Or.inr rfl)) (tg_cons (tg_nm (i := 7) nd_run rfl (by first | exact Or.inl rfl | exact Or.inr rfl)) tg_nil))))))
    (s_cons (s_expr (d_app (de_var (pv 3)) (de_var (pv 6))))
    (s_cons (s_expr (d_app (de_var (pv 4)) (de_var (pv 7))))
    s_nil))))
    (s_cons (s_ret (de_tup (da_cons (de_var (pv 2)) (da_cons (de_frz (de_var (pv 3))) (da_cons (de_frz (de_var (pv 4))) da_nil)))))
    s_nil)))))
theorem nd_is_index : N_is_index.Nodup := by decide +kernel
theorem w_is_index {S : Sx} {G : Gp} (bi : Bi S) (kp : Kp S G) (kw : Kw S G) {f : Addr} {cdv : Value} {A : Around} {outer : List Env} {s : Shared} {H : Hp} {E : XK} (hr : Room 0 (A.deeper (envOfC "is_index" (defScope s_is_index) s.heap.objs.size f cdv))) :
    DSs G (cxOf CX0 S.P S.w S.K S.mg S.base N_is_index "is_index" (defScope s_is_index) f cdv A outer s H E).nox (defBody s_is_index) (b_is_index G) :=
  (s_cons (s_if (PW.pt (dt_or (dt_not (dt_val (d_isi (fun _ _ _ _ e h => kd_int e h) rfl bi.isinstance_ rfl bi.int_ (by decide +kernel) (de_var (pv 0))))) (dt_or1 (dt_val (d_isi (fun _ _ _ _ e h => kd_bool e h) rfl bi.isinstance_ rfl bi.bool_ (by decide +kernel) (de_var (pv 0))))))) (s_cons (s_ret de_bl)
    s_nil) s_nil)
    (s_cons (s_ret (d_betw de_int (de_var (pv 0)) (de_var (pv 1))))
    s_nil))
theorem nd_is_cell : N_is_cell.Nodup := by decide +kernel
theorem w_is_cell {S : Sx} {G : Gp} (bi : Bi S) (kp : Kp S G) (kw : Kw S G) {f : Addr} {cdv : Value} {A : Around} {outer : List Env} {s : Shared} {H : Hp} {E : XK} (hr : Room 1 (A.deeper (envOfC "is_cell" (defScope s_is_cell) s.heap.objs.size f cdv))) (D_is_index : Dn S G 1 "is_index" ["value", "size"] (C_is_index G)) :
    DSs G (cxOf CX0 S.P S.w S.K S.mg S.base N_is_cell "is_cell" (defScope s_is_cell) f cdv A outer s H E).nox (defBody s_is_cell) (b_is_cell G) :=
  (s_cons (s_if (PW.pt (dt_or (dt_not (dt_val (d_isi (fun _ _ _ _ e h => kd_tup e h) rfl bi.isinstance_ rfl bi.tuple_ (by decide +kernel) (de_var (pv 1))))) (dt_or (t_ne hr (d_len rfl bi.len_ (da_cons (de_var (pv 1)) da_nil)) de_int) (dt_or1 (dt_not (dt_val (d_call D_is_index (hr.mono (by decide)) rfl (da_cons (d_ix (de_var (pv 1)) de_int) (da_cons (d_len rfl bi.len_ (da_cons (d_modes kp.cP kp.mP (de_var (pv 0))) da_nil)) da_nil))))))))) (s_cons (s_ret de_bl)
    s_nil) s_nil)
    (s_cons (s_set (i := 2) nd_is_cell rfl (by first | exact Or.inl rfl | exact Or.inr rfl) (d_add (d_mul de_int (d_ix (d_ix (d_modes kp.cP kp.mP (de_var (pv 0))) (d_ix (de_var (pv 1)) de_int)) de_int)) de_int))
    (s_cons (s_ret (de_and (d_call D_is_index (hr.mono (by decide)) rfl (da_cons (d_ix (de_var (pv 1)) de_int) (da_cons (d_len rfl bi.len_ (da_cons (d_names kp.cP kp.nP (de_var (pv 0))) da_nil)) da_nil))) (de_one (d_call D_is_index (hr.mono (by decide)) rfl (da_cons (d_ix (de_var (pv 1)) de_int) (da_cons (de_var (pv 2)) da_nil))))))
    s_nil)))
theorem nd_is_write : N_is_write.Nodup := by decide +kernel
theorem w_is_write {S : Sx} {G : Gp} (bi : Bi S) (kp : Kp S G) (kw : Kw S G) {f : Addr} {cdv : Value} {A : Around} {outer : List Env} {s : Shared} {H : Hp} {E : XK} (hr : Room 1 (A.deeper (envOfC "is_write" (defScope s_is_write) s.heap.objs.size f cdv))) (D_is_index : Dn S G 1 "is_index" ["value", "size"] (C_is_index G)) :
    DSs G (cxOf CX0 S.P S.w S.K S.mg S.base N_is_write "is_write" (defScope s_is_write) f cdv A outer s H E).nox (defBody s_is_write) (b_is_write G) :=
  (s_cons (s_if (PW.pt (dt_or (dt_not (dt_val (d_isi (fun _ _ _ _ e h => kd_tup e h) rfl bi.isinstance_ rfl bi.tuple_ (by decide +kernel) (de_var (pv 2))))) (dt_or (t_ne hr (d_len rfl bi.len_ (da_cons (de_var (pv 2)) da_nil)) de_int) (dt_or1 (dt_not (dt_val (d_call D_is_index (hr.mono (by decide)) rfl (da_cons (d_ix (de_var (pv 2)) de_int) (da_cons (d_len rfl bi.len_ (da_cons (d_ports kp.cP kp.pP (de_var (pv 0))) da_nil)) da_nil))))))))) (s_cons (s_ret de_bl)
    s_nil) s_nil)
    (s_cons (s_ret (de_and (d_in hr (d_ix (de_var (pv 2)) de_int) (d_ix (d_ix (d_ports kp.cP kp.pP (de_var (pv 0))) (d_ix (de_var (pv 2)) de_int)) de_int)) (de_one (d_call D_is_index (hr.mono (by decide)) rfl (da_cons (d_ix (de_var (pv 2)) de_int) (da_cons (de_var (pv 1)) da_nil))))))
    s_nil))
theorem nd_are_holds : N_are_holds.Nodup := by decide +kernel
theorem w_are_holds {S : Sx} {G : Gp} (bi : Bi S) (kp : Kp S G) (kw : Kw S G) {f : Addr} {cdv : Value} {A : Around} {outer : List Env} {s : Shared} {H : Hp} {E : XK} (hr : Room 2 (A.deeper (envOfC "are_holds" (defScope s_are_holds) s.heap.objs.size f cdv))) (D_is_index : Dn S G 1 "is_index" ["value", "size"] (C_is_index G)) {P c : Addr} (hP : P ∈ G.T) (TB : GxR.TabB S.base S.mg c P) (hcode : cdv = .ref c) :
    DSs G (cxOf CX0 S.P S.w S.K S.mg S.base N_are_holds "are_holds" (defScope s_are_holds) f cdv A outer s H E).nox (defBody s_are_holds) (b_are_holds G) :=
  (s_cons (s_if (PW.pt (dt_or (dt_not (dt_val (d_isi (fun _ _ _ _ e h => kd_tup e h) rfl bi.isinstance_ rfl bi.tuple_ (by decide +kernel) (de_var (pv 0))))) (dt_or1 (t_ne hr (d_len rfl bi.len_ (da_cons (de_var (pv 0)) da_nil)) (de_var (pv 2)))))) (s_cons (s_ret de_bl)
    s_nil) s_nil)
    (s_cons (s_if (dt_not (dt_val (d_all (own := [(Str.ofString "k", 3)]) hr rfl nd_are_holds rfl bi.all_ hP TB hcode (gblk_by (own := [(Str.ofString "k", 3)]) (N := N_are_holds) (sc := defScope s_are_holds) (by decide +kernel) (by decide +kernel)) (by decide) (di_walk (de_var (pv 0))) (fun _ _ _ _ _ _ _ => (tg_nm (i := 3) nd_are_holds rfl (by first | exact Or.inl rfl | exact Or.inr rfl))) (fun _ _ _ _ _ _ _ => (d_call D_is_index ((room_gen hr _).mono (by decide)) rfl (da_cons (de_var (pv 3)) (da_cons (de_var (pv 1)) da_nil))))))) (s_cons (s_ret de_bl)
    s_nil) s_nil)
    (s_cons (s_ret (d_all (own := [(Str.ofString "k", 3)]) hr rfl nd_are_holds rfl bi.all_ hP TB hcode (gblk_by (own := [(Str.ofString "k", 3)]) (N := N_are_holds) (sc := defScope s_are_holds) (by decide +kernel) (by decide +kernel)) (by decide) (di_range rfl bi.range_ (d_sub (de_var (pv 2)) de_int)) (fun _ _ _ _ _ _ _ => (tg_nm (i := 3) nd_are_holds rfl (by first | exact Or.inl rfl | exact Or.inr rfl))) (fun _ _ _ _ _ _ _ => (d_lt (d_ix (de_var (pv 0)) (de_var (pv 3))) (d_ix (de_var (pv 0)) (d_add (de_var (pv 3)) de_int))))))
    s_nil)))
theorem nd_is_row : N_is_row.Nodup := by decide +kernel
theorem w_is_row {S : Sx} {G : Gp} (bi : Bi S) (kp : Kp S G) (kw : Kw S G) {f : Addr} {cdv : Value} {A : Around} {outer : List Env} {s : Shared} {H : Hp} {E : XK} (hr : Room 4 (A.deeper (envOfC "is_row" (defScope s_is_row) s.heap.objs.size f cdv))) (D_are_holds : Dn S G 3 "are_holds" ["holds", "known", "count"] (C_are_holds G)) (D_is_index : Dn S G 1 "is_index" ["value", "size"] (C_is_index G)) (D_is_write : Dn S G 2 "is_write" ["program", "known", "write"] (C_is_write G)) {P c : Addr} (hP : P ∈ G.T) (TB : GxR.TabB S.base S.mg c P) (hcode : cdv = .ref c) :
    DSs G (cxOf CX0 S.P S.w S.K S.mg S.base N_is_row "is_row" (defScope s_is_row) f cdv A outer s H E).nox (defBody s_is_row) (b_is_row G) :=
  (s_cons (s_set (i := 3) nd_is_row rfl (by first | exact Or.inl rfl | exact Or.inr rfl) (d_sub (d_add (d_ix (d_ix (d_modes kp.cP kp.mP (de_var (pv 0))) (d_ix (de_var (pv 1)) de_int)) de_int) de_int) (d_mod (d_ix (de_var (pv 1)) de_int) de_int)))
    (s_cons (s_if (PW.pt (dt_or (dt_not (dt_val (d_isi (fun _ _ _ _ e h => kd_tup e h) rfl bi.isinstance_ rfl bi.tuple_ (by decide +kernel) (de_var (pv 2))))) (dt_or (t_ne hr (d_len rfl bi.len_ (da_cons (de_var (pv 2)) da_nil)) de_int) (dt_or1 (dt_not (dt_val (d_call D_is_index (hr.mono (by decide)) rfl (da_cons (d_ix (de_var (pv 2)) de_int) (da_cons (d_len rfl bi.len_ (da_cons (d_modes kp.cP kp.mP (de_var (pv 0))) da_nil)) da_nil))))))))) (s_cons (s_ret de_bl)
    s_nil) s_nil)
    (s_cons (s_if (dt_not (dt_val (d_call D_are_holds (hr.mono (by decide)) rfl (da_cons (d_ix (de_var (pv 2)) de_int) (da_cons (de_var (pv 3)) (da_cons (d_ix (d_ix (d_modes kp.cP kp.mP (de_var (pv 0))) (d_ix (de_var (pv 2)) de_int)) de_int) da_nil)))))) (s_cons (s_ret de_bl)
    s_nil) s_nil)
    (s_cons (s_if (PW.pt (dt_or (dt_not (dt_val (d_isi (fun _ _ _ _ e h => kd_tup e h) rfl bi.isinstance_ rfl bi.tuple_ (by decide +kernel) (d_ix (de_var (pv 2)) de_int)))) (dt_or1 (t_gt (d_len rfl bi.len_ (da_cons (d_ix (de_var (pv 2)) de_int) da_nil)) de_int)))) (s_cons (s_ret de_bl)
    s_nil) s_nil)
    (s_cons (s_ret (d_all (own := [(Str.ofString "write", 4)]) hr rfl nd_is_row rfl bi.all_ hP TB hcode (gblk_by (own := [(Str.ofString "write", 4)]) (N := N_is_row) (sc := defScope s_is_row) (by decide +kernel) (by decide +kernel)) (by decide) (di_walk (d_ix (de_var (pv 2)) de_int)) (fun _ _ _ _ _ _ _ => (tg_nm (i := 4) nd_is_row rfl (by first | exact Or.inl rfl | exact Or.inr rfl))) (fun _ _ _ _ _ _ _ => (d_call D_is_write ((room_gen hr _).mono (by decide)) rfl (da_cons (de_var (pv 0)) (da_cons (de_var (pv 3)) (da_cons (de_var (pv 4)) da_nil)))))))
    s_nil)))))
theorem nd_is_integer : N_is_integer.Nodup := by decide +kernel
theorem w_is_integer {S : Sx} {G : Gp} (bi : Bi S) (kp : Kp S G) (kw : Kw S G) {f : Addr} {cdv : Value} {A : Around} {outer : List Env} {s : Shared} {H : Hp} {E : XK} (hr : Room 0 (A.deeper (envOfC "is_integer" (defScope s_is_integer) s.heap.objs.size f cdv))) (hI_BEYOND : ∃ t, S.mg "BEYOND" = some (.int (10 ^ 30) t)) :
    DSs G (cxOf CX0 S.P S.w S.K S.mg S.base N_is_integer "is_integer" (defScope s_is_integer) f cdv A outer s H E).nox (defBody s_is_integer) (b_is_integer G) :=
  (s_cons (s_ret (de_and (d_isi (fun _ _ _ _ e h => kd_int e h) rfl bi.isinstance_ rfl bi.int_ (by decide +kernel) (de_var (pv 0))) (de_and (de_not (d_isi (fun _ _ _ _ e h => kd_bool e h) rfl bi.isinstance_ rfl bi.bool_ (by decide +kernel) (de_var (pv 0)))) (de_one (d_lt (d_abs rfl bi.abs_ (da_cons (de_var (pv 0)) da_nil)) (d_gint rfl hI_BEYOND))))))
    s_nil)
theorem nd_is_event : N_is_event.Nodup := by decide +kernel
theorem w_is_event {S : Sx} {G : Gp} (bi : Bi S) (kp : Kp S G) (kw : Kw S G) {f : Addr} {cdv : Value} {A : Around} {outer : List Env} {s : Shared} {H : Hp} {E : XK} (hr : Room 1 (A.deeper (envOfC "is_event" (defScope s_is_event) s.heap.objs.size f cdv))) (D_is_integer : Dn S G 1 "is_integer" ["value"] (C_is_integer G)) :
    DSs G (cxOf CX0 S.P S.w S.K S.mg S.base N_is_event "is_event" (defScope s_is_event) f cdv A outer s H E).nox (defBody s_is_event) (b_is_event G) :=
  (s_cons (s_if (PW.pt (dt_or (dt_not (dt_val (d_isi (fun _ _ _ _ e h => kd_tup e h) rfl bi.isinstance_ rfl bi.tuple_ (by decide +kernel) (de_var (pv 1))))) (dt_or1 (t_ne hr (d_len rfl bi.len_ (da_cons (de_var (pv 1)) da_nil)) de_int)))) (s_cons (s_ret de_bl)
    s_nil) s_nil)
    (s_cons (s_ret (de_and (d_in hr (d_ix (de_var (pv 1)) de_int) (d_names kp.cP kp.nP (de_var (pv 0)))) (de_one (d_call D_is_integer (hr.mono (by decide)) rfl (da_cons (d_ix (de_var (pv 1)) de_int) da_nil)))))
    s_nil))
theorem nd_is_triple : N_is_triple.Nodup := by decide +kernel
theorem w_is_triple {S : Sx} {G : Gp} (bi : Bi S) (kp : Kp S G) (kw : Kw S G) {f : Addr} {cdv : Value} {A : Around} {outer : List Env} {s : Shared} {H : Hp} {E : XK} (hr : Room 2 (A.deeper (envOfC "is_triple" (defScope s_is_triple) s.heap.objs.size f cdv))) (D_is_integer : Dn S G 1 "is_integer" ["value"] (C_is_integer G)) {P c : Addr} (hP : P ∈ G.T) (TB : GxR.TabB S.base S.mg c P) (hcode : cdv = .ref c) :
    DSs G (cxOf CX0 S.P S.w S.K S.mg S.base N_is_triple "is_triple" (defScope s_is_triple) f cdv A outer s H E).nox (defBody s_is_triple) (b_is_triple G) :=
  (s_cons (s_if (PW.pt (dt_or (dt_not (dt_val (d_isi (fun _ _ _ _ e h => kd_tup e h) rfl bi.isinstance_ rfl bi.tuple_ (by decide +kernel) (de_var (pv 1))))) (dt_or (t_ne hr (d_len rfl bi.len_ (da_cons (de_var (pv 1)) da_nil)) de_int) (dt_or1 (dt_not (dt_val (d_call D_is_integer (hr.mono (by decide)) rfl (da_cons (d_ix (de_var (pv 1)) de_int) da_nil)))))))) (s_cons (s_ret de_bl)
    s_nil) s_nil)
    (s_cons (s_ret (d_any (own := [(Str.ofString "name", 2), (Str.ofString "labels", 3)]) hr rfl nd_is_triple rfl bi.any_ hP TB hcode (gblk_by (own := [(Str.ofString "name", 2), (Str.ofString "labels", 3)]) (N := N_is_triple) (sc := defScope s_is_triple) (by decide +kernel) (by decide +kernel)) (by decide) (di_walk (d_ports kp.cP kp.pP (de_var (pv 0)))) (fun _ _ _ _ _ _ _ => (tg_tp rfl (tg_cons (tg_nm (i := 2) nd_is_triple rfl (by first | exact Or.inl rfl | exact Or.inr rfl)) (tg_cons (tg_nm (i := 3) nd_is_triple rfl (by first | exact Or.inl rfl | exact Or.inr rfl)) tg_nil)))) (fun _ _ _ _ _ _ _ => (de_and (d_eq (room_gen hr _) (de_var (pv 2)) (d_ix (de_var (pv 1)) de_int)) (de_one (d_in (room_gen hr _) (d_ix (de_var (pv 1)) de_int) (de_var (pv 3))))))))
    s_nil))
theorem nd_is_output : N_is_output.Nodup := by decide +kernel
theorem w_is_output {S : Sx} {G : Gp} (bi : Bi S) (kp : Kp S G) (kw : Kw S G) {f : Addr} {cdv : Value} {A : Around} {outer : List Env} {s : Shared} {H : Hp} {E : XK} (hr : Room 4 (A.deeper (envOfC "is_output" (defScope s_is_output) s.heap.objs.size f cdv))) (D_is_triple : Dn S G 3 "is_triple" ["program", "value"] (C_is_triple G)) {P c : Addr} (hP : P ∈ G.T) (TB : GxR.TabB S.base S.mg c P) (hcode : cdv = .ref c) :
    DSs G (cxOf CX0 S.P S.w S.K S.mg S.base N_is_output "is_output" (defScope s_is_output) f cdv A outer s H E).nox (defBody s_is_output) (b_is_output G) :=
  (s_cons (s_if (PW.pt (dt_or (dt_not (dt_val (d_isi (fun _ _ _ _ e h => kd_tup e h) rfl bi.isinstance_ rfl bi.tuple_ (by decide +kernel) (de_var (pv 1))))) (dt_or1 (t_gt (d_len rfl bi.len_ (da_cons (de_var (pv 1)) da_nil)) de_int)))) (s_cons (s_ret de_bl)
    s_nil) s_nil)
    (s_cons (s_ret (d_all (own := [(Str.ofString "triple", 2)]) hr rfl nd_is_output rfl bi.all_ hP TB hcode (gblk_by (own := [(Str.ofString "triple", 2)]) (N := N_is_output) (sc := defScope s_is_output) (by decide +kernel) (by decide +kernel)) (by decide) (di_walk (de_var (pv 1))) (fun _ _ _ _ _ _ _ => (tg_nm (i := 2) nd_is_output rfl (by first | exact Or.inl rfl | exact Or.inr rfl))) (fun _ _ _ _ _ _ _ => (d_call D_is_triple ((room_gen hr _).mono (by decide)) rfl (da_cons (de_var (pv 0)) (da_cons (de_var (pv 2)) da_nil))))))
    s_nil))
theorem nd_Workshop_init : N_Workshop_init.Nodup := by decide +kernel
theorem w_Workshop_init {S : Sx} {G : Gp} (bi : Bi S) (kp : Kp S G) (kw : Kw S G) {f : Addr} {cdv : Value} {A : Around} {outer : List Env} {s : Shared} {H : Hp} {E : XK} (hr : Room 0 (A.deeper (envOfC "Workshop.__init__" (defScope s_Workshop__init) s.heap.objs.size f cdv))) :
    DSs G (cxOf CX0 S.P S.w S.K S.mg S.base N_Workshop_init "Workshop.__init__" (defScope s_Workshop__init) f cdv A outer s H E).nox (defBody s_Workshop__init) (b_Workshop_init G) :=
  (s_cons (s_fst kw.cW kw.w_base (de_var (pv 0)) (de_var (pv 1)))
    (s_cons (s_fst kw.cW kw.w_events (de_var (pv 0)) (de_own da_nil))
    (s_cons (s_fst kw.cW kw.w_edits (de_var (pv 0)) (de_own da_nil))
    (s_cons (s_fst kw.cW kw.w_in_force (de_var (pv 0)) (de_own da_nil))
    (s_cons (s_fst kw.cW kw.w_tests (de_var (pv 0)) (de_own da_nil))
    (s_cons (s_fst kw.cW kw.w_last (de_var (pv 0)) (de_own da_nil))
    (s_cons (s_fst kw.cW kw.w_runs (de_var (pv 0)) de_int)
    s_nil)))))))
theorem nd_in_force : N_in_force.Nodup := by decide +kernel
theorem w_in_force {S : Sx} {G : Gp} (bi : Bi S) (kp : Kp S G) (kw : Kw S G) {f : Addr} {cdv : Value} {A : Around} {outer : List Env} {s : Shared} {H : Hp} {E : XK} (hr : Room 0 (A.deeper (envOfC "Workshop.in_force" (defScope s_in_force) s.heap.objs.size f cdv))) :
    DSs G (cxOf CX0 S.P S.w S.K S.mg S.base N_in_force "Workshop.in_force" (defScope s_in_force) f cdv A outer s H E).nox (defBody s_in_force) (b_in_force G) :=
  (s_cons (s_ret (d_lc (own := [(Str.ofString "number", 1), (Str.ofString "force", 2)]) rfl nd_in_force (di_enO rfl bi.enumerate_ (d_fld kw.cW kw.w_in_force (de_var (pv 0)))) (blkOk_by (own := [(Str.ofString "number", 1), (Str.ofString "force", 2)]) (N := N_in_force) (sc := defScope s_in_force) (by decide +kernel)) (by decide) (fun _ _ _ _ _ => (tg_tp rfl (tg_cons (tg_nm (i := 1) nd_in_force rfl (by first | exact Or.inl rfl | exact Or.inr rfl)) (tg_cons (tg_nm (i := 2) nd_in_force rfl (by first | exact Or.inl rfl | exact Or.inr rfl)) tg_nil)))) (fun _ _ _ _ _ => (ts_one (dt_val (de_var (pv 2))))) (fun _ _ _ _ _ => (de_var (pv 1)))))
    s_nil)
theorem nd_Workshop_tests : N_Workshop_tests.Nodup := by decide +kernel
theorem w_Workshop_tests {S : Sx} {G : Gp} (bi : Bi S) (kp : Kp S G) (kw : Kw S G) {f : Addr} {cdv : Value} {A : Around} {outer : List Env} {s : Shared} {H : Hp} {E : XK} (hr : Room 0 (A.deeper (envOfC "Workshop.tests" (defScope s_Workshop_tests) s.heap.objs.size f cdv))) :
    DSs G (cxOf CX0 S.P S.w S.K S.mg S.base N_Workshop_tests "Workshop.tests" (defScope s_Workshop_tests) f cdv A outer s H E).nox (defBody s_Workshop_tests) (b_Workshop_tests G) :=
  (s_cons (s_ret (d_lc (own := [(Str.ofString "events", 1), (Str.ofString "outputs", 2)]) rfl nd_Workshop_tests (di_walk (d_fld kw.cW kw.w_tests (de_var (pv 0)))) (blkOk_by (own := [(Str.ofString "events", 1), (Str.ofString "outputs", 2)]) (N := N_Workshop_tests) (sc := defScope s_Workshop_tests) (by decide +kernel)) (by decide) (fun _ _ _ _ _ => (tg_tp rfl (tg_cons (tg_nm (i := 1) nd_Workshop_tests rfl (by first | exact Or.inl rfl | exact Or.inr rfl)) (tg_cons (tg_nm (i := 2) nd_Workshop_tests rfl (by first | exact Or.inl rfl | exact Or.inr rfl)) tg_nil)))) (fun _ _ _ _ _ => ts_nil) (fun _ _ _ _ _ => (de_tup (da_cons (d_list rfl bi.list_ (da_cons (de_var (pv 1)) da_nil)) (da_cons (d_list rfl bi.list_ (da_cons (de_var (pv 2)) da_nil)) da_nil))))))
    s_nil)
theorem nd_Workshop_take : N_Workshop_take.Nodup := by decide +kernel
theorem w_Workshop_take {S : Sx} {G : Gp} (bi : Bi S) (kp : Kp S G) (kw : Kw S G) {f : Addr} {cdv : Value} {A : Around} {outer : List Env} {s : Shared} {H : Hp} {E : XK} (hr : Room 0 (A.deeper (envOfC "Workshop._take" (defScope s_Workshop_take) s.heap.objs.size f cdv))) (hI_MOST_EVENTS : ∃ t, S.mg "MOST_EVENTS" = some (.int 100 t)) :
    DSs G (cxOf CX0 S.P S.w S.K S.mg S.base N_Workshop_take "Workshop._take" (defScope s_Workshop_take) f cdv A outer s H E).nox (defBody s_Workshop_take) (b_Workshop_take G) :=
  (s_cons (s_if (t_eq hr (d_len rfl bi.len_ (da_cons (d_fld kw.cW kw.w_events (de_var (pv 0))) da_nil)) (d_gint rfl hI_MOST_EVENTS)) (s_cons s_never
    s_nil) s_nil)
    (s_cons (s_expr (d_app (d_fld kw.cW kw.w_events (de_var (pv 0))) (de_var (pv 1))))
    s_nil))
theorem nd_Workshop_edit : N_Workshop_edit.Nodup := by decide +kernel
theorem w_Workshop_edit {S : Sx} {G : Gp} (bi : Bi S) (kp : Kp S G) (kw : Kw S G) {f : Addr} {cdv : Value} {A : Around} {outer : List Env} {s : Shared} {H : Hp} {E : XK} (hr : Room 7 (A.deeper (envOfC "Workshop.edit" (defScope s_Workshop_edit) s.heap.objs.size f cdv))) (D_Workshop_take : Dm S G G.CW 1 "_take" ["self", "event"] (C_Workshop_take G)) (D_frozen : Dn S G 7 "frozen" ["value"] (C_frozen G)) (D_is_cell : Dn S G 2 "is_cell" ["program", "cell"] (C_is_cell G)) (D_is_index : Dn S G 1 "is_index" ["value", "size"] (C_is_index G)) (D_is_row : Dn S G 5 "is_row" ["program", "cell", "row"] (C_is_row G)) :
    DSs G (cxOf CX0 S.P S.w S.K S.mg S.base N_Workshop_edit "Workshop.edit" (defScope s_Workshop_edit) f cdv A outer s H E).nox (defBody s_Workshop_edit) (b_Workshop_edit G) :=
  (s_cons (s_set (i := 2) nd_Workshop_edit rfl (by first | exact Or.inl rfl | exact Or.inr rfl) (d_call D_frozen (hr.mono (by decide)) rfl (da_cons (de_var (pv 2)) da_nil)))
    (s_cons (s_set (i := 3) nd_Workshop_edit rfl (by first | exact Or.inl rfl | exact Or.inr rfl) (d_call D_frozen (hr.mono (by decide)) rfl (da_cons (de_var (pv 3)) da_nil)))
    (s_cons (s_if (PW.pt (dt_or (dt_not (dt_val (d_call D_is_index (hr.mono (by decide)) rfl (da_cons (de_var (pv 1)) (da_cons de_int da_nil))))) (dt_or (dt_not (dt_val (d_call D_is_cell (hr.mono (by decide)) rfl (da_cons (d_fld kw.cW kw.w_base (de_var (pv 0))) (da_cons (de_var (pv 2)) da_nil))))) (dt_or1 (dt_not (dt_val (d_call D_is_row (hr.mono (by decide)) rfl (da_cons (d_fld kw.cW kw.w_base (de_var (pv 0))) (da_cons (de_var (pv 2)) (da_cons (de_var (pv 3)) da_nil)))))))))) (s_cons s_never
    s_nil) s_nil)
    (s_cons (s_expr (d_meth kw.cW D_Workshop_take (hr.mono (by decide)) (de_var (pv 0)) (da_cons (de_tup (da_cons de_str (da_cons (de_var (pv 1)) (da_cons (de_var (pv 2)) (da_cons (de_var (pv 3)) da_nil))))) da_nil)))
    (s_cons (s_expr (d_app (d_fld kw.cW kw.w_edits (de_var (pv 0))) (de_tup (da_cons (de_var (pv 1)) (da_cons (de_var (pv 2)) (da_cons (de_var (pv 3)) da_nil))))))
    (s_cons (s_expr (d_app (d_fld kw.cW kw.w_in_force (de_var (pv 0))) de_bl))
    (s_cons (s_ret (d_sub (d_len rfl bi.len_ (da_cons (d_fld kw.cW kw.w_edits (de_var (pv 0))) da_nil)) de_int))
    s_nil)))))))
theorem nd_Workshop_turn : N_Workshop_turn.Nodup := by decide +kernel
theorem w_Workshop_turn {S : Sx} {G : Gp} (bi : Bi S) (kp : Kp S G) (kw : Kw S G) {f : Addr} {cdv : Value} {A : Around} {outer : List Env} {s : Shared} {H : Hp} {E : XK} (hr : Room 1 (A.deeper (envOfC "Workshop._turn" (defScope s_Workshop_turn) s.heap.objs.size f cdv))) (D_Workshop_take : Dm S G G.CW 1 "_take" ["self", "event"] (C_Workshop_take G)) (D_is_index : Dn S G 1 "is_index" ["value", "size"] (C_is_index G)) :
    DSs G (cxOf CX0 S.P S.w S.K S.mg S.base N_Workshop_turn "Workshop._turn" (defScope s_Workshop_turn) f cdv A outer s H E).nox (defBody s_Workshop_turn) (b_Workshop_turn G) :=
  (s_cons (s_if (PW.pt (dt_or (dt_not (dt_val (d_call D_is_index (hr.mono (by decide)) rfl (da_cons (de_var (pv 2)) (da_cons (d_len rfl bi.len_ (da_cons (d_fld kw.cW kw.w_edits (de_var (pv 0))) da_nil)) da_nil))))) (dt_or1 (t_eq hr (d_ix (d_fld kw.cW kw.w_in_force (de_var (pv 0))) (de_var (pv 2))) (de_var (pv 3)))))) (s_cons s_never
    s_nil) s_nil)
    (s_cons (s_expr (d_meth kw.cW D_Workshop_take (hr.mono (by decide)) (de_var (pv 0)) (da_cons (de_tup (da_cons (de_var (pv 1)) (da_cons (de_var (pv 2)) da_nil))) da_nil)))
    (s_cons (s_asg (de_var (pv 3)) (g_setIx (d_fld kw.cW kw.w_in_force (de_var (pv 0))) (de_var (pv 2))))
    s_nil)))
theorem nd_Workshop_undo : N_Workshop_undo.Nodup := by decide +kernel
theorem w_Workshop_undo {S : Sx} {G : Gp} (bi : Bi S) (kp : Kp S G) (kw : Kw S G) {f : Addr} {cdv : Value} {A : Around} {outer : List Env} {s : Shared} {H : Hp} {E : XK} (hr : Room 2 (A.deeper (envOfC "Workshop.undo" (defScope s_Workshop_undo) s.heap.objs.size f cdv))) (D_Workshop_turn : Dm S G G.CW 2 "_turn" ["self", "word", "number", "force"] (C_Workshop_turn G)) :
    DSs G (cxOf CX0 S.P S.w S.K S.mg S.base N_Workshop_undo "Workshop.undo" (defScope s_Workshop_undo) f cdv A outer s H E).nox (defBody s_Workshop_undo) (b_Workshop_undo G) :=
  (s_cons (s_expr (d_meth kw.cW D_Workshop_turn (hr.mono (by decide)) (de_var (pv 0)) (da_cons de_str (da_cons (de_var (pv 1)) (da_cons de_bl da_nil)))))
    s_nil)
theorem nd_Workshop_redo : N_Workshop_redo.Nodup := by decide +kernel
theorem w_Workshop_redo {S : Sx} {G : Gp} (bi : Bi S) (kp : Kp S G) (kw : Kw S G) {f : Addr} {cdv : Value} {A : Around} {outer : List Env} {s : Shared} {H : Hp} {E : XK} (hr : Room 2 (A.deeper (envOfC "Workshop.redo" (defScope s_Workshop_redo) s.heap.objs.size f cdv))) (D_Workshop_turn : Dm S G G.CW 2 "_turn" ["self", "word", "number", "force"] (C_Workshop_turn G)) :
    DSs G (cxOf CX0 S.P S.w S.K S.mg S.base N_Workshop_redo "Workshop.redo" (defScope s_Workshop_redo) f cdv A outer s H E).nox (defBody s_Workshop_redo) (b_Workshop_redo G) :=
  (s_cons (s_expr (d_meth kw.cW D_Workshop_turn (hr.mono (by decide)) (de_var (pv 0)) (da_cons de_str (da_cons (de_var (pv 1)) (da_cons de_bl da_nil)))))
    s_nil)
theorem nd_Workshop_test : N_Workshop_test.Nodup := by decide +kernel
theorem w_Workshop_test {S : Sx} {G : Gp} (bi : Bi S) (kp : Kp S G) (kw : Kw S G) {f : Addr} {cdv : Value} {A : Around} {outer : List Env} {s : Shared} {H : Hp} {E : XK} (hr : Room 8 (A.deeper (envOfC "Workshop.test" (defScope s_Workshop_test) s.heap.objs.size f cdv))) (D_Workshop_take : Dm S G G.CW 1 "_take" ["self", "event"] (C_Workshop_take G)) (D_frozen : Dn S G 7 "frozen" ["value"] (C_frozen G)) (D_is_event : Dn S G 2 "is_event" ["program", "value"] (C_is_event G)) (D_is_output : Dn S G 5 "is_output" ["program", "value"] (C_is_output G)) {P c : Addr} (hP : P ∈ G.T) (TB : GxR.TabB S.base S.mg c P) (hcode : cdv = .ref c) :
    DSs G (cxOf CX0 S.P S.w S.K S.mg S.base N_Workshop_test "Workshop.test" (defScope s_Workshop_test) f cdv A outer s H E).nox (defBody s_Workshop_test) (b_Workshop_test G) :=
  (s_cons (s_set (i := 1) nd_Workshop_test rfl (by first | exact Or.inl rfl | exact Or.inr rfl) (d_call D_frozen (hr.mono (by decide)) rfl (da_cons (de_var (pv 1)) da_nil)))
    (s_cons (s_set (i := 2) nd_Workshop_test rfl (by first | exact Or.inl rfl | exact Or.inr rfl) (d_call D_frozen (hr.mono (by decide)) rfl (da_cons (de_var (pv 2)) da_nil)))
    (s_cons (s_if (PW.pt (dt_or (dt_not (dt_val (d_isi (fun _ _ _ _ e h => kd_tup e h) rfl bi.isinstance_ rfl bi.tuple_ (by decide +kernel) (de_var (pv 1))))) (dt_or1 (t_eq hr (d_len rfl bi.len_ (da_cons (de_var (pv 1)) da_nil)) de_int)))) (s_cons s_never
    s_nil) s_nil)
    (s_cons (s_if (dt_not (dt_val (d_all (own := [(Str.ofString "event", 3)]) hr rfl nd_Workshop_test rfl bi.all_ hP TB hcode (gblk_by (own := [(Str.ofString "event", 3)]) (N := N_Workshop_test) (sc := defScope s_Workshop_test) (by decide +kernel) (by decide +kernel)) (by decide) (di_walk (de_var (pv 1))) (fun _ _ _ _ _ _ _ => (tg_nm (i := 3) nd_Workshop_test rfl (by first | exact Or.inl rfl | exact Or.inr rfl))) (fun _ _ _ _ _ _ _ => (d_call D_is_event ((room_gen hr _).mono (by decide)) rfl (da_cons (d_fld kw.cW kw.w_base (de_var (pv 0))) (da_cons (de_var (pv 3)) da_nil))))))) (s_cons s_never
    s_nil) s_nil)
    (s_cons (s_if (PW.pt (dt_or (dt_not (dt_val (d_isi (fun _ _ _ _ e h => kd_tup e h) rfl bi.isinstance_ rfl bi.tuple_ (by decide +kernel) (de_var (pv 2))))) (dt_or1 (t_ne hr (d_len rfl bi.len_ (da_cons (de_var (pv 2)) da_nil)) (d_len rfl bi.len_ (da_cons (de_var (pv 1)) da_nil)))))) (s_cons s_never
    s_nil) s_nil)
    (s_cons (s_if (dt_not (dt_val (d_all (own := [(Str.ofString "output", 4)]) hr rfl nd_Workshop_test rfl bi.all_ hP TB hcode (gblk_by (own := [(Str.ofString "output", 4)]) (N := N_Workshop_test) (sc := defScope s_Workshop_test) (by decide +kernel) (by decide +kernel)) (by decide) (di_walk (de_var (pv 2))) (fun _ _ _ _ _ _ _ => (tg_nm (i := 4) nd_Workshop_test rfl (by first | exact Or.inl rfl | exact Or.inr rfl))) (fun _ _ _ _ _ _ _ => (d_call D_is_output ((room_gen hr _).mono (by decide)) rfl (da_cons (d_fld kw.cW kw.w_base (de_var (pv 0))) (da_cons (de_var (pv 4)) da_nil))))))) (s_cons s_never
    s_nil) s_nil)
    (s_cons (s_expr (d_meth kw.cW D_Workshop_take (hr.mono (by decide)) (de_var (pv 0)) (da_cons (de_tup (da_cons de_str (da_cons (de_var (pv 1)) (da_cons (de_var (pv 2)) da_nil)))) da_nil)))
    (s_cons (s_expr (d_app (d_fld kw.cW kw.w_tests (de_var (pv 0))) (de_tup (da_cons (de_var (pv 1)) (da_cons (de_var (pv 2)) da_nil)))))
    (s_cons (s_expr (d_app (d_fld kw.cW kw.w_last (de_var (pv 0))) de_non))
    (s_cons (s_ret (d_sub (d_len rfl bi.len_ (da_cons (d_fld kw.cW kw.w_tests (de_var (pv 0))) da_nil)) de_int))
    s_nil))))))))))
theorem nd_Workshop_program_with : N_Workshop_program_with.Nodup := by decide +kernel
theorem w_Workshop_program_with {S : Sx} {G : Gp} (bi : Bi S) (kp : Kp S G) (kw : Kw S G) {f : Addr} {cdv : Value} {A : Around} {outer : List Env} {s : Shared} {H : Hp} {E : XK} (hr : Room 10 (A.deeper (envOfC "Workshop.program_with" (defScope s_Workshop_program_with) s.heap.objs.size f cdv))) (D_with_rows : Dn S G 10 "with_rows" ["program", "rows"] (C_with_rows G)) :
    DSs G (cxOf CX0 S.P S.w S.K S.mg S.base N_Workshop_program_with "Workshop.program_with" (defScope s_Workshop_program_with) f cdv A outer s H E).nox (defBody s_Workshop_program_with) (b_Workshop_program_with G) :=
  (s_cons (s_ret (d_call D_with_rows (hr.mono (by decide)) rfl (da_cons (d_fld kw.cW kw.w_base (de_var (pv 0))) (da_cons (d_lc (own := [(Str.ofString "number", 2)]) rfl nd_Workshop_program_with (di_walk (de_var (pv 1))) (blkOk_by (own := [(Str.ofString "number", 2)]) (N := N_Workshop_program_with) (sc := defScope s_Workshop_program_with) (by decide +kernel)) (by decide) (fun _ _ _ _ _ => (tg_nm (i := 2) nd_Workshop_program_with rfl (by first | exact Or.inl rfl | exact Or.inr rfl))) (fun _ _ _ _ _ => ts_nil) (fun _ _ _ _ _ => (d_sl (d_ix (d_fld kw.cW kw.w_edits (de_var (pv 0))) (de_var (pv 2))) (do_some de_int) do_none))) da_nil))))
    s_nil)
theorem nd_Workshop_program : N_Workshop_program.Nodup := by decide +kernel
theorem w_Workshop_program {S : Sx} {G : Gp} (bi : Bi S) (kp : Kp S G) (kw : Kw S G) {f : Addr} {cdv : Value} {A : Around} {outer : List Env} {s : Shared} {H : Hp} {E : XK} (hr : Room 11 (A.deeper (envOfC "Workshop.program" (defScope s_Workshop_program) s.heap.objs.size f cdv))) (D_in_force : Dpr S G G.CW 1 "in_force" (C_in_force G)) (D_Workshop_program_with : Dm S G G.CW 11 "program_with" ["self", "numbers"] (C_Workshop_program_with G)) :
    DSs G (cxOf CX0 S.P S.w S.K S.mg S.base N_Workshop_program "Workshop.program" (defScope s_Workshop_program) f cdv A outer s H E).nox (defBody s_Workshop_program) (b_Workshop_program G) :=
  (s_cons (s_ret (d_meth kw.cW D_Workshop_program_with (hr.mono (by decide)) (de_var (pv 0)) (da_cons (d_prop kw.cW D_in_force ((hr.mono (by decide))) (de_var (pv 0))) da_nil)))
    s_nil)
theorem nd_Workshop_is_stale : N_Workshop_is_stale.Nodup := by decide +kernel
theorem w_Workshop_is_stale {S : Sx} {G : Gp} (bi : Bi S) (kp : Kp S G) (kw : Kw S G) {f : Addr} {cdv : Value} {A : Around} {outer : List Env} {s : Shared} {H : Hp} {E : XK} (hr : Room 2 (A.deeper (envOfC "Workshop._is_stale" (defScope s_Workshop_is_stale) s.heap.objs.size f cdv))) (D_row_at : Dn S G 1 "row_at" ["program", "cell"] (C_row_at G)) {P c : Addr} (hP : P ∈ G.T) (TB : GxR.TabB S.base S.mg c P) (hcode : cdv = .ref c) :
    DSs G (cxOf CX0 S.P S.w S.K S.mg S.base N_Workshop_is_stale "Workshop._is_stale" (defScope s_Workshop_is_stale) f cdv A outer s H E).nox (defBody s_Workshop_is_stale) (b_Workshop_is_stale G) :=
  (s_cons (s_set (i := 3) nd_Workshop_is_stale rfl (by first | exact Or.inl rfl | exact Or.inr rfl) (d_ix (d_fld kw.cW kw.w_last (de_var (pv 0))) (de_var (pv 2))))
    (s_cons (s_if (t_isN (de_var (pv 3))) (s_cons (s_ret de_bl)
    s_nil) s_nil)
    (s_cons (s_ret (d_any (own := [(Str.ofString "cell", 4), (Str.ofString "row", 5)]) hr rfl nd_Workshop_is_stale rfl bi.any_ hP TB hcode (gblk_by (own := [(Str.ofString "cell", 4), (Str.ofString "row", 5)]) (N := N_Workshop_is_stale) (sc := defScope s_Workshop_is_stale) (by decide +kernel) (by decide +kernel)) (by decide) (di_walk (d_ix (de_var (pv 3)) de_int)) (fun _ _ _ _ _ _ _ => (tg_tp rfl (tg_cons (tg_nm (i := 4) nd_Workshop_is_stale rfl (by first | exact Or.inl rfl | exact Or.inr rfl)) (tg_cons (tg_nm (i := 5) nd_Workshop_is_stale rfl (by first | exact Or.inl rfl | exact Or.inr rfl)) tg_nil)))) (fun _ _ _ _ _ _ _ => (d_ne (room_gen hr _) (d_call D_row_at ((room_gen hr _).mono (by decide)) rfl (da_cons (de_var (pv 1)) (da_cons (de_var (pv 4)) da_nil))) (de_var (pv 5))))))
    s_nil)))
theorem nd_Workshop_stale : N_Workshop_stale.Nodup := by decide +kernel
theorem w_Workshop_stale {S : Sx} {G : Gp} (bi : Bi S) (kp : Kp S G) (kw : Kw S G) {f : Addr} {cdv : Value} {A : Around} {outer : List Env} {s : Shared} {H : Hp} {E : XK} (hr : Room 12 (A.deeper (envOfC "Workshop.stale" (defScope s_Workshop_stale) s.heap.objs.size f cdv))) (D_Workshop_is_stale : Dm S G G.CW 3 "_is_stale" ["self", "program", "number"] (C_Workshop_is_stale G)) (D_Workshop_program : Dm S G G.CW 12 "program" ["self"] (C_Workshop_program G)) :
    DSs G (cxOf CX0 S.P S.w S.K S.mg S.base N_Workshop_stale "Workshop.stale" (defScope s_Workshop_stale) f cdv A outer s H E).nox (defBody s_Workshop_stale) (b_Workshop_stale G) :=
  (s_cons (s_set (i := 1) nd_Workshop_stale rfl (by first | exact Or.inl rfl | exact Or.inr rfl) (d_meth0 kw.cW D_Workshop_program (hr.mono (by decide)) (de_var (pv 0))))
    (s_cons (s_ret (d_lc (own := [(Str.ofString "number", 2)]) rfl nd_Workshop_stale (di_range rfl bi.range_ (d_len rfl bi.len_ (da_cons (d_fld kw.cW kw.w_tests (de_var (pv 0))) da_nil))) (blkOk_by (own := [(Str.ofString "number", 2)]) (N := N_Workshop_stale) (sc := defScope s_Workshop_stale) (by decide +kernel)) (by decide) (fun _ _ _ _ _ => (tg_nm (i := 2) nd_Workshop_stale rfl (by first | exact Or.inl rfl | exact Or.inr rfl))) (fun _ _ _ _ _ => (ts_one (dt_val (d_meth kw.cW D_Workshop_is_stale (hr.mono (by decide)) (de_var (pv 0)) (da_cons (de_var (pv 1)) (da_cons (de_var (pv 2)) da_nil)))))) (fun _ _ _ _ _ => (de_var (pv 2)))))
    s_nil))
theorem nd_Workshop_verdicts : N_Workshop_verdicts.Nodup := by decide +kernel
theorem w_Workshop_verdicts {S : Sx} {G : Gp} (bi : Bi S) (kp : Kp S G) (kw : Kw S G) {f : Addr} {cdv : Value} {A : Around} {outer : List Env} {s : Shared} {H : Hp} {E : XK} (hr : Room 12 (A.deeper (envOfC "Workshop.verdicts" (defScope s_Workshop_verdicts) s.heap.objs.size f cdv))) (D_Workshop_is_stale : Dm S G G.CW 3 "_is_stale" ["self", "program", "number"] (C_Workshop_is_stale G)) (D_Workshop_program : Dm S G G.CW 12 "program" ["self"] (C_Workshop_program G)) (D_row_at : Dn S G 1 "row_at" ["program", "cell"] (C_row_at G)) (D_run : Dn S G 3 "run" ["program", "events"] (C_run G)) :
    DSs G (cxOf CX0 S.P S.w S.K S.mg S.base N_Workshop_verdicts "Workshop.verdicts" (defScope s_Workshop_verdicts) f cdv A outer s H E).nox (defBody s_Workshop_verdicts) (b_Workshop_verdicts G) :=
  (s_cons (s_set (i := 1) nd_Workshop_verdicts rfl (by first | exact Or.inl rfl | exact Or.inr rfl) (d_meth0 kw.cW D_Workshop_program (hr.mono (by decide)) (de_var (pv 0))))
    (s_cons (s_set (i := 2) nd_Workshop_verdicts rfl (by first | exact Or.inl rfl | exact Or.inr rfl) (de_own da_nil))
    (s_cons (s_for PassesOwn.never rfl (di_enO rfl bi.enumerate_ (d_fld kw.cW kw.w_tests (de_var (pv 0)))) (tg_tp rfl (tg_cons (tg_nm (i := 3) nd_Workshop_verdicts rfl (by first | exact Or.inl rfl | exact Or.inr rfl)) (tg_cons (tg_tp rfl (tg_cons (tg_nm (i := 4) nd_Workshop_verdicts rfl (by first | exact Or.inl rfl | exact Or.inr rfl)) (tg_cons (tg_nm (i := 5) nd_Workshop_verdicts rfl (by first | exact Or.inl rfl | exact Or.inr rfl)) tg_nil))) tg_nil))) (s_cons (s_if (dt_val (d_meth kw.cW D_Workshop_is_stale (hr.mono (by decide)) (de_var (pv 0)) (da_cons (de_var (pv 1)) (da_cons (de_var (pv 3)) da_nil)))) (s_cons (s_asg (d_call D_run (hr.mono (by decide)) rfl (da_cons (de_var (pv 1)) (da_cons (de_var (pv 4)) da_nil))) (g_tg (tg_tp rfl (tg_cons (tg_nm (i := 7) nd_Workshop_verdicts rfl (by first | exact Or.inl rfl | exact Or.inr rfl)) (tg_cons (tg_nm (i := 8) nd_Workshop_verdicts rfl (by first | exact Or.inl rfl | exact Or.inr rfl)) (tg_cons (tg_nm (i := 9) nd_Workshop_verdicts rfl (by first | exact Or.inl rfl | exact Or.inr rfl)) tg_nil))))))
    (s_cons (s_setLc (i := 6) (own := [(Str.ofString "cell", 10)]) rfl nd_Workshop_verdicts rfl rfl (sw_true rfl rfl rfl (by decide +kernel)) (di_walk (de_var (pv 9))) (blkOk_by (own := [(Str.ofString "cell", 10)]) (N := N_Workshop_verdicts) (sc := defScope s_Workshop_verdicts) (by decide +kernel)) (by decide) (fun _ _ _ _ _ => (tg_nm (i := 10) nd_Workshop_verdicts rfl (by first | exact Or.inl rfl | exact Or.inr rfl))) (fun _ _ _ _ _ => ts_nil) (fun _ _ _ _ _ => (de_tup (da_cons (de_var (pv 10)) (da_cons (d_call D_row_at (hr.mono (by decide)) rfl (da_cons (de_var (pv 1)) (da_cons (de_var (pv 10)) da_nil))) da_nil)))))
    (s_cons (s_asg (de_tup (da_cons (de_var (pv 6)) (da_cons (d_eq hr (de_var (pv 8)) (d_list rfl bi.list_ (da_cons (de_var (pv 5)) da_nil))) da_nil))) (g_setIx (d_fld kw.cW kw.w_last (de_var (pv 0))) (de_var (pv 3))))
    (s_cons (s_faug kw.cW kw.w_runs (de_var (pv 0)) de_int)
    s_nil)))) s_nil)
    (s_cons (s_expr (d_app (de_var (pv 2)) (d_ix (d_ix (d_fld kw.cW kw.w_last (de_var (pv 0))) (de_var (pv 3))) de_int)))
    s_nil)))
    (s_cons (s_ret (de_frz (de_var (pv 2))))
    s_nil))))
theorem nd_l_cell : N_l_cell.Nodup := by decide +kernel
theorem w_l_cell {S : Sx} {G : Gp} (bi : Bi S) (kp : Kp S G) (kw : Kw S G) {f : Addr} {cdv : Value} {A : Around} {outer : List Env} {s : Shared} {H : Hp} {E : XK} (hr : Room 0 (A.deeper (envOfC "_law_cell" (defScope s_l_cell) s.heap.objs.size f cdv))) :
    DSs G (cxOf CX0 S.P S.w S.K S.mg S.base N_l_cell "_law_cell" (defScope s_l_cell) f cdv A outer s H E).nox (defBody s_l_cell) (b_l_cell G) :=
  (s_cons (s_if (t_lt (de_var (pv 1)) (d_len rfl bi.len_ (da_cons (de_var (pv 0)) da_nil))) (s_cons (s_ret (d_ix (de_var (pv 0)) (de_var (pv 1))))
    s_nil) s_nil)
    (s_cons (s_ret de_int)
    s_nil))
theorem nd_l_source : N_l_source.Nodup := by decide +kernel
theorem w_l_source {S : Sx} {G : Gp} (bi : Bi S) (kp : Kp S G) (kw : Kw S G) {f : Addr} {cdv : Value} {A : Around} {outer : List Env} {s : Shared} {H : Hp} {E : XK} (hr : Room 0 (A.deeper (envOfC "_law_source" (defScope s_l_source) s.heap.objs.size f cdv))) :
    DSs G (cxOf CX0 S.P S.w S.K S.mg S.base N_l_source "_law_source" (defScope s_l_source) f cdv A outer s H E).nox (defBody s_l_source) (b_l_source G) :=
  (s_cons (s_if (t_ge (de_var (pv 0)) (d_pow de_int de_int)) (s_cons (s_ret (de_own (da_cons (d_sub (de_var (pv 0)) (d_pow de_int de_int)) (da_cons (d_add (de_var (pv 1)) de_int) da_nil))))
    s_nil) s_nil)
    (s_cons (s_ret (de_own (da_cons de_int (da_cons (d_mod (d_int rfl bi.int_ (da_cons (d_add (d_add (d_mul (de_var (pv 0)) de_int) (d_mul (de_var (pv 1)) de_int)) de_int) da_nil)) de_int) da_nil))))
    s_nil))
theorem nd_l_pick : N_l_pick.Nodup := by decide +kernel
theorem w_l_pick {S : Sx} {G : Gp} (bi : Bi S) (kp : Kp S G) (kw : Kw S G) {f : Addr} {cdv : Value} {A : Around} {outer : List Env} {s : Shared} {H : Hp} {E : XK} (hr : Room 0 (A.deeper (envOfC "_law_pick" (defScope s_l_pick) s.heap.objs.size f cdv))) :
    DSs G (cxOf CX0 S.P S.w S.K S.mg S.base N_l_pick "_law_pick" (defScope s_l_pick) f cdv A outer s H E).nox (defBody s_l_pick) (b_l_pick G) :=
  (s_cons (s_if (t_gt (d_ix (de_var (pv 0)) de_int) de_int) (s_cons (s_set (i := 3) nd_l_pick rfl (by first | exact Or.inl rfl | exact Or.inr rfl) (d_mod (d_int rfl bi.int_ (da_cons (d_ix (de_var (pv 0)) de_int) da_nil)) (de_var (pv 1))))
    (s_cons (s_asg (d_fdiv (d_ix (de_var (pv 0)) de_int) (de_var (pv 1))) (g_setIx (de_var (pv 0)) de_int))
    (s_cons (s_ret (de_var (pv 3)))
    s_nil))) s_nil)
    (s_cons (s_asg (d_mod (d_int rfl bi.int_ (da_cons (d_add (d_mul (d_ix (de_var (pv 0)) de_int) de_int) de_int) da_nil)) de_int) (g_setIx (de_var (pv 0)) de_int))
    (s_cons (s_set (i := 2) nd_l_pick rfl (by first | exact Or.inl rfl | exact Or.inr rfl) (d_mod (d_int rfl bi.int_ (da_cons (d_add (d_add (d_mul (d_ix (de_var (pv 0)) de_int) de_int) (d_fdiv (d_ix (de_var (pv 0)) de_int) de_int)) de_int) da_nil)) de_int))
    (s_cons (s_ret (d_mod (d_int rfl bi.int_ (da_cons (d_fdiv (de_var (pv 2)) de_int) da_nil)) (de_var (pv 1))))
    s_nil))))
theorem nd_l_worded : N_l_worded.Nodup := by decide +kernel
theorem w_l_worded {S : Sx} {G : Gp} (bi : Bi S) (kp : Kp S G) (kw : Kw S G) {f : Addr} {cdv : Value} {A : Around} {outer : List Env} {s : Shared} {H : Hp} {E : XK} (hr : Room 1 (A.deeper (envOfC "_law_worded" (defScope s_l_worded) s.heap.objs.size f cdv))) (D_l_pick : Dn S G 1 "_law_pick" ["_law_source_here", "_law_many"] (C_l_pick G)) :
    DSs G (cxOf CX0 S.P S.w S.K S.mg S.base N_l_worded "_law_worded" (defScope s_l_worded) f cdv A outer s H E).nox (defBody s_l_worded) (b_l_worded G) :=
  (s_cons (s_ret (d_ix (de_var (pv 1)) (d_call D_l_pick (hr.mono (by decide)) rfl (da_cons (de_var (pv 0)) (da_cons (d_len rfl bi.len_ (da_cons (de_var (pv 1)) da_nil)) da_nil)))))
    s_nil)
theorem nd_l_cells : N_l_cells.Nodup := by decide +kernel
theorem w_l_cells {S : Sx} {G : Gp} (bi : Bi S) (kp : Kp S G) (kw : Kw S G) {f : Addr} {cdv : Value} {A : Around} {outer : List Env} {s : Shared} {H : Hp} {E : XK} (hr : Room 0 (A.deeper (envOfC "_law_cells" (defScope s_l_cells) s.heap.objs.size f cdv))) :
    DSs G (cxOf CX0 S.P S.w S.K S.mg S.base N_l_cells "_law_cells" (defScope s_l_cells) f cdv A outer s H E).nox (defBody s_l_cells) (b_l_cells G) :=
  (s_cons (s_set (i := 1) nd_l_cells rfl (by first | exact Or.inl rfl | exact Or.inr rfl) (de_lst da_nil))
    (s_cons (s_for PassesOwn.never rfl (di_range rfl bi.range_ (d_len rfl bi.len_ (da_cons (d_ix (de_var (pv 0)) de_int) da_nil))) (tg_nm (i := 2) nd_l_cells rfl (by first | exact Or.inl rfl | exact Or.inr rfl)) (s_cons (s_for PassesOwn.never rfl (di_range rfl bi.range_ (d_len rfl bi.len_ (da_cons (d_ix (de_var (pv 0)) de_int) da_nil))) (tg_nm (i := 3) nd_l_cells rfl (by first | exact Or.inl rfl | exact Or.inr rfl)) (s_cons (s_set (i := 1) nd_l_cells rfl (by first | exact Or.inl rfl | exact Or.inr rfl) (d_cat (de_var (pv 1)) (d_lc (own := [(Str.ofString "_law_position_here", 4)]) rfl nd_l_cells (di_range rfl bi.range_ (d_add (d_mul de_int (d_ix (d_ix (d_ix (de_var (pv 0)) de_int) (de_var (pv 2))) de_int)) de_int)) (blkOk_by (own := [(Str.ofString "_law_position_here", 4)]) (N := N_l_cells) (sc := defScope s_l_cells) (by decide +kernel)) (by decide) (fun _ _ _ _ _ => (tg_nm (i := 4) nd_l_cells rfl (by first | exact Or.inl rfl | exact Or.inr rfl))) (fun _ _ _ _ _ => ts_nil) (fun _ _ _ _ _ => (de_tup (da_cons (de_var (pv 2)) (da_cons (de_var (pv 3)) (da_cons (de_var (pv 4)) da_nil))))))))
    s_nil))
    s_nil))
    (s_cons (s_ret (de_var (pv 1)))
    s_nil)))
theorem nd_l_known : N_l_known.Nodup := by decide +kernel
theorem w_l_known {S : Sx} {G : Gp} (bi : Bi S) (kp : Kp S G) (kw : Kw S G) {f : Addr} {cdv : Value} {A : Around} {outer : List Env} {s : Shared} {H : Hp} {E : XK} (hr : Room 0 (A.deeper (envOfC "_law_known" (defScope s_l_known) s.heap.objs.size f cdv))) :
    DSs G (cxOf CX0 S.P S.w S.K S.mg S.base N_l_known "_law_known" (defScope s_l_known) f cdv A outer s H E).nox (defBody s_l_known) (b_l_known G) :=
  (s_cons (s_ret (d_sub (d_add (d_ix (d_ix (d_ix (de_var (pv 0)) de_int) (d_ix (de_var (pv 1)) de_int)) de_int) de_int) (d_mod (d_ix (de_var (pv 1)) de_int) de_int)))
    s_nil)
theorem nd_l_some : N_l_some.Nodup := by decide +kernel
theorem w_l_some {S : Sx} {G : Gp} (bi : Bi S) (kp : Kp S G) (kw : Kw S G) {f : Addr} {cdv : Value} {A : Around} {outer : List Env} {s : Shared} {H : Hp} {E : XK} (hr : Room 1 (A.deeper (envOfC "_law_some" (defScope s_l_some) s.heap.objs.size f cdv))) (D_l_pick : Dn S G 1 "_law_pick" ["_law_source_here", "_law_many"] (C_l_pick G)) :
    DSs G (cxOf CX0 S.P S.w S.K S.mg S.base N_l_some "_law_some" (defScope s_l_some) f cdv A outer s H E).nox (defBody s_l_some) (b_l_some G) :=
  (s_cons (s_setLc (i := 3) (own := [(Str.ofString "_law_k", 4)]) rfl nd_l_some rfl rfl (sw_true rfl rfl rfl (by decide +kernel)) (di_range rfl bi.range_ (de_var (pv 1))) (blkOk_by (own := [(Str.ofString "_law_k", 4)]) (N := N_l_some) (sc := defScope s_l_some) (by decide +kernel)) (by decide) (fun _ _ _ _ _ => (tg_nm (i := 4) nd_l_some rfl (by first | exact Or.inl rfl | exact Or.inr rfl))) (fun _ _ _ _ _ => ts_nil) (fun _ _ _ _ _ => (de_var (pv 4))))
    (s_cons (s_for PassesOwn.never rfl (di_range rfl bi.range_ (d_sub (de_var (pv 1)) (de_var (pv 2)))) (tg_nm (i := 4) nd_l_some rfl (by first | exact Or.inl rfl | exact Or.inr rfl)) (s_cons (s_set (i := 5) nd_l_some rfl (by first | exact Or.inl rfl | exact Or.inr rfl) (d_call D_l_pick (hr.mono (by decide)) rfl (da_cons (de_var (pv 0)) (da_cons (d_len rfl bi.len_ (da_cons (de_var (pv 3)) da_nil)) da_nil))))
    (s_cons (s_set (i := 3) nd_l_some rfl (by first | exact Or.inl rfl | exact Or.inr rfl) (d_cat (d_sl (de_var (pv 3)) do_none (do_some (de_var (pv 5)))) (d_sl (de_var (pv 3)) (do_some (d_add (de_var (pv 5)) de_int)) do_none)))
    s_nil)))
    (s_cons (s_ret (d_tuple rfl bi.tuple_ (da_cons (de_var (pv 3)) da_nil)))
    s_nil)))
theorem nd_l_writes : N_l_writes.Nodup := by decide +kernel
theorem w_l_writes {S : Sx} {G : Gp} (bi : Bi S) (kp : Kp S G) (kw : Kw S G) {f : Addr} {cdv : Value} {A : Around} {outer : List Env} {s : Shared} {H : Hp} {E : XK} (hr : Room 2 (A.deeper (envOfC "_law_writes" (defScope s_l_writes) s.heap.objs.size f cdv))) (D_l_pick : Dn S G 1 "_law_pick" ["_law_source_here", "_law_many"] (C_l_pick G)) (D_l_worded : Dn S G 2 "_law_worded" ["_law_source_here", "_law_words"] (C_l_worded G)) :
    DSs G (cxOf CX0 S.P S.w S.K S.mg S.base N_l_writes "_law_writes" (defScope s_l_writes) f cdv A outer s H E).nox (defBody s_l_writes) (b_l_writes G) :=
  (s_cons (s_set (i := 3) nd_l_writes rfl (by first | exact Or.inl rfl | exact Or.inr rfl) (de_own da_nil))
    (s_cons (s_for PassesOwn.never rfl (di_range rfl bi.range_ (d_ix (de_lst (da_cons de_int (da_cons de_int (da_cons de_int (da_cons de_int (da_cons de_int (da_cons de_int (da_cons de_int (da_cons de_int da_nil))))))))) (d_call D_l_pick (hr.mono (by decide)) rfl (da_cons (de_var (pv 0)) (da_cons de_int da_nil))))) (tg_nm (i := 4) nd_l_writes rfl (by first | exact Or.inl rfl | exact Or.inr rfl)) (s_cons (s_set (i := 5) nd_l_writes rfl (by first | exact Or.inl rfl | exact Or.inr rfl) (d_call D_l_pick (hr.mono (by decide)) rfl (da_cons (de_var (pv 0)) (da_cons (d_len rfl bi.len_ (da_cons (d_ix (de_var (pv 1)) de_int) da_nil)) da_nil))))
    (s_cons (s_expr (d_app (de_var (pv 3)) (de_tup (da_cons (de_var (pv 5)) (da_cons (d_call D_l_worded (hr.mono (by decide)) rfl (da_cons (de_var (pv 0)) (da_cons (d_ix (d_ix (d_ix (de_var (pv 1)) de_int) (de_var (pv 5))) de_int) da_nil))) (da_cons (d_call D_l_pick (hr.mono (by decide)) rfl (da_cons (de_var (pv 0)) (da_cons (de_var (pv 2)) da_nil))) da_nil))))))
    s_nil)))
    (s_cons (s_ret (d_tuple rfl bi.tuple_ (da_cons (de_frz (de_var (pv 3))) da_nil)))
    s_nil)))
theorem nd_l_drawn_row : N_l_drawn_row.Nodup := by decide +kernel
theorem w_l_drawn_row {S : Sx} {G : Gp} (bi : Bi S) (kp : Kp S G) (kw : Kw S G) {f : Addr} {cdv : Value} {A : Around} {outer : List Env} {s : Shared} {H : Hp} {E : XK} (hr : Room 3 (A.deeper (envOfC "_law_drawn_row" (defScope s_l_drawn_row) s.heap.objs.size f cdv))) (D_l_known : Dn S G 1 "_law_known" ["_law_plan_here", "_law_cell_here"] (C_l_known G)) (D_l_some : Dn S G 2 "_law_some" ["_law_source_here", "_law_known_here", "_law_count"] (C_l_some G)) (D_l_worded : Dn S G 2 "_law_worded" ["_law_source_here", "_law_words"] (C_l_worded G)) (D_l_writes : Dn S G 3 "_law_writes" ["_law_source_here", "_law_plan_here", "_law_known_here"] (C_l_writes G)) :
    DSs G (cxOf CX0 S.P S.w S.K S.mg S.base N_l_drawn_row "_law_drawn_row" (defScope s_l_drawn_row) f cdv A outer s H E).nox (defBody s_l_drawn_row) (b_l_drawn_row G) :=
  (s_cons (s_set (i := 3) nd_l_drawn_row rfl (by first | exact Or.inl rfl | exact Or.inr rfl) (d_call D_l_known (hr.mono (by decide)) rfl (da_cons (de_var (pv 1)) (da_cons (de_var (pv 2)) da_nil))))
    (s_cons (s_set (i := 4) nd_l_drawn_row rfl (by first | exact Or.inl rfl | exact Or.inr rfl) (d_call D_l_worded (hr.mono (by decide)) rfl (da_cons (de_var (pv 0)) (da_cons (d_lc (own := [(Str.ofString "_law_k", 5)]) rfl nd_l_drawn_row (di_range rfl bi.range_ (d_len rfl bi.len_ (da_cons (d_ix (de_var (pv 1)) de_int) da_nil))) (blkOk_by (own := [(Str.ofString "_law_k", 5)]) (N := N_l_drawn_row) (sc := defScope s_l_drawn_row) (by decide +kernel)) (by decide) (fun _ _ _ _ _ => (tg_nm (i := 5) nd_l_drawn_row rfl (by first | exact Or.inl rfl | exact Or.inr rfl))) (fun _ _ _ _ _ => (ts_one (t_le (d_ix (d_ix (d_ix (de_var (pv 1)) de_int) (de_var (pv 5))) de_int) (de_var (pv 3))))) (fun _ _ _ _ _ => (de_var (pv 5)))) da_nil))))
    (s_cons (s_ret (de_tup (da_cons (de_var (pv 4)) (da_cons (d_call D_l_some (hr.mono (by decide)) rfl (da_cons (de_var (pv 0)) (da_cons (de_var (pv 3)) (da_cons (d_ix (d_ix (d_ix (de_var (pv 1)) de_int) (de_var (pv 4))) de_int) da_nil)))) (da_cons (d_call D_l_writes (hr.mono (by decide)) rfl (da_cons (de_var (pv 0)) (da_cons (de_var (pv 1)) (da_cons (de_var (pv 3)) da_nil)))) da_nil)))))
    s_nil)))
theorem nd_l_named : N_l_named.Nodup := by decide +kernel
theorem w_l_named {S : Sx} {G : Gp} (bi : Bi S) (kp : Kp S G) (kw : Kw S G) {f : Addr} {cdv : Value} {A : Around} {outer : List Env} {s : Shared} {H : Hp} {E : XK} (hr : Room 2 (A.deeper (envOfC "_law_named" (defScope s_l_named) s.heap.objs.size f cdv))) (D_l_pick : Dn S G 1 "_law_pick" ["_law_source_here", "_law_many"] (C_l_pick G)) (D_l_worded : Dn S G 2 "_law_worded" ["_law_source_here", "_law_words"] (C_l_worded G)) :
    DSs G (cxOf CX0 S.P S.w S.K S.mg S.base N_l_named "_law_named" (defScope s_l_named) f cdv A outer s H E).nox (defBody s_l_named) (b_l_named G) :=
  (s_cons (s_set (i := 3) nd_l_named rfl (by first | exact Or.inl rfl | exact Or.inr rfl) de_str)
    (s_cons (s_set (i := 4) nd_l_named rfl (by first | exact Or.inl rfl | exact Or.inr rfl) (de_lst (da_cons de_str (da_cons de_str (da_cons de_str (da_cons de_str (da_cons de_str (da_cons de_str (da_cons de_str (da_cons de_str (da_cons de_str (da_cons de_str (da_cons de_str (da_cons de_str (da_cons de_str (da_cons de_str (da_cons de_str (da_cons de_str (da_cons de_str da_nil)))))))))))))))))))
    (s_cons (s_set (i := 5) nd_l_named rfl (by first | exact Or.inl rfl | exact Or.inr rfl) (de_own da_nil))
    (s_cons (s_for PassesOwn.never rfl (di_range rfl bi.range_ (de_var (pv 1))) (tg_nm (i := 6) nd_l_named rfl (by first | exact Or.inl rfl | exact Or.inr rfl)) (s_cons (s_set (i := 7) nd_l_named rfl (by first | exact Or.inl rfl | exact Or.inr rfl) (d_call D_l_worded (hr.mono (by decide)) rfl (da_cons (de_var (pv 0)) (da_cons (de_var (pv 4)) da_nil))))
    (s_cons (s_if (t_eq hr (d_call D_l_pick (hr.mono (by decide)) rfl (da_cons (de_var (pv 0)) (da_cons de_int da_nil))) de_int) (s_cons (s_set (i := 7) nd_l_named rfl (by first | exact Or.inl rfl | exact Or.inr rfl) (d_ix de_str (d_call D_l_pick (hr.mono (by decide)) rfl (da_cons (de_var (pv 0)) (da_cons de_int da_nil)))))
    (s_cons (s_for PassesOwn.never rfl (di_range rfl bi.range_ (d_ix (de_lst (da_cons de_int (da_cons de_int (da_cons de_int (da_cons de_int da_nil))))) (d_call D_l_pick (hr.mono (by decide)) rfl (da_cons (de_var (pv 0)) (da_cons de_int da_nil))))) (tg_nm (i := 9) nd_l_named rfl (by first | exact Or.inl rfl | exact Or.inr rfl)) (s_cons (s_set (i := 7) nd_l_named rfl (by first | exact Or.inl rfl | exact Or.inr rfl) (d_addS (de_var (pv 7)) (d_ix (de_var (pv 3)) (d_call D_l_pick (hr.mono (by decide)) rfl (da_cons (de_var (pv 0)) (da_cons de_int da_nil))))))
    s_nil))
    s_nil)) s_nil)
    (s_cons (s_if (PW.pt (dt_and (t_gt (d_len rfl bi.len_ (da_cons (de_var (pv 2)) da_nil)) de_int) (dt_and1 (t_eq hr (d_call D_l_pick (hr.mono (by decide)) rfl (da_cons (de_var (pv 0)) (da_cons de_int da_nil))) de_int)))) (s_cons (s_set (i := 7) nd_l_named rfl (by first | exact Or.inl rfl | exact Or.inr rfl) (d_addS (d_addS (d_sl (de_var (pv 7)) do_none (do_some de_int)) (d_ix (de_var (pv 2)) (d_call D_l_pick (hr.mono (by decide)) rfl (da_cons (de_var (pv 0)) (da_cons de_int da_nil))))) (d_ix (de_var (pv 2)) (d_call D_l_pick (hr.mono (by decide)) rfl (da_cons (de_var (pv 0)) (da_cons de_int da_nil))))))
    s_nil) s_nil)
    (s_cons (s_for PassesOwn.never rfl (di_range rfl bi.range_ (de_var (pv 1))) (tg_nm (i := 8) nd_l_named rfl (by first | exact Or.inl rfl | exact Or.inr rfl)) (s_cons (s_if (t_in hr (de_var (pv 7)) (de_var (pv 5))) (s_cons (s_set (i := 7) nd_l_named rfl (by first | exact Or.inl rfl | exact Or.inr rfl) (d_addS (d_ix de_str (de_var (pv 8))) (d_sl (de_var (pv 7)) (do_some de_int) do_none)))
    s_nil) s_nil)
    s_nil))
    (s_cons (s_expr (d_app (de_var (pv 5)) (de_var (pv 7))))
    s_nil))))))
    (s_cons (s_ret (d_tuple rfl bi.tuple_ (da_cons (de_frz (de_var (pv 5))) da_nil)))
    s_nil)))))
theorem nd_l_plan : N_l_plan.Nodup := by decide +kernel
theorem w_l_plan {S : Sx} {G : Gp} (bi : Bi S) (kp : Kp S G) (kw : Kw S G) {f : Addr} {cdv : Value} {A : Around} {outer : List Env} {s : Shared} {H : Hp} {E : XK} (hr : Room 4 (A.deeper (envOfC "_law_plan" (defScope s_l_plan) s.heap.objs.size f cdv))) (D_l_cells : Dn S G 1 "_law_cells" ["_law_plan_here"] (C_l_cells G)) (D_l_drawn_row : Dn S G 4 "_law_drawn_row" ["_law_source_here", "_law_plan_here", "_law_cell_here"] (C_l_drawn_row G)) (D_l_named : Dn S G 3 "_law_named" ["_law_source_here", "_law_count", "_law_ends"] (C_l_named G)) (D_l_pick : Dn S G 1 "_law_pick" ["_law_source_here", "_law_many"] (C_l_pick G)) :
    DSs G (cxOf CX0 S.P S.w S.K S.mg S.base N_l_plan "_law_plan" (defScope s_l_plan) f cdv A outer s H E).nox (defBody s_l_plan) (b_l_plan G) :=
  (s_cons (s_set (i := 2) nd_l_plan rfl (by first | exact Or.inl rfl | exact Or.inr rfl) (d_call D_l_named (hr.mono (by decide)) rfl (da_cons (de_var (pv 0)) (da_cons (d_ix (d_ix (de_lst (da_cons (de_lst (da_cons de_int (da_cons de_int (da_cons de_int (da_cons de_int da_nil))))) (da_cons (de_lst (da_cons de_int (da_cons de_int (da_cons de_int (da_cons de_int da_nil))))) da_nil))) (de_var (pv 1))) (d_call D_l_pick (hr.mono (by decide)) rfl (da_cons (de_var (pv 0)) (da_cons de_int da_nil)))) (da_cons de_str da_nil)))))
    (s_cons (s_set (i := 3) nd_l_plan rfl (by first | exact Or.inl rfl | exact Or.inr rfl) (d_call D_l_named (hr.mono (by decide)) rfl (da_cons (de_var (pv 0)) (da_cons de_int (da_cons de_str da_nil)))))
    (s_cons (s_set (i := 4) nd_l_plan rfl (by first | exact Or.inl rfl | exact Or.inr rfl) (d_call D_l_named (hr.mono (by decide)) rfl (da_cons (de_var (pv 0)) (da_cons de_int (da_cons de_str da_nil)))))
    (s_cons (s_set (i := 5) nd_l_plan rfl (by first | exact Or.inl rfl | exact Or.inr rfl) (d_call D_l_named (hr.mono (by decide)) rfl (da_cons (de_var (pv 0)) (da_cons de_int (da_cons de_str da_nil)))))
    (s_cons (s_if (t_notIn hr (d_ix (de_var (pv 4)) de_int) (de_var (pv 5))) (s_cons (s_set (i := 5) nd_l_plan rfl (by first | exact Or.inl rfl | exact Or.inr rfl) (de_tup (da_cons (d_ix (de_var (pv 5)) de_int) (da_cons (d_ix (de_var (pv 4)) de_int) da_nil))))
    s_nil) s_nil)
    (s_cons (s_set (i := 6) nd_l_plan rfl (by first | exact Or.inl rfl | exact Or.inr rfl) (de_lst (da_cons (de_tup (da_cons (d_ix (de_var (pv 3)) de_int) (da_cons (de_var (pv 4)) da_nil))) (da_cons (de_tup (da_cons (d_ix (de_var (pv 3)) de_int) (da_cons (de_var (pv 5)) da_nil))) (da_cons (de_tup (da_cons (d_ix (de_var (pv 3)) de_int) (da_cons (d_call D_l_named (hr.mono (by decide)) rfl (da_cons (de_var (pv 0)) (da_cons de_int (da_cons de_str da_nil)))) da_nil))) da_nil)))))
    (s_cons (s_set (i := 6) nd_l_plan rfl (by first | exact Or.inl rfl | exact Or.inr rfl) (d_sl (de_var (pv 6)) do_none (do_some (d_ix (de_lst (da_cons de_int (da_cons de_int (da_cons de_int (da_cons (d_add de_int (d_mul de_int (de_var (pv 1)))) da_nil))))) (d_call D_l_pick (hr.mono (by decide)) rfl (da_cons (de_var (pv 0)) (da_cons de_int da_nil)))))))
    (s_cons (s_set (i := 7) nd_l_plan rfl (by first | exact Or.inl rfl | exact Or.inr rfl) (d_ix (de_lst (da_cons de_int (da_cons de_int (da_cons de_int (da_cons de_int (da_cons (d_add de_int (d_mul de_int (de_var (pv 1)))) da_nil)))))) (d_call D_l_pick (hr.mono (by decide)) rfl (da_cons (de_var (pv 0)) (da_cons de_int da_nil)))))
    (s_cons (s_set (i := 8) nd_l_plan rfl (by first | exact Or.inl rfl | exact Or.inr rfl) (de_lst (da_cons de_int (da_cons de_int (da_cons de_int (da_cons de_int (da_cons (d_add de_int (de_var (pv 1))) da_nil)))))))
    (s_cons (s_if (PW.pt (dt_and (t_eq hr (de_var (pv 1)) de_int) (dt_and1 (t_eq hr (d_call D_l_pick (hr.mono (by decide)) rfl (da_cons (de_var (pv 0)) (da_cons de_int da_nil))) de_int)))) (s_cons (s_set (i := 7) nd_l_plan rfl (by first | exact Or.inl rfl | exact Or.inr rfl) (d_add de_int (d_call D_l_pick (hr.mono (by decide)) rfl (da_cons (de_var (pv 0)) (da_cons de_int da_nil)))))
    (s_cons (s_set (i := 8) nd_l_plan rfl (by first | exact Or.inl rfl | exact Or.inr rfl) (de_lst (da_cons de_int (da_cons de_int (da_cons de_int (da_cons de_int (da_cons de_int da_nil)))))))
    (s_cons (s_set (i := 2) nd_l_plan rfl (by first | exact Or.inl rfl | exact Or.inr rfl) (d_sl (de_var (pv 2)) do_none (do_some de_int)))
    s_nil))) s_nil)
    (s_cons (s_set (i := 9) nd_l_plan rfl (by first | exact Or.inl rfl | exact Or.inr rfl) (d_call D_l_named (hr.mono (by decide)) rfl (da_cons (de_var (pv 0)) (da_cons (d_add (de_var (pv 7)) de_int) (da_cons de_str da_nil)))))
    (s_cons (s_set (i := 10) nd_l_plan rfl (by first | exact Or.inl rfl | exact Or.inr rfl) (d_cat (de_lst (da_cons (de_tup (da_cons (d_ix (de_var (pv 9)) de_int) (da_cons de_int da_nil))) da_nil)) (d_lc (own := [(Str.ofString "_law_k", 14)]) rfl nd_l_plan (di_range rfl bi.range_ (de_var (pv 7))) (blkOk_by (own := [(Str.ofString "_law_k", 14)]) (N := N_l_plan) (sc := defScope s_l_plan) (by decide +kernel)) (by decide) (fun _ _ _ _ _ => (tg_nm (i := 14) nd_l_plan rfl (by first | exact Or.inl rfl | exact Or.inr rfl))) (fun _ _ _ _ _ => ts_nil) (fun _ _ _ _ _ => (de_tup (da_cons (d_ix (de_var (pv 9)) (d_add (de_var (pv 14)) de_int)) (da_cons (d_ix (de_var (pv 8)) (d_call D_l_pick (hr.mono (by decide)) rfl (da_cons (de_var (pv 0)) (da_cons de_int da_nil)))) da_nil)))))))
    (s_cons (s_set (i := 11) nd_l_plan rfl (by first | exact Or.inl rfl | exact Or.inr rfl) (de_lst (da_cons (d_tuple rfl bi.tuple_ (da_cons (de_var (pv 2)) da_nil)) (da_cons (d_tuple rfl bi.tuple_ (da_cons (de_var (pv 6)) da_nil)) (da_cons (d_tuple rfl bi.tuple_ (da_cons (de_var (pv 10)) da_nil)) (da_cons (de_lst da_nil) da_nil))))))
    (s_cons (s_set (i := 12) nd_l_plan rfl (by first | exact Or.inl rfl | exact Or.inr rfl) (de_own da_nil))
    (s_cons (s_for PassesOwn.never rfl (di_walk (d_call D_l_cells (hr.mono (by decide)) rfl (da_cons (de_var (pv 11)) da_nil))) (tg_nm (i := 13) nd_l_plan rfl (by first | exact Or.inl rfl | exact Or.inr rfl)) (s_cons (s_if (t_gt (d_call D_l_pick (hr.mono (by decide)) rfl (da_cons (de_var (pv 0)) (da_cons de_int da_nil))) de_int) (s_cons (s_expr (d_app (de_var (pv 12)) (de_tup (da_cons (de_var (pv 13)) (da_cons (d_call D_l_drawn_row (hr.mono (by decide)) rfl (da_cons (de_var (pv 0)) (da_cons (de_var (pv 11)) (da_cons (de_var (pv 13)) da_nil)))) da_nil)))))
    s_nil) s_nil)
    s_nil))
    (s_cons (s_ret (de_lst (da_cons (d_ix (de_var (pv 11)) de_int) (da_cons (d_ix (de_var (pv 11)) de_int) (da_cons (d_ix (de_var (pv 11)) de_int) (da_cons (de_frz (de_var (pv 12))) da_nil))))))
    s_nil))))))))))))))))
theorem nd_l_program : N_l_program.Nodup := by decide +kernel
theorem w_l_program {S : Sx} {G : Gp} (bi : Bi S) (kp : Kp S G) (kw : Kw S G) {f : Addr} {cdv : Value} {A : Around} {outer : List Env} {s : Shared} {H : Hp} {E : XK} (hr : Room 9 (A.deeper (envOfC "_law_program" (defScope s_l_program) s.heap.objs.size f cdv))) (D_Program_init : Dk S G G.CP 8 "Program" ["self", "names", "ports", "modes", "rows"] (C_Program_init G)) :
    DSs G (cxOf CX0 S.P S.w S.K S.mg S.base N_l_program "_law_program" (defScope s_l_program) f cdv A outer s H E).nox (defBody s_l_program) (b_l_program G) :=
  (s_cons (s_ret (d_makeP D_Program_init (hr.mono (by decide)) rfl (da_cons (d_ix (de_var (pv 0)) de_int) (da_cons (d_ix (de_var (pv 0)) de_int) (da_cons (d_ix (de_var (pv 0)) de_int) (da_cons (d_rev (d_ix (de_var (pv 0)) de_int)) da_nil))))))
    s_nil)
theorem nd_l_idle : N_l_idle.Nodup := by decide +kernel
theorem w_l_idle {S : Sx} {G : Gp} (bi : Bi S) (kp : Kp S G) (kw : Kw S G) {f : Addr} {cdv : Value} {A : Around} {outer : List Env} {s : Shared} {H : Hp} {E : XK} (hr : Room 0 (A.deeper (envOfC "_law_idle" (defScope s_l_idle) s.heap.objs.size f cdv))) :
    DSs G (cxOf CX0 S.P S.w S.K S.mg S.base N_l_idle "_law_idle" (defScope s_l_idle) f cdv A outer s H E).nox (defBody s_l_idle) (b_l_idle G) :=
  (s_cons (s_asg (de_var (pv 1)) (g_tg (tg_tp rfl (tg_cons (tg_nm (i := 3) nd_l_idle rfl (by first | exact Or.inl rfl | exact Or.inr rfl)) (tg_cons (tg_nm (i := 4) nd_l_idle rfl (by first | exact Or.inl rfl | exact Or.inr rfl)) (tg_cons (tg_nm (i := 5) nd_l_idle rfl (by first | exact Or.inl rfl | exact Or.inr rfl)) tg_nil))))))
    (s_cons (s_set (i := 2) nd_l_idle rfl (by first | exact Or.inl rfl | exact Or.inr rfl) (d_ix (d_ix (d_ix (de_var (pv 0)) de_int) (de_var (pv 3))) de_int))
    (s_cons (s_if (t_eq hr (d_mod (de_var (pv 5)) de_int) de_int) (s_cons (s_ret (de_tup (da_cons (de_var (pv 3)) (da_cons (d_tuple rfl bi.tuple_ (da_cons (d_lc (own := [(Str.ofString "_law_k", 6)]) rfl nd_l_idle (di_range rfl bi.range_ (de_var (pv 2))) (blkOk_by (own := [(Str.ofString "_law_k", 6)]) (N := N_l_idle) (sc := defScope s_l_idle) (by decide +kernel)) (by decide) (fun _ _ _ _ _ => (tg_nm (i := 6) nd_l_idle rfl (by first | exact Or.inl rfl | exact Or.inr rfl))) (fun _ _ _ _ _ => ts_nil) (fun _ _ _ _ _ => (de_var (pv 6)))) da_nil)) (da_cons (de_tup da_nil) da_nil)))))
    s_nil) s_nil)
    (s_cons (s_ret (de_tup (da_cons (de_var (pv 3)) (da_cons (d_tuple rfl bi.tuple_ (da_cons (d_lc (own := [(Str.ofString "_law_k", 6)]) rfl nd_l_idle (di_range rfl bi.range_ (d_add (de_var (pv 2)) de_int)) (blkOk_by (own := [(Str.ofString "_law_k", 6)]) (N := N_l_idle) (sc := defScope s_l_idle) (by decide +kernel)) (by decide) (fun _ _ _ _ _ => (tg_nm (i := 6) nd_l_idle rfl (by first | exact Or.inl rfl | exact Or.inr rfl))) (fun _ _ _ _ _ => (ts_one (t_ne hr (de_var (pv 6)) (d_fdiv (de_var (pv 5)) de_int)))) (fun _ _ _ _ _ => (de_var (pv 6)))) da_nil)) (da_cons (de_tup da_nil) da_nil)))))
    s_nil))))
theorem nd_l_table : N_l_table.Nodup := by decide +kernel
theorem w_l_table {S : Sx} {G : Gp} (bi : Bi S) (kp : Kp S G) (kw : Kw S G) {f : Addr} {cdv : Value} {A : Around} {outer : List Env} {s : Shared} {H : Hp} {E : XK} (hr : Room 1 (A.deeper (envOfC "_law_table" (defScope s_l_table) s.heap.objs.size f cdv))) (D_l_cells : Dn S G 1 "_law_cells" ["_law_plan_here"] (C_l_cells G)) (D_l_idle : Dn S G 1 "_law_idle" ["_law_plan_here", "_law_cell_here"] (C_l_idle G)) :
    DSs G (cxOf CX0 S.P S.w S.K S.mg S.base N_l_table "_law_table" (defScope s_l_table) f cdv A outer s H E).nox (defBody s_l_table) (b_l_table G) :=
  (s_cons (s_set (i := 1) nd_l_table rfl (by first | exact Or.inl rfl | exact Or.inr rfl) d_dnew)
    (s_cons (s_for PassesOwn.never rfl (di_walk (d_call D_l_cells (hr.mono (by decide)) rfl (da_cons (de_var (pv 0)) da_nil))) (tg_nm (i := 2) nd_l_table rfl (by first | exact Or.inl rfl | exact Or.inr rfl)) (s_cons (s_dput hr (de_var (pv 1)) (de_var (pv 2)) (d_call D_l_idle (hr.mono (by decide)) rfl (da_cons (de_var (pv 0)) (da_cons (de_var (pv 2)) da_nil))))
    s_nil))
    (s_cons (s_for PassesOwn.never rfl (di_walk (d_ix (de_var (pv 0)) de_int)) (tg_tp rfl (tg_cons (tg_nm (i := 2) nd_l_table rfl (by first | exact Or.inl rfl | exact Or.inr rfl)) (tg_cons (tg_nm (i := 3) nd_l_table rfl (by first | exact Or.inl rfl | exact Or.inr rfl)) tg_nil))) (s_cons (s_dput hr (de_var (pv 1)) (de_var (pv 2)) (de_var (pv 3)))
    s_nil))
    (s_cons (s_ret (de_frzD (de_var (pv 1))))
    s_nil))))
theorem nd_l_index : N_l_index.Nodup := by decide +kernel
theorem w_l_index {S : Sx} {G : Gp} (bi : Bi S) (kp : Kp S G) (kw : Kw S G) {f : Addr} {cdv : Value} {A : Around} {outer : List Env} {s : Shared} {H : Hp} {E : XK} (hr : Room 0 (A.deeper (envOfC "_law_index" (defScope s_l_index) s.heap.objs.size f cdv))) :
    DSs G (cxOf CX0 S.P S.w S.K S.mg S.base N_l_index "_law_index" (defScope s_l_index) f cdv A outer s H E).nox (defBody s_l_index) (b_l_index G) :=
  (s_cons (s_for PassesOwn.never rfl (di_range rfl bi.range_ (d_len rfl bi.len_ (da_cons (de_var (pv 0)) da_nil))) (tg_nm (i := 2) nd_l_index rfl (by first | exact Or.inl rfl | exact Or.inr rfl)) (s_cons (s_if (t_eq hr (d_ix (de_var (pv 0)) (de_var (pv 2))) (de_var (pv 1))) (s_cons (s_ret (de_var (pv 2)))
    s_nil) s_nil)
    s_nil))
    (s_cons (s_ret de_non)
    s_nil))
theorem nd_l_position : N_l_position.Nodup := by decide +kernel
theorem w_l_position {S : Sx} {G : Gp} (bi : Bi S) (kp : Kp S G) (kw : Kw S G) {f : Addr} {cdv : Value} {A : Around} {outer : List Env} {s : Shared} {H : Hp} {E : XK} (hr : Room 0 (A.deeper (envOfC "_law_position" (defScope s_l_position) s.heap.objs.size f cdv))) :
    DSs G (cxOf CX0 S.P S.w S.K S.mg S.base N_l_position "_law_position" (defScope s_l_position) f cdv A outer s H E).nox (defBody s_l_position) (b_l_position G) :=
  (s_cons (s_set (i := 2) nd_l_position rfl (by first | exact Or.inl rfl | exact Or.inr rfl) (d_len rfl bi.len_ (da_cons (d_lc (own := [(Str.ofString "_law_value", 3)]) rfl nd_l_position (di_walk (de_var (pv 1))) (blkOk_by (own := [(Str.ofString "_law_value", 3)]) (N := N_l_position) (sc := defScope s_l_position) (by decide +kernel)) (by decide) (fun _ _ _ _ _ => (tg_nm (i := 3) nd_l_position rfl (by first | exact Or.inl rfl | exact Or.inr rfl))) (fun _ _ _ _ _ => (ts_one (t_lt (de_var (pv 3)) (de_var (pv 0))))) (fun _ _ _ _ _ => (de_var (pv 3)))) da_nil)))
    (s_cons (s_ret (d_add (d_mul de_int (de_var (pv 2))) (d_len rfl bi.len_ (da_cons (d_lc (own := [(Str.ofString "_law_value", 3)]) rfl nd_l_position (di_walk (de_var (pv 1))) (blkOk_by (own := [(Str.ofString "_law_value", 3)]) (N := N_l_position) (sc := defScope s_l_position) (by decide +kernel)) (by decide) (fun _ _ _ _ _ => (tg_nm (i := 3) nd_l_position rfl (by first | exact Or.inl rfl | exact Or.inr rfl))) (fun _ _ _ _ _ => (ts_one (t_eq hr (de_var (pv 3)) (de_var (pv 0))))) (fun _ _ _ _ _ => (de_var (pv 3)))) da_nil))))
    s_nil))
theorem nd_l_step : N_l_step.Nodup := by decide +kernel
theorem w_l_step {S : Sx} {G : Gp} (bi : Bi S) (kp : Kp S G) (kw : Kw S G) {f : Addr} {cdv : Value} {A : Around} {outer : List Env} {s : Shared} {H : Hp} {E : XK} (hr : Room 1 (A.deeper (envOfC "_law_step" (defScope s_l_step) s.heap.objs.size f cdv))) (D_l_index : Dn S G 1 "_law_index" ["_law_words", "_law_word"] (C_l_index G)) (D_l_position : Dn S G 1 "_law_position" ["_law_number", "_law_held"] (C_l_position G)) :
    DSs G (cxOf CX0 S.P S.w S.K S.mg S.base N_l_step "_law_step" (defScope s_l_step) f cdv A outer s H E).nox (defBody s_l_step) (b_l_step G) :=
  (s_cons (s_set (i := 4) nd_l_step rfl (by first | exact Or.inl rfl | exact Or.inr rfl) (d_call D_l_position (hr.mono (by decide)) rfl (da_cons (d_ix (de_var (pv 3)) de_int) (da_cons (d_ix (de_var (pv 2)) de_int) da_nil))))
    (s_cons (s_set (i := 5) nd_l_step rfl (by first | exact Or.inl rfl | exact Or.inr rfl) (de_tup (da_cons (d_ix (de_var (pv 2)) de_int) (da_cons (d_call D_l_index (hr.mono (by decide)) rfl (da_cons (d_ix (de_var (pv 0)) de_int) (da_cons (d_ix (de_var (pv 3)) de_int) da_nil))) (da_cons (de_var (pv 4)) da_nil)))))
    (s_cons (s_set (i := 6) nd_l_step rfl (by first | exact Or.inl rfl | exact Or.inr rfl) (d_sorted rfl bi.sorted_ (da_cons (d_cat (d_list rfl bi.list_ (da_cons (d_ix (de_var (pv 2)) de_int) da_nil)) (d_sl (de_lst (da_cons (d_ix (de_var (pv 3)) de_int) da_nil)) do_none (do_some (d_sub de_int (d_mod (de_var (pv 4)) de_int))))) da_nil)))
    (s_cons (s_asg (d_dget hr (de_var (pv 1)) (de_var (pv 5))) (g_tg (tg_tp rfl (tg_cons (tg_nm (i := 8) nd_l_step rfl (by first | exact Or.inl rfl | exact Or.inr rfl)) (tg_cons (tg_nm (i := 9) nd_l_step rfl (by first | exact Or.inl rfl | exact Or.inr rfl)) (tg_cons (tg_nm (i := 10) nd_l_step rfl (by first | exact Or.inl rfl | exact Or.inr rfl)) tg_nil))))))
    (s_cons (s_set (i := 7) nd_l_step rfl (by first | exact Or.inl rfl | exact Or.inr rfl) (d_tuple rfl bi.tuple_ (da_cons (d_lc (own := [(Str.ofString "_law_write", 11)]) rfl nd_l_step (di_walk (de_var (pv 10))) (blkOk_by (own := [(Str.ofString "_law_write", 11)]) (N := N_l_step) (sc := defScope s_l_step) (by decide +kernel)) (by decide) (fun _ _ _ _ _ => (tg_nm (i := 11) nd_l_step rfl (by first | exact Or.inl rfl | exact Or.inr rfl))) (fun _ _ _ _ _ => ts_nil) (fun _ _ _ _ _ => (de_tup (da_cons (d_ix (d_ix (d_ix (de_var (pv 0)) de_int) (d_ix (de_var (pv 11)) de_int)) de_int) (da_cons (d_ix (de_var (pv 11)) de_int) (da_cons (d_ix (de_var (pv 6)) (d_ix (de_var (pv 11)) de_int)) da_nil)))))) da_nil)))
    (s_cons (s_ret (de_lst (da_cons (de_tup (da_cons (de_var (pv 8)) (da_cons (d_tuple rfl bi.tuple_ (da_cons (d_lc (own := [(Str.ofString "_law_k", 12)]) rfl nd_l_step (di_walk (de_var (pv 9))) (blkOk_by (own := [(Str.ofString "_law_k", 12)]) (N := N_l_step) (sc := defScope s_l_step) (by decide +kernel)) (by decide) (fun _ _ _ _ _ => (tg_nm (i := 12) nd_l_step rfl (by first | exact Or.inl rfl | exact Or.inr rfl))) (fun _ _ _ _ _ => ts_nil) (fun _ _ _ _ _ => (d_ix (de_var (pv 6)) (de_var (pv 12))))) da_nil)) da_nil))) (da_cons (de_var (pv 7)) (da_cons (de_var (pv 5)) da_nil)))))
    s_nil))))))
theorem nd_l_run : N_l_run.Nodup := by decide +kernel
theorem w_l_run {S : Sx} {G : Gp} (bi : Bi S) (kp : Kp S G) (kw : Kw S G) {f : Addr} {cdv : Value} {A : Around} {outer : List Env} {s : Shared} {H : Hp} {E : XK} (hr : Room 2 (A.deeper (envOfC "_law_run" (defScope s_l_run) s.heap.objs.size f cdv))) (D_l_step : Dn S G 2 "_law_step" ["_law_plan_here", "_law_table_here", "_law_place", "_law_event_here"] (C_l_step G)) (D_l_table : Dn S G 2 "_law_table" ["_law_plan_here"] (C_l_table G)) :
    DSs G (cxOf CX0 S.P S.w S.K S.mg S.base N_l_run "_law_run" (defScope s_l_run) f cdv A outer s H E).nox (defBody s_l_run) (b_l_run G) :=
  (s_cons (s_set (i := 2) nd_l_run rfl (by first | exact Or.inl rfl | exact Or.inr rfl) (d_call D_l_table (hr.mono (by decide)) rfl (da_cons (de_var (pv 0)) da_nil)))
    (s_cons (s_set (i := 3) nd_l_run rfl (by first | exact Or.inl rfl | exact Or.inr rfl) (de_tup (da_cons de_int (da_cons (de_tup da_nil) da_nil))))
    (s_cons (s_set (i := 4) nd_l_run rfl (by first | exact Or.inl rfl | exact Or.inr rfl) (de_own da_nil))
    (s_cons (s_set (i := 5) nd_l_run rfl (by first | exact Or.inl rfl | exact Or.inr rfl) (de_own da_nil))
    (s_cons (s_for PassesOwn.never rfl (di_walk (de_var (pv 1))) (tg_nm (i := 6) nd_l_run rfl (by first | exact Or.inl rfl | exact Or.inr rfl)) (s_cons (s_asg (d_call D_l_step (hr.mono (by decide)) rfl (da_cons (de_var (pv 0)) (da_cons (de_var (pv 2)) (da_cons (de_var (pv 3)) (da_cons (de_var (pv 6)) da_nil))))) (g_unL rfl (tg_cons (tg_nm (i := 3) nd_l_run rfl (by first | exact Or.inl rfl | exact Or.inr rfl)) (tg_cons (tg_nm (i := 7) nd_l_run rfl (by first | exact Or.inl rfl | exact Or.inr rfl)) (tg_cons (tg_nm (i := 8) nd_l_run rfl (by first | exact Or.inl rfl | exact Or.inr rfl)) tg_nil)))))
    (s_cons (s_expr (d_app (de_var (pv 4)) (de_var (pv 7))))
    (s_cons (s_expr (d_app (de_var (pv 5)) (de_var (pv 8))))
    s_nil))))
    (s_cons (s_ret (de_lst (da_cons (de_var (pv 3)) (da_cons (de_frz (de_var (pv 4))) (da_cons (de_frz (de_var (pv 5))) da_nil)))))
    s_nil))))))
theorem nd_l_input : N_l_input.Nodup := by decide +kernel
theorem w_l_input {S : Sx} {G : Gp} (bi : Bi S) (kp : Kp S G) (kw : Kw S G) {f : Addr} {cdv : Value} {A : Around} {outer : List Env} {s : Shared} {H : Hp} {E : XK} (hr : Room 2 (A.deeper (envOfC "_law_input" (defScope s_l_input) s.heap.objs.size f cdv))) (D_l_pick : Dn S G 1 "_law_pick" ["_law_source_here", "_law_many"] (C_l_pick G)) (D_l_worded : Dn S G 2 "_law_worded" ["_law_source_here", "_law_words"] (C_l_worded G)) :
    DSs G (cxOf CX0 S.P S.w S.K S.mg S.base N_l_input "_law_input" (defScope s_l_input) f cdv A outer s H E).nox (defBody s_l_input) (b_l_input G) :=
  (s_cons (s_set (i := 3) nd_l_input rfl (by first | exact Or.inl rfl | exact Or.inr rfl) (de_own da_nil))
    (s_cons (s_set (i := 4) nd_l_input rfl (by first | exact Or.inl rfl | exact Or.inr rfl) (d_eq hr (d_call D_l_pick (hr.mono (by decide)) rfl (da_cons (de_var (pv 0)) (da_cons de_int da_nil))) de_int))
    (s_cons (s_for PassesOwn.never rfl (di_range rfl bi.range_ (de_var (pv 2))) (tg_nm (i := 5) nd_l_input rfl (by first | exact Or.inl rfl | exact Or.inr rfl)) (s_cons (s_set (i := 6) nd_l_input rfl (by first | exact Or.inl rfl | exact Or.inr rfl) (d_sub (d_call D_l_pick (hr.mono (by decide)) rfl (da_cons (de_var (pv 0)) (da_cons de_int da_nil))) de_int))
    (s_cons (s_if (dt_val (de_var (pv 4))) (s_cons (s_set (i := 6) nd_l_input rfl (by first | exact Or.inl rfl | exact Or.inr rfl) (d_add (d_mul (de_var (pv 6)) de_int) de_int))
    s_nil) s_nil)
    (s_cons (s_expr (d_app (de_var (pv 3)) (de_tup (da_cons (d_call D_l_worded (hr.mono (by decide)) rfl (da_cons (de_var (pv 0)) (da_cons (d_ix (de_var (pv 1)) de_int) da_nil))) (da_cons (de_var (pv 6)) da_nil)))))
    s_nil))))
    (s_cons (s_ret (de_frz (de_var (pv 3))))
    s_nil))))
theorem nd_l_model : N_l_model.Nodup := by decide +kernel
theorem w_l_model {S : Sx} {G : Gp} (bi : Bi S) (kp : Kp S G) (kw : Kw S G) {f : Addr} {cdv : Value} {A : Around} {outer : List Env} {s : Shared} {H : Hp} {E : XK} (hr : Room 0 (A.deeper (envOfC "_law_model" (defScope s_l_model) s.heap.objs.size f cdv))) :
    DSs G (cxOf CX0 S.P S.w S.K S.mg S.base N_l_model "_law_model" (defScope s_l_model) f cdv A outer s H E).nox (defBody s_l_model) (b_l_model G) :=
  (s_cons (s_set (i := 1) nd_l_model rfl (by first | exact Or.inl rfl | exact Or.inr rfl) (de_own da_nil))
    (s_cons (s_set (i := 2) nd_l_model rfl (by first | exact Or.inl rfl | exact Or.inr rfl) (de_own da_nil))
    (s_cons (s_set (i := 3) nd_l_model rfl (by first | exact Or.inl rfl | exact Or.inr rfl) (de_own da_nil))
    (s_cons (s_for PassesOwn.never rfl (di_walk (de_var (pv 0))) (tg_nm (i := 4) nd_l_model rfl (by first | exact Or.inl rfl | exact Or.inr rfl)) (s_cons (s_if (t_eq hr (d_ix (de_var (pv 4)) de_int) de_str) (s_cons (s_expr (d_app (de_var (pv 1)) (d_sl (de_var (pv 4)) (do_some de_int) do_none)))
    (s_cons (s_expr (d_app (de_var (pv 2)) de_bl))
    s_nil)) (s_cons (s_if (t_eq hr (d_ix (de_var (pv 4)) de_int) de_str) (s_cons (s_expr (d_app (de_var (pv 3)) (d_sl (de_var (pv 4)) (do_some de_int) do_none)))
    s_nil) (s_cons (s_asg (d_eq hr (d_ix (de_var (pv 4)) de_int) de_str) (g_setIx (de_var (pv 2)) (d_ix (de_var (pv 4)) de_int)))
    s_nil))
    s_nil))
    s_nil))
    (s_cons (s_ret (de_drop (de_lst (da_cons (de_frz (de_var (pv 1))) (da_cons (d_lc (own := [(Str.ofString "_law_k", 5)]) rfl nd_l_model (di_range rfl bi.range_ (d_len rfl bi.len_ (da_cons (de_var (pv 2)) da_nil))) (blkOk_by (own := [(Str.ofString "_law_k", 5)]) (N := N_l_model) (sc := defScope s_l_model) (by decide +kernel)) (by decide) (fun _ _ _ _ _ => (tg_nm (i := 5) nd_l_model rfl (by first | exact Or.inl rfl | exact Or.inr rfl))) (fun _ _ _ _ _ => (ts_one (dt_val (d_ix (de_var (pv 2)) (de_var (pv 5)))))) (fun _ _ _ _ _ => (de_var (pv 5)))) (da_cons (de_frz (de_var (pv 3))) da_nil))))))
    s_nil)))))
theorem nd_l_with : N_l_with.Nodup := by decide +kernel
theorem w_l_with {S : Sx} {G : Gp} (bi : Bi S) (kp : Kp S G) (kw : Kw S G) {f : Addr} {cdv : Value} {A : Around} {outer : List Env} {s : Shared} {H : Hp} {E : XK} (hr : Room 0 (A.deeper (envOfC "_law_with" (defScope s_l_with) s.heap.objs.size f cdv))) :
    DSs G (cxOf CX0 S.P S.w S.K S.mg S.base N_l_with "_law_with" (defScope s_l_with) f cdv A outer s H E).nox (defBody s_l_with) (b_l_with G) :=
  (s_cons (s_set (i := 3) nd_l_with rfl (by first | exact Or.inl rfl | exact Or.inr rfl) (d_list rfl bi.list_ (da_cons (d_ix (de_var (pv 0)) de_int) da_nil)))
    (s_cons (s_for PassesOwn.never rfl (di_walk (de_var (pv 2))) (tg_nm (i := 4) nd_l_with rfl (by first | exact Or.inl rfl | exact Or.inr rfl)) (s_cons (s_asg (d_ix (de_var (pv 1)) (de_var (pv 4))) (g_tg (tg_tp rfl (tg_cons (tg_nm (i := 5) nd_l_with rfl (by first | exact Or.inl rfl | exact Or.inr rfl)) (tg_cons (tg_nm (i := 6) nd_l_with rfl (by first | exact Or.inl rfl | exact Or.inr rfl)) (tg_cons (tg_nm (i := 7) nd_l_with rfl (by first | exact Or.inl rfl | exact Or.inr rfl)) tg_nil))))))
    (s_cons (s_set (i := 3) nd_l_with rfl (by first | exact Or.inl rfl | exact Or.inr rfl) (d_cat (d_lc (own := [(Str.ofString "_law_pair", 8)]) rfl nd_l_with (di_walk (de_var (pv 3))) (blkOk_by (own := [(Str.ofString "_law_pair", 8)]) (N := N_l_with) (sc := defScope s_l_with) (by decide +kernel)) (by decide) (fun _ _ _ _ _ => (tg_nm (i := 8) nd_l_with rfl (by first | exact Or.inl rfl | exact Or.inr rfl))) (fun _ _ _ _ _ => (ts_one (t_ne hr (d_ix (de_var (pv 8)) de_int) (de_var (pv 6))))) (fun _ _ _ _ _ => (de_var (pv 8)))) (de_lst (da_cons (de_tup (da_cons (de_var (pv 6)) (da_cons (de_var (pv 7)) da_nil))) da_nil))))
    s_nil)))
    (s_cons (s_ret (de_lst (da_cons (d_ix (de_var (pv 0)) de_int) (da_cons (d_ix (de_var (pv 0)) de_int) (da_cons (d_ix (de_var (pv 0)) de_int) (da_cons (de_var (pv 3)) da_nil))))))
    s_nil)))
theorem nd_l_now : N_l_now.Nodup := by decide +kernel
theorem w_l_now {S : Sx} {G : Gp} (bi : Bi S) (kp : Kp S G) (kw : Kw S G) {f : Addr} {cdv : Value} {A : Around} {outer : List Env} {s : Shared} {H : Hp} {E : XK} (hr : Room 1 (A.deeper (envOfC "_law_now" (defScope s_l_now) s.heap.objs.size f cdv))) (D_l_model : Dn S G 1 "_law_model" ["_law_log"] (C_l_model G)) (D_l_with : Dn S G 1 "_law_with" ["_law_plan_here", "_law_edits", "_law_numbers"] (C_l_with G)) :
    DSs G (cxOf CX0 S.P S.w S.K S.mg S.base N_l_now "_law_now" (defScope s_l_now) f cdv A outer s H E).nox (defBody s_l_now) (b_l_now G) :=
  (s_cons (s_asg (d_call D_l_model (hr.mono (by decide)) rfl (da_cons (de_var (pv 1)) da_nil)) (g_unL rfl (tg_cons (tg_nm (i := 2) nd_l_now rfl (by first | exact Or.inl rfl | exact Or.inr rfl)) (tg_cons (tg_nm (i := 3) nd_l_now rfl (by first | exact Or.inl rfl | exact Or.inr rfl)) (tg_cons (tg_nm (i := 4) nd_l_now rfl (by first | exact Or.inl rfl | exact Or.inr rfl)) tg_nil)))))
    (s_cons (s_ret (d_call D_l_with (hr.mono (by decide)) rfl (da_cons (de_var (pv 0)) (da_cons (de_var (pv 2)) (da_cons (de_var (pv 3)) da_nil)))))
    s_nil))
theorem nd_l_event : N_l_event.Nodup := by decide +kernel
theorem w_l_event {S : Sx} {G : Gp} (bi : Bi S) (kp : Kp S G) (kw : Kw S G) {f : Addr} {cdv : Value} {A : Around} {outer : List Env} {s : Shared} {H : Hp} {E : XK} (hr : Room 4 (A.deeper (envOfC "_law_event" (defScope s_l_event) s.heap.objs.size f cdv))) (D_l_cells : Dn S G 1 "_law_cells" ["_law_plan_here"] (C_l_cells G)) (D_l_drawn_row : Dn S G 4 "_law_drawn_row" ["_law_source_here", "_law_plan_here", "_law_cell_here"] (C_l_drawn_row G)) (D_l_input : Dn S G 3 "_law_input" ["_law_source_here", "_law_plan_here", "_law_size"] (C_l_input G)) (D_l_model : Dn S G 1 "_law_model" ["_law_log"] (C_l_model G)) (D_l_now : Dn S G 2 "_law_now" ["_law_plan_here", "_law_log"] (C_l_now G)) (D_l_pick : Dn S G 1 "_law_pick" ["_law_source_here", "_law_many"] (C_l_pick G)) (D_l_run : Dn S G 3 "_law_run" ["_law_plan_here", "_law_events"] (C_l_run G)) (D_l_table : Dn S G 2 "_law_table" ["_law_plan_here"] (C_l_table G)) (D_l_worded : Dn S G 2 "_law_worded" ["_law_source_here", "_law_words"] (C_l_worded G)) :
    DSs G (cxOf CX0 S.P S.w S.K S.mg S.base N_l_event "_law_event" (defScope s_l_event) f cdv A outer s H E).nox (defBody s_l_event) (b_l_event G) :=
  (s_cons (s_asg (d_call D_l_model (hr.mono (by decide)) rfl (da_cons (de_var (pv 2)) da_nil)) (g_unL rfl (tg_cons (tg_nm (i := 7) nd_l_event rfl (by first | exact Or.inl rfl | exact Or.inr rfl)) (tg_cons (tg_nm (i := 8) nd_l_event rfl (by first | exact Or.inl rfl | exact Or.inr rfl)) (tg_cons (tg_nm (i := 9) nd_l_event rfl (by first | exact Or.inl rfl | exact Or.inr rfl)) tg_nil)))))
    (s_cons (s_setLc (i := 3) (own := [(Str.ofString "_law_k", 12)]) rfl nd_l_event rfl rfl (sw_true rfl rfl rfl (by decide +kernel)) (di_range rfl bi.range_ (d_len rfl bi.len_ (da_cons (de_var (pv 7)) da_nil))) (blkOk_by (own := [(Str.ofString "_law_k", 12)]) (N := N_l_event) (sc := defScope s_l_event) (by decide +kernel)) (by decide) (fun _ _ _ _ _ => (tg_nm (i := 12) nd_l_event rfl (by first | exact Or.inl rfl | exact Or.inr rfl))) (fun _ _ _ _ _ => (ts_one (t_notIn hr (de_var (pv 12)) (de_var (pv 8))))) (fun _ _ _ _ _ => (de_var (pv 12))))
    (s_cons (s_set (i := 4) nd_l_event rfl (by first | exact Or.inl rfl | exact Or.inr rfl) (d_call D_l_pick (hr.mono (by decide)) rfl (da_cons (de_var (pv 0)) (da_cons de_int da_nil))))
    (s_cons (s_if (PW.pt (dt_and (t_eq hr (de_var (pv 4)) de_int) (dt_and1 (t_ne hr (de_var (pv 8)) (de_lst da_nil))))) (s_cons (s_ret (de_tup (da_cons de_str (da_cons (d_call D_l_worded (hr.mono (by decide)) rfl (da_cons (de_var (pv 0)) (da_cons (de_var (pv 8)) da_nil))) da_nil))))
    s_nil) s_nil)
    (s_cons (s_if (PW.pt (dt_and (t_eq hr (de_var (pv 4)) de_int) (dt_and1 (t_ne hr (de_var (pv 3)) (de_lst da_nil))))) (s_cons (s_ret (de_tup (da_cons de_str (da_cons (d_call D_l_worded (hr.mono (by decide)) rfl (da_cons (de_var (pv 0)) (da_cons (de_var (pv 3)) da_nil))) da_nil))))
    s_nil) s_nil)
    (s_cons (s_if (t_lt (de_var (pv 4)) de_int) (s_cons (s_set (i := 10) nd_l_event rfl (by first | exact Or.inl rfl | exact Or.inr rfl) (d_call D_l_input (hr.mono (by decide)) rfl (da_cons (de_var (pv 0)) (da_cons (de_var (pv 1)) (da_cons (d_add de_int (d_call D_l_pick (hr.mono (by decide)) rfl (da_cons (de_var (pv 0)) (da_cons de_int da_nil)))) da_nil)))))
    (s_cons (s_set (i := 11) nd_l_event rfl (by first | exact Or.inl rfl | exact Or.inr rfl) (d_ix (d_call D_l_run (hr.mono (by decide)) rfl (da_cons (d_call D_l_worded (hr.mono (by decide)) rfl (da_cons (de_var (pv 0)) (da_cons (de_lst (da_cons (de_var (pv 1)) (da_cons (d_call D_l_now (hr.mono (by decide)) rfl (da_cons (de_var (pv 1)) (da_cons (de_var (pv 2)) da_nil))) da_nil))) da_nil))) (da_cons (de_var (pv 10)) da_nil))) de_int))
    (s_cons (s_ret (de_tup (da_cons de_str (da_cons (de_var (pv 10)) (da_cons (de_var (pv 11)) da_nil)))))
    s_nil))) s_nil)
    (s_cons (s_set (i := 5) nd_l_event rfl (by first | exact Or.inl rfl | exact Or.inr rfl) (d_call D_l_worded (hr.mono (by decide)) rfl (da_cons (de_var (pv 0)) (da_cons (d_call D_l_cells (hr.mono (by decide)) rfl (da_cons (de_var (pv 1)) da_nil)) da_nil))))
    (s_cons (s_if (PW.pt (dt_and (t_ne hr (de_var (pv 7)) (de_lst da_nil)) (dt_and1 (t_eq hr (d_call D_l_pick (hr.mono (by decide)) rfl (da_cons (de_var (pv 0)) (da_cons de_int da_nil))) de_int)))) (s_cons (s_set (i := 5) nd_l_event rfl (by first | exact Or.inl rfl | exact Or.inr rfl) (d_ix (d_call D_l_worded (hr.mono (by decide)) rfl (da_cons (de_var (pv 0)) (da_cons (de_var (pv 7)) da_nil))) de_int))
    s_nil) s_nil)
    (s_cons (s_set (i := 6) nd_l_event rfl (by first | exact Or.inl rfl | exact Or.inr rfl) (d_call D_l_drawn_row (hr.mono (by decide)) rfl (da_cons (de_var (pv 0)) (da_cons (de_var (pv 1)) (da_cons (de_var (pv 5)) da_nil)))))
    (s_cons (s_if (t_eq hr (d_call D_l_pick (hr.mono (by decide)) rfl (da_cons (de_var (pv 0)) (da_cons de_int da_nil))) de_int) (s_cons (s_set (i := 6) nd_l_event rfl (by first | exact Or.inl rfl | exact Or.inr rfl) (d_dget hr (d_call D_l_table (hr.mono (by decide)) rfl (da_cons (de_var (pv 1)) da_nil)) (de_var (pv 5))))
    s_nil) s_nil)
    (s_cons (s_ret (de_tup (da_cons de_str (da_cons (d_call D_l_pick (hr.mono (by decide)) rfl (da_cons (de_var (pv 0)) (da_cons de_int da_nil))) (da_cons (de_var (pv 5)) (da_cons (de_var (pv 6)) da_nil))))))
    s_nil)))))))))))
theorem nd_l_take : N_l_take.Nodup := by decide +kernel
theorem w_l_take {S : Sx} {G : Gp} (bi : Bi S) (kp : Kp S G) (kw : Kw S G) {f : Addr} {cdv : Value} {A : Around} {outer : List Env} {s : Shared} {H : Hp} {E : XK} (hr : Room 9 (A.deeper (envOfC "_law_take" (defScope s_l_take) s.heap.objs.size f cdv))) (D_Workshop_edit : Dm S G G.CW 8 "edit" ["self", "hand", "cell", "row"] (C_Workshop_edit G)) (D_Workshop_redo : Dm S G G.CW 3 "redo" ["self", "number"] (C_Workshop_redo G)) (D_Workshop_test : Dm S G G.CW 9 "test" ["self", "events", "outputs"] (C_Workshop_test G)) (D_Workshop_undo : Dm S G G.CW 3 "undo" ["self", "number"] (C_Workshop_undo G)) :
    DSs G (cxOf CX0 S.P S.w S.K S.mg S.base N_l_take "_law_take" (defScope s_l_take) f cdv A outer s H E).nox (defBody s_l_take) (b_l_take G) :=
  (s_cons (s_if (t_eq hr (d_ix (de_var (pv 1)) de_int) de_str) (s_cons (s_ret (d_meth kw.cW D_Workshop_edit (hr.mono (by decide)) (de_var (pv 0)) (da_cons (d_ix (de_var (pv 1)) de_int) (da_cons (d_ix (de_var (pv 1)) de_int) (da_cons (d_ix (de_var (pv 1)) de_int) da_nil)))))
    s_nil) s_nil)
    (s_cons (s_if (t_eq hr (d_ix (de_var (pv 1)) de_int) de_str) (s_cons (s_ret (d_meth kw.cW D_Workshop_test (hr.mono (by decide)) (de_var (pv 0)) (da_cons (d_ix (de_var (pv 1)) de_int) (da_cons (d_ix (de_var (pv 1)) de_int) da_nil))))
    s_nil) s_nil)
    (s_cons (s_if (t_eq hr (d_ix (de_var (pv 1)) de_int) de_str) (s_cons (s_ret (d_meth kw.cW D_Workshop_undo (hr.mono (by decide)) (de_var (pv 0)) (da_cons (d_ix (de_var (pv 1)) de_int) da_nil)))
    s_nil) s_nil)
    (s_cons (s_ret (d_meth kw.cW D_Workshop_redo (hr.mono (by decide)) (de_var (pv 0)) (da_cons (d_ix (de_var (pv 1)) de_int) da_nil)))
    s_nil))))
theorem nd_l_busy : N_l_busy.Nodup := by decide +kernel
theorem w_l_busy {S : Sx} {G : Gp} (bi : Bi S) (kp : Kp S G) (kw : Kw S G) {f : Addr} {cdv : Value} {A : Around} {outer : List Env} {s : Shared} {H : Hp} {E : XK} (hr : Room 10 (A.deeper (envOfC "_law_busy" (defScope s_l_busy) s.heap.objs.size f cdv))) (D_l_event : Dn S G 5 "_law_event" ["_law_source_here", "_law_plan_here", "_law_log"] (C_l_event G)) (D_l_take : Dn S G 10 "_law_take" ["_law_shop_here", "_law_event_here"] (C_l_take G)) :
    DSs G (cxOf CX0 S.P S.w S.K S.mg S.base N_l_busy "_law_busy" (defScope s_l_busy) f cdv A outer s H E).nox (defBody s_l_busy) (b_l_busy G) :=
  (s_cons (s_for PassesOwn.never rfl (di_range rfl bi.range_ (de_var (pv 4))) (tg_nm (i := 5) nd_l_busy rfl (by first | exact Or.inl rfl | exact Or.inr rfl)) (s_cons (s_set (i := 6) nd_l_busy rfl (by first | exact Or.inl rfl | exact Or.inr rfl) (d_call D_l_event (hr.mono (by decide)) rfl (da_cons (de_var (pv 0)) (da_cons (de_var (pv 1)) (da_cons (de_var (pv 3)) da_nil)))))
    (s_cons (s_expr (d_call D_l_take (hr.mono (by decide)) rfl (da_cons (de_var (pv 2)) (da_cons (de_var (pv 6)) da_nil))))
    (s_cons (s_expr (d_app (de_var (pv 3)) (de_var (pv 6))))
    s_nil))))
    s_nil)
theorem nd_l_shop : N_l_shop.Nodup := by decide +kernel
theorem w_l_shop {S : Sx} {G : Gp} (bi : Bi S) (kp : Kp S G) (kw : Kw S G) {f : Addr} {cdv : Value} {A : Around} {outer : List Env} {s : Shared} {H : Hp} {E : XK} (hr : Room 11 (A.deeper (envOfC "_law_shop" (defScope s_l_shop) s.heap.objs.size f cdv))) (D_Workshop_init : Dk S G G.CW 1 "Workshop" ["self", "base"] (C_Workshop_init G)) (D_l_busy : Dn S G 11 "_law_busy" ["_law_source_here", "_law_plan_here", "_law_shop_here", "_law_log", "_law_count"] (C_l_busy G)) (D_l_program : Dn S G 10 "_law_program" ["_law_plan_here"] (C_l_program G)) :
    DSs G (cxOf CX0 S.P S.w S.K S.mg S.base N_l_shop "_law_shop" (defScope s_l_shop) f cdv A outer s H E).nox (defBody s_l_shop) (b_l_shop G) :=
  (s_cons (s_set (i := 3) nd_l_shop rfl (by first | exact Or.inl rfl | exact Or.inr rfl) (d_make D_Workshop_init (hr.mono (by decide)) rfl (da_cons (d_call D_l_program (hr.mono (by decide)) rfl (da_cons (de_var (pv 1)) da_nil)) da_nil)))
    (s_cons (s_set (i := 4) nd_l_shop rfl (by first | exact Or.inl rfl | exact Or.inr rfl) (de_own da_nil))
    (s_cons (s_expr (d_call D_l_busy (hr.mono (by decide)) rfl (da_cons (de_var (pv 0)) (da_cons (de_var (pv 1)) (da_cons (de_var (pv 3)) (da_cons (de_var (pv 4)) (da_cons (de_var (pv 2)) da_nil)))))))
    (s_cons (s_ret (de_two (da_cons (de_var (pv 3)) (da_cons (de_var (pv 4)) da_nil))))
    s_nil))))
theorem nd_l_other_row : N_l_other_row.Nodup := by decide +kernel
theorem w_l_other_row {S : Sx} {G : Gp} (bi : Bi S) (kp : Kp S G) (kw : Kw S G) {f : Addr} {cdv : Value} {A : Around} {outer : List Env} {s : Shared} {H : Hp} {E : XK} (hr : Room 0 (A.deeper (envOfC "_law_other_row" (defScope s_l_other_row) s.heap.objs.size f cdv))) :
    DSs G (cxOf CX0 S.P S.w S.K S.mg S.base N_l_other_row "_law_other_row" (defScope s_l_other_row) f cdv A outer s H E).nox (defBody s_l_other_row) (b_l_other_row G) :=
  (s_cons (s_asg (de_var (pv 1)) (g_tg (tg_tp rfl (tg_cons (tg_nm (i := 2) nd_l_other_row rfl (by first | exact Or.inl rfl | exact Or.inr rfl)) (tg_cons (tg_nm (i := 3) nd_l_other_row rfl (by first | exact Or.inl rfl | exact Or.inr rfl)) (tg_cons (tg_nm (i := 4) nd_l_other_row rfl (by first | exact Or.inl rfl | exact Or.inr rfl)) tg_nil))))))
    (s_cons (s_if (t_gt (d_len rfl bi.len_ (da_cons (de_var (pv 4)) da_nil)) de_int) (s_cons (s_ret (de_tup (da_cons (de_var (pv 2)) (da_cons (de_var (pv 3)) (da_cons (d_sl (de_var (pv 4)) do_none (do_some (d_neg de_int))) da_nil)))))
    s_nil) s_nil)
    (s_cons (s_ret (de_tup (da_cons (de_var (pv 2)) (da_cons (de_var (pv 3)) (da_cons (de_tup (da_cons (de_tup (da_cons de_int (da_cons (d_ix (d_ix (d_ix (d_ix (de_var (pv 0)) de_int) de_int) de_int) de_int) (da_cons de_int da_nil)))) da_nil)) da_nil)))))
    s_nil)))
theorem nd_l_changed : N_l_changed.Nodup := by decide +kernel
theorem w_l_changed {S : Sx} {G : Gp} (bi : Bi S) (kp : Kp S G) (kw : Kw S G) {f : Addr} {cdv : Value} {A : Around} {outer : List Env} {s : Shared} {H : Hp} {E : XK} (hr : Room 2 (A.deeper (envOfC "_law_changed" (defScope s_l_changed) s.heap.objs.size f cdv))) (D_cells : Dn S G 2 "cells" ["program"] (C_cells G)) (D_row_at : Dn S G 1 "row_at" ["program", "cell"] (C_row_at G)) :
    DSs G (cxOf CX0 S.P S.w S.K S.mg S.base N_l_changed "_law_changed" (defScope s_l_changed) f cdv A outer s H E).nox (defBody s_l_changed) (b_l_changed G) :=
  (s_cons (s_ret (d_lc (own := [(Str.ofString "_law_cell_here", 2)]) rfl nd_l_changed (di_walk (d_call D_cells (hr.mono (by decide)) rfl (da_cons (de_var (pv 0)) da_nil))) (blkOk_by (own := [(Str.ofString "_law_cell_here", 2)]) (N := N_l_changed) (sc := defScope s_l_changed) (by decide +kernel)) (by decide) (fun _ _ _ _ _ => (tg_nm (i := 2) nd_l_changed rfl (by first | exact Or.inl rfl | exact Or.inr rfl))) (fun _ _ _ _ _ => (ts_one (t_ne hr (d_call D_row_at (hr.mono (by decide)) rfl (da_cons (de_var (pv 0)) (da_cons (de_var (pv 2)) da_nil))) (d_call D_row_at (hr.mono (by decide)) rfl (da_cons (de_var (pv 1)) (da_cons (de_var (pv 2)) da_nil)))))) (fun _ _ _ _ _ => (de_var (pv 2)))))
    s_nil)
theorem nd_law : N_law.Nodup := by decide +kernel
theorem w_law {S : Sx} {G : Gp} (bi : Bi S) (kp : Kp S G) (kw : Kw S G) {f : Addr} {cdv : Value} {A : Around} {outer : List Env} {s : Shared} {H : Hp} {E : XK} (hr : Room 13 (A.deeper (envOfC "law" (defScope s_law) s.heap.objs.size f cdv))) (D_Program_init : Dk S G G.CP 8 "Program" ["self", "names", "ports", "modes", "rows"] (C_Program_init G)) (D_Workshop_program : Dm S G G.CW 12 "program" ["self"] (C_Workshop_program G)) (D_Workshop_stale : Dm S G G.CW 13 "stale" ["self"] (C_Workshop_stale G)) (D_Workshop_tests : Dm S G G.CW 1 "tests" ["self"] (C_Workshop_tests G)) (D_Workshop_verdicts : Dm S G G.CW 13 "verdicts" ["self"] (C_Workshop_verdicts G)) (D_l_busy : Dn S G 11 "_law_busy" ["_law_source_here", "_law_plan_here", "_law_shop_here", "_law_log", "_law_count"] (C_l_busy G)) (D_l_cell : Dn S G 1 "_law_cell" ["_law_script", "_law_k"] (C_l_cell G)) (D_l_changed : Dn S G 3 "_law_changed" ["_law_first", "_law_second"] (C_l_changed G)) (D_l_drawn_row : Dn S G 4 "_law_drawn_row" ["_law_source_here", "_law_plan_here", "_law_cell_here"] (C_l_drawn_row G)) (D_l_other_row : Dn S G 1 "_law_other_row" ["_law_plan_here", "_law_row"] (C_l_other_row G)) (D_l_pick : Dn S G 1 "_law_pick" ["_law_source_here", "_law_many"] (C_l_pick G)) (D_l_plan : Dn S G 5 "_law_plan" ["_law_source_here", "_law_wide"] (C_l_plan G)) (D_l_shop : Dn S G 12 "_law_shop" ["_law_source_here", "_law_plan_here", "_law_count"] (C_l_shop G)) (D_l_source : Dn S G 1 "_law_source" ["_law_cell_here", "_law_k"] (C_l_source G)) (D_cells : Dn S G 2 "cells" ["program"] (C_cells G)) (D_row_at : Dn S G 1 "row_at" ["program", "cell"] (C_row_at G)) (D_run : Dn S G 3 "run" ["program", "events"] (C_run G)) :
    DSs G (cxOf CX0 S.P S.w S.K S.mg S.base N_law "law" (defScope s_law) f cdv A outer s H E).nox (defBody s_law) (b_law G) :=
  (s_cons (s_set (i := 1) nd_law rfl (by first | exact Or.inl rfl | exact Or.inr rfl) (d_call D_l_source (hr.mono (by decide)) rfl (da_cons (d_call D_l_cell (hr.mono (by decide)) rfl (da_cons (de_var (pv 0)) (da_cons de_int da_nil))) (da_cons de_int da_nil))))
    (s_cons (s_set (i := 2) nd_law rfl (by first | exact Or.inl rfl | exact Or.inr rfl) (d_call D_l_plan (hr.mono (by decide)) rfl (da_cons (de_var (pv 1)) (da_cons de_int da_nil))))
    (s_cons (s_asg (d_call D_l_shop (hr.mono (by decide)) rfl (da_cons (de_var (pv 1)) (da_cons (de_var (pv 2)) (da_cons (d_add de_int (d_call D_l_pick (hr.mono (by decide)) rfl (da_cons (de_var (pv 1)) (da_cons de_int da_nil)))) da_nil)))) (g_un2 rfl (tg_cons (tg_nm (i := 9) nd_law rfl (by first | exact Or.inl rfl | exact Or.inr rfl)) (tg_cons (tg_nm (i := 10) nd_law rfl (by first | exact Or.inl rfl | exact Or.inr rfl)) tg_nil))))
    (s_cons (s_expr (d_meth0 kw.cW D_Workshop_verdicts (hr.mono (by decide)) (de_var (pv 9))))
    (s_cons (s_set (i := 3) nd_law rfl (by first | exact Or.inl rfl | exact Or.inr rfl) (d_meth0 kw.cW D_Workshop_program (hr.mono (by decide)) (de_var (pv 9))))
    (s_cons (s_set (i := 4) nd_law rfl (by first | exact Or.inl rfl | exact Or.inr rfl) (d_meth0 kw.cW D_Workshop_tests (hr.mono (by decide)) (de_var (pv 9))))
    (s_cons (s_expr (d_call D_l_busy (hr.mono (by decide)) rfl (da_cons (de_var (pv 1)) (da_cons (de_var (pv 2)) (da_cons (de_var (pv 9)) (da_cons (de_var (pv 10)) (da_cons (d_add de_int (d_call D_l_pick (hr.mono (by decide)) rfl (da_cons (de_var (pv 1)) (da_cons de_int da_nil)))) da_nil)))))))
    (s_cons (s_set (i := 5) nd_law rfl (by first | exact Or.inl rfl | exact Or.inr rfl) (d_meth0 kw.cW D_Workshop_program (hr.mono (by decide)) (de_var (pv 9))))
    (s_cons (s_set (i := 6) nd_law rfl (by first | exact Or.inl rfl | exact Or.inr rfl) (d_call D_l_changed (hr.mono (by decide)) rfl (da_cons (de_var (pv 3)) (da_cons (de_var (pv 5)) da_nil))))
    (s_cons (s_set (i := 7) nd_law rfl (by first | exact Or.inl rfl | exact Or.inr rfl) (d_meth0 kw.cW D_Workshop_stale (hr.mono (by decide)) (de_var (pv 9))))
    (s_cons (s_for PassesOwn.never rfl (di_range rfl bi.range_ (d_len rfl bi.len_ (da_cons (de_var (pv 4)) da_nil))) (tg_nm (i := 8) nd_law rfl (by first | exact Or.inl rfl | exact Or.inr rfl)) (s_cons (s_set (i := 11) nd_law rfl (by first | exact Or.inl rfl | exact Or.inr rfl) (d_ix (d_ix (de_var (pv 4)) (de_var (pv 8))) de_int))
    (s_cons (s_set (i := 12) nd_law rfl (by first | exact Or.inl rfl | exact Or.inr rfl) (d_ix (d_call D_run (hr.mono (by decide)) rfl (da_cons (de_var (pv 3)) (da_cons (de_var (pv 11)) da_nil))) de_int))
    (s_cons (s_if (t_in hr (de_var (pv 8)) (de_var (pv 7))) (s_cons (s_set (i := 13) nd_law rfl (by first | exact Or.inl rfl | exact Or.inr rfl) (de_own da_nil))
    (s_cons (s_for PassesOwn.never rfl (di_walk (d_call D_cells (hr.mono (by decide)) rfl (da_cons (de_var (pv 3)) da_nil))) (tg_nm (i := 14) nd_law rfl (by first | exact Or.inl rfl | exact Or.inr rfl)) (s_cons (s_set (i := 17) nd_law rfl (by first | exact Or.inl rfl | exact Or.inr rfl) (d_call D_row_at (hr.mono (by decide)) rfl (da_cons (de_var (pv 3)) (da_cons (de_var (pv 14)) da_nil))))
    (s_cons (s_if (t_in hr (de_var (pv 14)) (de_var (pv 6))) (s_cons (s_set (i := 17) nd_law rfl (by first | exact Or.inl rfl | exact Or.inr rfl) (d_call D_l_other_row (hr.mono (by decide)) rfl (da_cons (de_var (pv 2)) (da_cons (de_var (pv 17)) da_nil))))
    s_nil) s_nil)
    (s_cons (s_expr (d_app (de_var (pv 13)) (de_tup (da_cons (de_var (pv 14)) (da_cons (de_var (pv 17)) da_nil)))))
    s_nil))))
    (s_cons (s_set (i := 15) nd_law rfl (by first | exact Or.inl rfl | exact Or.inr rfl) (d_makeP D_Program_init (hr.mono (by decide)) rfl (da_cons (d_ix (de_var (pv 2)) de_int) (da_cons (d_ix (de_var (pv 2)) de_int) (da_cons (d_ix (de_var (pv 2)) de_int) (da_cons (de_frz (de_var (pv 13))) da_nil))))))
    (s_cons (s_if (PW.pt (dt_or (t_ne hr (d_call D_l_changed (hr.mono (by decide)) rfl (da_cons (de_var (pv 3)) (da_cons (de_var (pv 15)) da_nil))) (de_var (pv 6))) (dt_or1 (t_eq hr (d_ix (d_call D_run (hr.mono (by decide)) rfl (da_cons (de_var (pv 15)) (da_cons (de_var (pv 11)) da_nil))) de_int) (de_var (pv 12)))))) (s_cons (s_ret de_bl)
    s_nil) s_nil)
    s_nil)))) (s_cons (s_set (i := 16) nd_law rfl (by first | exact Or.inl rfl | exact Or.inr rfl) (d_ix (d_call D_run (hr.mono (by decide)) rfl (da_cons (de_var (pv 3)) (da_cons (de_var (pv 11)) da_nil))) de_int))
    (s_cons (s_set (i := 13) nd_law rfl (by first | exact Or.inl rfl | exact Or.inr rfl) (de_own da_nil))
    (s_cons (s_for PassesOwn.never rfl (di_walk (d_call D_cells (hr.mono (by decide)) rfl (da_cons (de_var (pv 3)) da_nil))) (tg_nm (i := 14) nd_law rfl (by first | exact Or.inl rfl | exact Or.inr rfl)) (s_cons (s_set (i := 17) nd_law rfl (by first | exact Or.inl rfl | exact Or.inr rfl) (d_call D_row_at (hr.mono (by decide)) rfl (da_cons (de_var (pv 5)) (da_cons (de_var (pv 14)) da_nil))))
    (s_cons (s_if (t_notIn hr (de_var (pv 14)) (de_var (pv 16))) (s_cons (s_set (i := 17) nd_law rfl (by first | exact Or.inl rfl | exact Or.inr rfl) (d_call D_l_drawn_row (hr.mono (by decide)) rfl (da_cons (de_var (pv 1)) (da_cons (de_var (pv 2)) (da_cons (de_var (pv 14)) da_nil)))))
    s_nil) s_nil)
    (s_cons (s_expr (d_app (de_var (pv 13)) (de_tup (da_cons (de_var (pv 14)) (da_cons (de_var (pv 17)) da_nil)))))
    s_nil))))
    (s_cons (s_if (PW.pt (dt_or (t_ne hr (d_ix (d_call D_run (hr.mono (by decide)) rfl (da_cons (d_makeP D_Program_init (hr.mono (by decide)) rfl (da_cons (d_ix (de_var (pv 2)) de_int) (da_cons (d_ix (de_var (pv 2)) de_int) (da_cons (d_ix (de_var (pv 2)) de_int) (da_cons (de_frz (de_var (pv 13))) da_nil))))) (da_cons (de_var (pv 11)) da_nil))) de_int) (de_var (pv 12))) (dt_or1 (t_ne hr (d_ix (d_call D_run (hr.mono (by decide)) rfl (da_cons (de_var (pv 5)) (da_cons (de_var (pv 11)) da_nil))) de_int) (de_var (pv 12)))))) (s_cons (s_ret de_bl)
    s_nil) s_nil)
    s_nil)))))
    s_nil))))
    (s_cons (s_ret de_bl)
    s_nil))))))))))))
end Mn
/-! Laws of the readings: helpers, and the program's small defs. -/
namespace Mn
open PySem PySem.Spec PyProof.Rows L2
abbrev LawB (C : AC) (t : AS) (N : List Str) : Prop := ∀ ens L post, C ens L post → t { nx := fun _ L' => post (.dat .none) L', rt := post } (ens ++ List.replicate (N.length - ens.length) .no) L
theorem cmulR {i j : Int} (h : -(2 ^ 64) < j ∧ j < 2 ^ 64) : CMul i j := .inr h
theorem cmulL {i j : Int} (h : -(2 ^ 64) < i ∧ i < 2 ^ 64) : CMul i j := .inl h
/-! ### loops, comprehensions -/
theorem for_j {w : AI} {t : Tg} {body : AS} {D : AD} {env : List En} {L : List Cell} (items : List PyData) (kp : List Cell → Prop) (J : Nat → List En → List Cell → Prop) (hw : ∀ P : List PyData → (List Cell → Prop) → List Cell → Prop, P items kp L → w env L P) (h0 : J 0 env L)
    (hs : ∀ i d env L, items[i]? = some d → J i env L → kp L ∧ ∃ env', bindT t d env = some env' ∧ body { D with nx := J (i + 1), ct := J (i + 1), bk := D.nx } env' L)
    (hd : ∀ env L, J items.length env L → kp L ∧ D.nx env L) : aFor w t body D env L := hw _ ⟨J, h0, hs, hd⟩
theorem lc_j {w : AI} {t : Tg} {tt : AT} {te : AE} {vs : List Nat} {env : List En} {L : List Cell} {post : En → List Cell → Prop} (items : List PyData) (kp : List Cell → Prop) (f : PyData → PyData) (p : PyData → Bool) (hw : ∀ P : List PyData → (List Cell → Prop) → List Cell → Prop, P items kp L → w env L P) (hk : kp L) (hl : items.length ≤ 90000)
    (h : ∀ (i : Nat) (d : PyData), items[i]? = some d → ∃ env', bindT t d (wipeE env vs) = some env' ∧ (∀ P : Bool → List Cell → Prop, P (p d) L → tt env' L P) ∧ (p d = true → ∀ P : En → List Cell → Prop, P (.dat (f d)) L → te env' L P))
    (hp : post (.dat (.list ((items.filter p).map f))) L) : aLc w t tt te vs env L post := by
  refine hw _ ⟨fun i acc L' => L' = L ∧ acc = ((items.take i).filter p).map f, ⟨rfl, rfl⟩, ?_, ?_⟩
  · rintro i d acc L' hd ⟨rfl, rfl⟩
    obtain ⟨env', h1, h2, h3⟩ := h i d hd
    have e : items.take (i + 1) = items.take i ++ [d] := by rw [List.take_succ, hd]; rfl
    refine ⟨hk, env', h1, h2 _ ⟨fun hp => h3 hp _ ⟨f d, rfl, ?_, rfl, ?_⟩, fun hp => ⟨rfl, ?_⟩⟩⟩
    · have a := List.length_filter_le p (items.take i)
      have b : (items.take i).length ≤ items.length := by rw [List.length_take]; exact Nat.min_le_right _ _
      rw [List.length_map]
      omega
    · rw [e, List.filter_append, List.filter_cons_of_pos hp, List.filter_nil, List.map_append, List.map_singleton]
    · rw [e, List.filter_append, List.filter_cons_of_neg (by rw [hp]; exact Bool.false_ne_true), List.filter_nil, List.append_nil]
  · rintro acc L' ⟨rfl, rfl⟩
    rw [List.take_length]
    exact ⟨hk, hp⟩
/-- no test -/
theorem lc_m {w : AI} {t : Tg} {te : AE} {vs : List Nat} {env : List En} {L : List Cell} {post : En → List Cell → Prop} (items : List PyData) (kp : List Cell → Prop) (f : PyData → PyData) (hw : ∀ P : List PyData → (List Cell → Prop) → List Cell → Prop, P items kp L → w env L P) (hk : kp L) (hl : items.length ≤ 90000)
    (h : ∀ (i : Nat) (d : PyData), items[i]? = some d → ∃ env', bindT t d (wipeE env vs) = some env' ∧ ∀ P : En → List Cell → Prop, P (.dat (f d)) L → te env' L P)
    (hp : post (.dat (.list (items.map f))) L) : aLc w t aYes te vs env L post :=
  lc_j items kp f (fun _ => true) hw hk hl (fun i d hd => let ⟨env', h1, h2⟩ := h i d hd; ⟨env', h1, fun P q => q, fun _ => h2⟩) (by rw [List.filter_eq_self.mpr fun _ _ => rfl]; exact hp)
/-! ### data -/
theorem atI_nat {α : Type} {xs : List α} {i : Nat} {x : α} (h : xs[i]? = some x) : atI xs (i : Int) = some x := by
  have hl : i < xs.length := (List.getElem?_eq_some_iff.mp h).1
  unfold atI ixN
  rw [if_pos (by omega : (0 : Int) ≤ i), if_pos (by omega : (i : Int) < xs.length)]
  exact h
theorem get_map {α β : Type} {f : α → β} {xs : List α} {i : Nat} {x : α} (h : xs[i]? = some x) : (xs.map f)[i]? = some (f x) := by rw [List.getElem?_map, h]; rfl
theorem rgD_nat (k : Nat) : rgD (k : Int) = (List.range k).map eN := rfl
theorem get_rg {k i : Nat} {d : PyData} (h : ((List.range k).map eN)[i]? = some d) : i < k ∧ d = eN i := by
  rw [List.getElem?_map] at h
  by_cases hi : i < k
  · rw [List.getElem?_range hi] at h
    cases h
    exact ⟨hi, rfl⟩
  · rw [List.getElem?_eq_none (by simpa using hi)] at h
    cases h
theorem Fr.held_of {F : Fr} {m : Nat} {x : Str × Nat} (h : F.modes[m]? = some x) : F.held m = x.2 := by unfold Fr.held; rw [h]; rfl
theorem FrOk.held_le {F : Fr} (ok : FrOk F) (m : Nat) : F.held m ≤ 4 := by
  unfold Fr.held
  cases h : F.modes[m]? with
  | none => exact Nat.zero_le _
  | some x => exact (ok.mw x (List.mem_of_getElem? h)).2
theorem mode_at {F : Fr} {m : Nat} (h : m < F.modes.length) : ∃ s, F.modes[m]? = some (s, F.held m) := by
  have e : F.modes[m]? = some F.modes[m] := by simp [h]
  exact ⟨F.modes[m].1, by rw [Fr.held_of e, e]⟩
/-! ### cells -/
def cellsM (F : Fr) (n m : Nat) : List Cel := (List.range n).flatMap fun x => (List.range (2 * F.held m + 1)).map fun p => (m, x, p)
def cellsU (F : Fr) (i : Nat) : List Cel := (List.range i).flatMap fun m => cellsM F F.names.length m
theorem cellsF_eq (F : Fr) : cellsF F = cellsU F F.modes.length := rfl
theorem fm_succ {α : Type} (g : Nat → List α) (n : Nat) : (List.range (n + 1)).flatMap g = (List.range n).flatMap g ++ g n := by
  rw [List.range_succ, List.flatMap_append]
  simp
theorem cellsM_succ (F : Fr) (n m : Nat) : cellsM F (n + 1) m = cellsM F n m ++ (List.range (2 * F.held m + 1)).map fun p => (m, n, p) := fm_succ _ n
theorem cellsU_succ (F : Fr) (i : Nat) : cellsU F (i + 1) = cellsU F i ++ cellsM F F.names.length i := fm_succ _ i
theorem cellsM_len {F : Fr} (ok : FrOk F) (n m : Nat) : (cellsM F n m).length ≤ n * 9 := by
  induction n with
  | zero => simp [cellsM]
  | succ n ih =>
    rw [cellsM_succ, List.length_append, List.length_map, List.length_range]
    have := ok.held_le m
    omega
theorem cellsU_len {F : Fr} (ok : FrOk F) (i : Nat) : (cellsU F i).length ≤ i * 36 := by
  induction i with
  | zero => simp [cellsU]
  | succ n ih =>
    rw [cellsU_succ, List.length_append]
    have := cellsM_len ok F.names.length n
    have := ok.n2
    omega
theorem cells_len {F : Fr} (ok : FrOk F) : (cellsF F).length ≤ 180 := by
  have := cellsU_len ok F.modes.length
  have := ok.m2
  rw [cellsF_eq]
  omega
theorem mem_cells {F : Fr} {c : Cel} : c ∈ cellsF F ↔ CelOk F c := by
  obtain ⟨m, n, p⟩ := c
  simp only [cellsF, List.mem_flatMap, List.mem_range, List.mem_map, Prod.mk.injEq, CelOk]
  constructor
  · rintro ⟨m', h1, n', h2, p', h3, rfl, rfl, rfl⟩
    exact ⟨h1, h2, h3⟩
  · rintro ⟨h1, h2, h3⟩
    exact ⟨m, h1, n, h2, p, h3, rfl, rfl, rfl⟩
variable (G : Gp)
theorem law_cells_of : LawB (C_cells_of G) (b_cells_of G) N_cells_of := by
  rintro ens L post ⟨F, rfl, rfl, ok, hp⟩
  show b_cells_of G _ [.dat (eNames F), .dat (eModes F), .no, .no, .no, .no, .no] _
  simp (config := {maxSteps := 3000000}) only [b_cells_of, aSeq, aNext, aExpr, aRet, aIf, aAsg, aName, aC, aVar, aNil, aCons, aTup, aLst, aOwn, aTwo, aOp, aUn, aNary, aB, aAnd, aOr, aNot, aAndV, aNotV, aI0, aI2, aEqD, aNeD, aIsN, aAddS, aCat, aIx, aSl, aNoO, aSoO, aBetw, aLen, aIntU, aListOf, aTupOf, aFld, aProg, aFrz, aFrzD, aApp, aSetIx, aAug, aTg, aUnL, aUn2, aIsi, aNeg, aRev, aYes, aWalk, aRange, aEnT, aEnO, aFSt, aFAug, aDNew, dats, Option.map_some, List.getElem?_cons_zero, List.getElem?_cons_succ, List.set_cons_zero, List.set_cons_succ]
  refine ⟨[], rfl, by decide, ?_⟩
  refine for_j (enD 0 (F.modes.map eMode)) (fun _ => True) (fun i env L => L = [] ∧ ∃ x3 x4 x5 x6, env = [.dat (eNames F), .dat (eModes F), .dat (.list ((cellsU F i).map eCel)), x3, x4, x5, x6]) (fun P h => ⟨F.modes.map eMode, rfl, h⟩) ⟨rfl, _, _, _, _, rfl⟩ ?_ ?_
  · rintro i d env L hd ⟨rfl, x3, x4, x5, x6, rfl⟩
    refine ⟨trivial, ?_⟩
    obtain ⟨d', h1, rfl⟩ := enD_get hd
    have hi : i < F.modes.length := by
      have h2 := (List.getElem?_eq_some_iff.mp hd).1
      rwa [enD_len, List.length_map] at h2
    obtain ⟨s, hs⟩ := mode_at hi
    rw [get_map hs] at h1
    cases h1
    refine ⟨_, rfl, ?_⟩
    simp only [aSeq, aNext, aExpr, aRet, aIf, aAsg, aName, aC, aVar, aNil, aCons, aTup, aLst, aOwn, aTwo, aOp, aUn, aNary, aB, aAnd, aOr, aNot, aAndV, aNotV, aI0, aI2, aEqD, aNeD, aIsN, aAddS, aCat, aIx, aSl, aNoO, aSoO, aBetw, aLen, aIntU, aListOf, aTupOf, aFld, aProg, aFrz, aFrzD, aApp, aSetIx, aAug, aTg, aUnL, aUn2, aIsi, aNeg, aRev, aYes, aWalk, aRange, aEnT, aEnO, aFSt, aFAug, aDNew, dats, Option.map_some, List.getElem?_cons_zero, List.getElem?_cons_succ, List.set_cons_zero, List.set_cons_succ]
    refine for_j ((List.range F.names.length).map eN) (fun _ => True) (fun j env L => L = [] ∧ ∃ d x5 x6, env = [.dat (eNames F), .dat (eModes F), .dat (.list d), .dat (.int ((0 + i : Nat) : Nat)), .dat (eMode (s, F.held i)), x5, x6] ∧ d = (cellsU F i ++ cellsM F j i).map eCel) (fun P h => ⟨F.names.length, by show En.dat (.int ((F.names.map PyData.str).length : Nat)) = _; rw [List.length_map], by omega, by have := ok.n2; omega, h⟩) ⟨rfl, _, x5, x6, rfl, by simp [cellsM]⟩ ?_ ?_
    · rintro j d env L hd ⟨rfl, d0, x5, x6, rfl, rfl⟩
      obtain ⟨hj, rfl⟩ := get_rg hd
      refine ⟨trivial, _, rfl, ?_⟩
      simp only [aSeq, aNext, aExpr, aRet, aIf, aAsg, aName, aC, aVar, aNil, aCons, aTup, aLst, aOwn, aTwo, aOp, aUn, aNary, aB, aAnd, aOr, aNot, aAndV, aNotV, aI0, aI2, aEqD, aNeD, aIsN, aAddS, aCat, aIx, aSl, aNoO, aSoO, aBetw, aLen, aIntU, aListOf, aTupOf, aFld, aProg, aFrz, aFrzD, aApp, aSetIx, aAug, aTg, aUnL, aUn2, aIsi, aNeg, aRev, aYes, aWalk, aRange, aEnT, aEnO, aFSt, aFAug, aDNew, dats, Option.map_some, List.getElem?_cons_zero, List.getElem?_cons_succ, List.set_cons_zero, List.set_cons_succ]
      refine lc_m ((List.range (2 * F.held i + 1)).map eN) (fun _ => True) (fun d => .tuple [.int i, .int j, d]) (fun P h => ?_) trivial (by have := ok.held_le i; simp; omega) (fun k d hd => ?_) ?_
      · refine ⟨.int (F.held i), rfl, cmulL (by decide), (2 * F.held i + 1 : Nat), ?_, by omega, by have := ok.held_le i; omega, h⟩
        congr 2
      · refine ⟨_, rfl, fun P h => ⟨_, rfl, by show 3 ≤ 100000; decide, ?_⟩⟩
        rw [Nat.zero_add]
        exact h
      · refine ⟨?_, rfl, _, _, _, rfl, ?_⟩
        · have h1 := cellsU_len ok i
          have h2 := cellsM_len ok j i
          have h3 := ok.held_le i
          have h4 := ok.n2
          have h5 := ok.m2
          refine sz_ok ?_
          simp only [List.length_map, List.length_append, List.length_range]
          omega
        · rw [cellsM_succ]
          simp only [List.map_append, List.map_map, List.append_assoc, Nat.zero_add]
          rfl
    · rintro env L ⟨rfl, d0, x5, x6, rfl, rfl⟩
      rw [List.length_map, List.length_range]
      exact ⟨trivial, rfl, _, _, _, _, by rw [cellsU_succ]⟩
  · rintro env L ⟨rfl, x3, x4, x5, x6, rfl⟩
    rw [enD_len, List.length_map]
    exact ⟨trivial, hp⟩
end Mn
namespace Mn
open PySem PySem.Spec PyProof.Rows L2
/-! ### what may be compared -/
def Lq (n : Nat) (d : PyData) : Prop := d.canLay0 = true ∧ d.depth ≤ n
theorem lq_int {n : Nat} {i : Int} : Lq n (.int i) := ⟨by simp [PyData.canLay0], by simp [PyData.depth]⟩
theorem lq_bool {n : Nat} {i : Bool} : Lq n (.bool i) := ⟨by simp [PyData.canLay0], by simp [PyData.depth]⟩
theorem lq_str {n : Nat} {x : Str} (h : PyData.strOk x = true) : Lq n (.str x) := ⟨by simp [PyData.canLay0, h], by simp [PyData.depth]⟩
theorem lq_all {n : Nat} : ∀ {ds : List PyData}, (∀ d ∈ ds, Lq n d) → PyData.canLayAll0 ds = true ∧ PyData.depthAll ds ≤ n
  | [], _ => ⟨by simp [PyData.canLayAll0], by simp [PyData.depthAll]⟩
  | d :: ds, h => by
    obtain ⟨h1, h2⟩ := h d (by simp)
    obtain ⟨h3, h4⟩ := lq_all fun x hx => h x (List.mem_cons_of_mem _ hx)
    exact ⟨by simp [PyData.canLayAll0, h1, h3], by simp only [PyData.depthAll]; omega⟩
theorem lq_tup {n : Nat} {ds : List PyData} (h : ∀ d ∈ ds, Lq n d) : Lq (n + 1) (.tuple ds) := by
  obtain ⟨h1, h2⟩ := lq_all h
  exact ⟨by simp only [PyData.canLay0]; exact h1, by simp only [PyData.depth]; omega⟩
theorem lq_list {n : Nat} {ds : List PyData} (h : ∀ d ∈ ds, Lq n d) : Lq (n + 1) (.list ds) := by
  obtain ⟨h1, h2⟩ := lq_all h
  exact ⟨by simp only [PyData.canLay0]; exact h1, by simp only [PyData.depth]; omega⟩
theorem sh_of {n : Nat} {d : PyData} (h : Lq n d) (hn : n ≤ 64 := by decide) : SeqAt.shaped d = true := by
  show (d.canLay0 && decide (d.depth ≤ 64)) = true
  rw [Bool.and_eq_true]
  exact ⟨h.1, decide_eq_true (Nat.le_trans h.2 hn)⟩
theorem sh_int {i : Int} : SeqAt.shaped (.int i) = true := sh_of (n := 0) lq_int
theorem sh_bool {i : Bool} : SeqAt.shaped (.bool i) = true := sh_of (n := 0) lq_bool
theorem sh_str {x : Str} (h : PyData.strOk x = true) : SeqAt.shaped (.str x) = true := sh_of (n := 0) (lq_str h)
theorem eqv_int {i j : Int} : PyData.eqv (.int i) (.int j) = decide (i = j) := by simp only [PyData.eqv]; rfl
theorem eqv_bool {i j : Bool} : PyData.eqv (.bool i) (.bool j) = decide (i = j) := by simp only [PyData.eqv]; cases i <;> cases j <;> rfl
theorem eqv_str {i j : Str} : PyData.eqv (.str i) (.str j) = decide (i = j) := by
  simp only [PyData.eqv]
  by_cases h : i = j
  · subst h
    simp
  · simp [h]
/-- == of lists is == item by item -/
theorem eqvAll_iff {α : Type} {f : α → PyData} (h : ∀ x y, PyData.eqv (f x) (f y) = true ↔ x = y) : ∀ {xs ys : List α}, PyData.eqvAll (xs.map f) (ys.map f) = true ↔ xs = ys
  | [], [] => by simp [PyData.eqvAll]
  | [], _ :: _ => by simp [PyData.eqvAll]
  | _ :: _, [] => by simp [PyData.eqvAll]
  | x :: xs, y :: ys => by
    simp only [List.map_cons, PyData.eqvAll, Bool.and_eq_true, h, eqvAll_iff h, List.cons.injEq]
theorem eqv_eN {x y : Nat} : PyData.eqv (eN x) (eN y) = true ↔ x = y := by
  unfold eN
  rw [eqv_int, decide_eq_true_eq]
  omega
theorem eqv_cel {c d : Cel} : PyData.eqv (eCel c) (eCel d) = true ↔ c = d := by
  obtain ⟨a, b, e⟩ := c
  obtain ⟨a', b', e'⟩ := d
  simp only [eCel, PyData.eqv, PyData.eqvAll, Bool.and_eq_true, Bool.and_true, Prod.mk.injEq, beq_iff_eq]
  omega
theorem eqv_wr {c d : Wr} : PyData.eqv (eWr c) (eWr d) = true ↔ c = d := by
  obtain ⟨a, b, e⟩ := c
  obtain ⟨a', b', e'⟩ := d
  simp only [eWr, PyData.eqv, PyData.eqvAll, Bool.and_eq_true, Bool.and_true, Prod.mk.injEq, beq_iff_eq, Int.natCast_inj]
theorem eqv_rw {c d : Rw} : PyData.eqv (eRw c) (eRw d) = true ↔ c = d := by
  obtain ⟨a, b, e⟩ := c
  obtain ⟨a', b', e'⟩ := d
  simp only [eRw, PyData.eqv, PyData.eqvAll, Bool.and_eq_true, Bool.and_true, Prod.mk.injEq, beq_iff_eq, eqvAll_iff fun _ _ => eqv_eN, eqvAll_iff fun _ _ => eqv_wr, Int.natCast_inj]
theorem eqv_tr {c d : Tr} : PyData.eqv (eTr c) (eTr d) = true ↔ c = d := by
  obtain ⟨a, b, e⟩ := c
  obtain ⟨a', b', e'⟩ := d
  simp only [eTr, PyData.eqv, PyData.eqvAll, Bool.and_eq_true, Bool.and_true, Prod.mk.injEq, beq_iff_eq]
theorem eqv_out {c d : Out} : PyData.eqv (eOut c) (eOut d) = true ↔ c = d := by
  simp only [eOut, PyData.eqv]
  exact eqvAll_iff fun _ _ => eqv_tr
theorem dec_of {b : Bool} {p : Prop} [Decidable p] (h : b = true ↔ p) : b = decide p := by
  by_cases hp : p
  · rw [decide_eq_true hp]
    exact h.mpr hp
  · rw [decide_eq_false hp]
    cases b with
    | false => rfl
    | true => exact absurd (h.mp rfl) hp
theorem lq_cel {c : Cel} : Lq 1 (eCel c) := lq_tup fun d hd => by
  simp only [List.mem_cons, List.not_mem_nil, or_false] at hd
  rcases hd with rfl | rfl | rfl <;> exact lq_int
theorem lq_ints {xs : List Int} : Lq 1 (.tuple (xs.map .int)) := lq_tup fun d hd => by
  obtain ⟨x, _, rfl⟩ := List.mem_map.mp hd
  exact lq_int
theorem lq_wr {w : Wr} (h : PyData.strOk w.2.1 = true) : Lq 1 (eWr w) := lq_tup fun d hd => by
  simp only [List.mem_cons, List.not_mem_nil, or_false] at hd
  rcases hd with rfl | rfl | rfl
  · exact lq_int
  · exact lq_str h
  · exact lq_int
theorem lq_mono {m n : Nat} {d : PyData} (h : Lq m d) (hn : m ≤ n) : Lq n d := ⟨h.1, Nat.le_trans h.2 hn⟩
theorem FrOk.label {F : Fr} (ok : FrOk F) {k : Nat} {w : Wr} (h : WrOk F k w) : Wd w.2.1 := by
  obtain ⟨⟨p, h1, h2⟩, _⟩ := h
  exact (ok.pw p (List.mem_of_getElem? h1)).2.2.2 _ h2
theorem lq_rw {F : Fr} (ok : FrOk F) {c : Cel} {r : Rw} (h : RwOk F c r) : Lq 3 (eRw r) := lq_tup fun d hd => by
  simp only [List.mem_cons, List.not_mem_nil, or_false] at hd
  rcases hd with rfl | rfl | rfl
  · exact lq_int
  · exact lq_mono (m := 1) (lq_tup fun d hd => by
      obtain ⟨x, _, rfl⟩ := List.mem_map.mp hd
      exact lq_int) (by decide)
  · exact lq_tup fun d hd => by
      obtain ⟨x, hx, rfl⟩ := List.mem_map.mp hd
      exact lq_wr (ok.label (h.wr x hx)).1
theorem lq_tr {F : Fr} (ok : FrOk F) {t : Tr} (h : TrOk F t) : Lq 1 (eTr t) := lq_tup fun d hd => by
  obtain ⟨⟨p, h1, h2, h3⟩, _⟩ := h
  simp only [List.mem_cons, List.not_mem_nil, or_false] at hd
  rcases hd with rfl | rfl | rfl
  · rw [← h2]
    exact lq_str (ok.pw p h1).1.1
  · exact lq_str ((ok.pw p h1).2.2.2 _ h3).1
  · exact lq_int
theorem lq_out {F : Fr} (ok : FrOk F) {o : Out} (h : OutOk F o) : Lq 2 (eOut o) := lq_tup fun d hd => by
  obtain ⟨x, hx, rfl⟩ := List.mem_map.mp hd
  exact lq_tr ok (h.2 x hx)
end Mn
namespace Mn
open PySem PySem.Spec PyProof.Rows L2
variable (G : Gp)
theorem isNam_ints {xs : List Nat} : isNam (xs.map eN) = false := by cases xs <;> rfl
theorem law_idle : LawB (C_idle G) (b_idle G) N_idle := by
  rintro ens L post ⟨F, c, rfl, rfl, ok, hc, hp⟩
  obtain ⟨m, n, p⟩ := c
  obtain ⟨s, hs⟩ := mode_at hc.1
  have hh := ok.held_le m
  show b_idle G _ [.dat (.tuple (F.modes.map eMode)), .dat (.tuple [.int m, .int n, .int p]), .no, .no, .no, .no, .no] _
  simp (config := {maxSteps := 3000000}) only [b_idle, aSeq, aNext, aExpr, aRet, aIf, aAsg, aName, aC, aVar, aNil, aCons, aTup, aLst, aOwn, aTwo, aOp, aUn, aNary, aB, aAnd, aOr, aNot, aAndV, aNotV, aI0, aI2, aEqD, aNeD, aIsN, aAddS, aCat, aIx, aSl, aNoO, aSoO, aBetw, aLen, aIntU, aListOf, aTupOf, aFld, aProg, aFrz, aFrzD, aApp, aSetIx, aAug, aTg, aUnL, aUn2, aIsi, aNeg, aRev, aYes, aWalk, aRange, aEnT, aEnO, aFSt, aFAug, aDNew, dats, Option.map_some, List.getElem?_cons_zero, List.getElem?_cons_succ, List.set_cons_zero, List.set_cons_succ, oMod, oAdd, oFdiv]
  refine ⟨_, _, rfl, rfl, ?_⟩
  refine ⟨_, atI_nat (get_map hs), ?_⟩
  refine ⟨.int (F.held m), rfl, ?_⟩
  refine ⟨by decide, sh_int, sh_int, ?_⟩
  rw [eqv_int]
  have hpp : ((p : Int) % 2 = 1) ↔ p % 2 = 1 := by omega
  refine ⟨fun h => ?_, fun h => ?_⟩
  · rw [decide_eq_true_eq, hpp] at h
    simp only [aTupRg, aSeq, aNext, aExpr, aRet, aIf, aAsg, aName, aC, aVar, aNil, aCons, aTup, aLst, aOwn, aTwo, aOp, aUn, aNary, aB, aAnd, aOr, aNot, aAndV, aNotV, aI0, aI2, aEqD, aNeD, aIsN, aAddS, aCat, aIx, aSl, aNoO, aSoO, aBetw, aLen, aIntU, aListOf, aTupOf, aFld, aProg, aFrz, aFrzD, aApp, aSetIx, aAug, aTg, aUnL, aUn2, aIsi, aNeg, aRev, aYes, aWalk, aRange, aEnT, aEnO, aFSt, aFAug, aDNew, dats, Option.map_some, List.getElem?_cons_zero, List.getElem?_cons_succ, List.set_cons_zero, List.set_cons_succ]
    refine ⟨F.held m, rfl, by omega, by omega, ?_⟩
    refine ⟨_, rfl, by decide, _, rfl, by show 3 ≤ 100000; decide, ?_⟩
    have e : eRw (idleR F (m, n, p)) = .tuple [.int m, .tuple ((List.range (F.held m : Int).toNat).map fun (i : Nat) => PyData.int i), .tuple []] := by
      unfold idleR
      rw [if_pos h]
      rfl
    rw [← e]
    exact hp
  · rw [decide_eq_false_iff_not, hpp] at h
    refine lc_j ((List.range (F.held m + 1)).map eN) (fun _ => True) (fun d => d) (fun d => !PyData.eqv d (.int ((p : Int) / 2))) (fun P h => ⟨(F.held m + 1 : Nat), by congr 2, by omega, by omega, h⟩) trivial (by simp; omega) (fun i d hd => ?_) ?_
    · obtain ⟨hi, rfl⟩ := get_rg hd
      refine ⟨_, rfl, fun P h => ?_, fun _ P h => h⟩
      exact ⟨⟨by decide, by decide⟩, sh_int, sh_int, h⟩
    · refine ⟨_, rfl, by decide, _, rfl, by show 3 ≤ 100000; decide, ?_⟩
      have e : eRw (idleR F (m, n, p)) = .tuple [.int m, .tuple ((((List.range (F.held m + 1)).map eN).filter fun d => !PyData.eqv d (.int ((p : Int) / 2))).map fun d => d), .tuple []] := by
        unfold idleR
        rw [if_neg h]
        show PyData.tuple [_, .tuple (((List.range (F.held m + 1)).filter fun k => decide (k ≠ p / 2)).map eN), .tuple []] = _
        congr 3
        rw [List.map_id', List.filter_map]
        congr 2
        apply List.filter_congr
        intro k _
        show decide (k ≠ p / 2) = !PyData.eqv (eN k) (.int ((p : Int) / 2))
        unfold eN
        rw [eqv_int, ← decide_not]
        congr 1
        apply propext
        omega
      rw [← e]
      exact hp
theorem law_cells : LawB (C_cells G) (b_cells G) N_cells := by
  rintro ens L post ⟨F, rf, rfl, rfl, ok, hp⟩
  show b_cells G _ [eProg F rf] _
  simp (config := {maxSteps := 3000000}) only [b_cells, aSeq, aNext, aExpr, aRet, aIf, aAsg, aName, aC, aVar, aNil, aCons, aTup, aLst, aOwn, aTwo, aOp, aUn, aNary, aB, aAnd, aOr, aNot, aAndV, aNotV, aI0, aI2, aEqD, aNeD, aIsN, aAddS, aCat, aIx, aSl, aNoO, aSoO, aBetw, aLen, aIntU, aListOf, aTupOf, aFld, aProg, aFrz, aFrzD, aApp, aSetIx, aAug, aTg, aUnL, aUn2, aIsi, aNeg, aRev, aYes, aWalk, aRange, aEnT, aEnO, aFSt, aFAug, aDNew, dats, Option.map_some, List.getElem?_cons_zero, List.getElem?_cons_succ, List.set_cons_zero, List.set_cons_succ, aCall, eProg]
  exact ⟨[], _, .refl _, F, rfl, rfl, ok, _, .refl _, hp⟩
theorem law_is_index : LawB (C_is_index G) (b_is_index G) N_is_index := by
  rintro ens L post ⟨i, n, rfl, rfl, h0, h1, hp⟩
  show b_is_index G _ [.dat (.int i), .dat (.int n)] _
  simp (config := {maxSteps := 3000000}) only [b_is_index, aSeq, aNext, aExpr, aRet, aIf, aAsg, aName, aC, aVar, aNil, aCons, aTup, aLst, aOwn, aTwo, aOp, aUn, aNary, aB, aAnd, aOr, aNot, aAndV, aNotV, aI0, aI2, aEqD, aNeD, aIsN, aAddS, aCat, aIx, aSl, aNoO, aSoO, aBetw, aLen, aIntU, aListOf, aTupOf, aFld, aProg, aFrz, aFrzD, aApp, aSetIx, aAug, aTg, aUnL, aUn2, aIsi, aNeg, aRev, aYes, aWalk, aRange, aEnT, aEnO, aFSt, aFAug, aDNew, dats, Option.map_some, List.getElem?_cons_zero, List.getElem?_cons_succ, List.set_cons_zero, List.set_cons_succ]
  refine ⟨fun h => Bool.noConfusion (show false = true from h), fun _ => ⟨fun h => Bool.noConfusion (show false = true from h), fun _ => ⟨fun _ => ?_, fun h => absurd h0 h⟩⟩⟩
  rw [decide_eq_true h1]
  exact hp
theorem law_is_integer : LawB (C_is_integer G) (b_is_integer G) N_is_integer := by
  rintro ens L post ⟨i, rfl, rfl, h0, h1, hp⟩
  show b_is_integer G _ [.dat (.int i)] _
  simp (config := {maxSteps := 3000000}) only [b_is_integer, aSeq, aNext, aExpr, aRet, aIf, aAsg, aName, aC, aVar, aNil, aCons, aTup, aLst, aOwn, aTwo, aOp, aUn, aNary, aB, aAnd, aOr, aNot, aAndV, aNotV, aI0, aI2, aEqD, aNeD, aIsN, aAddS, aCat, aIx, aSl, aNoO, aSoO, aBetw, aLen, aIntU, aListOf, aTupOf, aFld, aProg, aFrz, aFrzD, aApp, aSetIx, aAug, aTg, aUnL, aUn2, aIsi, aNeg, aRev, aYes, aWalk, aRange, aEnT, aEnO, aFSt, aFAug, aDNew, dats, Option.map_some, List.getElem?_cons_zero, List.getElem?_cons_succ, List.set_cons_zero, List.set_cons_succ, oLt]
  refine ⟨fun _ => ⟨fun _ => ?_, fun h => Bool.noConfusion (show true = false from h)⟩, fun h => Bool.noConfusion (show true = false from h)⟩
  have e : decide ((if i < 0 then -i else i) < 10 ^ 30) = true := by
    apply decide_eq_true
    unfold big at h0 h1
    split <;> omega
  rw [e]
  exact hp
theorem posA_cons {n v : Int} {r : List Int} {a : Nat} : posA n (v :: r) a = if n = v then a + 1 else if v < n then posA n r (a + 2) else posA n r a := rfl
theorem law_position_of : LawB (C_position_of G) (b_position_of G) N_position_of := by
  rintro ens L post ⟨n, held, rfl, rfl, hl, hp⟩
  show b_position_of G _ [.dat (.int n), .dat (.tuple (held.map .int)), .no, .no] _
  simp (config := {maxSteps := 3000000}) only [b_position_of, aSeq, aNext, aExpr, aRet, aIf, aAsg, aName, aC, aVar, aNil, aCons, aTup, aLst, aOwn, aTwo, aOp, aUn, aNary, aB, aAnd, aOr, aNot, aAndV, aNotV, aI0, aI2, aEqD, aNeD, aIsN, aAddS, aCat, aIx, aSl, aNoO, aSoO, aBetw, aLen, aIntU, aListOf, aTupOf, aFld, aProg, aFrz, aFrzD, aApp, aSetIx, aAug, aTg, aUnL, aUn2, aIsi, aNeg, aRev, aYes, aWalk, aRange, aEnT, aEnO, aFSt, aFAug, aDNew, dats, Option.map_some, List.getElem?_cons_zero, List.getElem?_cons_succ, List.set_cons_zero, List.set_cons_succ, oAdd, oGt]
  refine for_j (held.map PyData.int) (fun _ => True) (fun i env L => L = [] ∧ ∃ (a : Nat) (x3 : En), env = [.dat (.int n), .dat (.tuple (held.map .int)), .dat (.int a), x3] ∧ posA n (held.drop i) a = posA n held 0) (fun P h => ?_) ⟨rfl, 0, _, rfl, rfl⟩ ?_ ?_
  · refine ⟨_, .inr (.inl rfl), ?_⟩
    have e : (fun L => seqOf (.dat (.tuple (held.map PyData.int))) L (held.map PyData.int)) = fun _ => True := by
      funext L
      exact propext ⟨fun _ => trivial, fun _ => .inr (.inl rfl)⟩
    rw [e]
    exact h
  · rintro i d env L hd ⟨rfl, a, x3, rfl, he⟩
    have hi : i < held.length := by simpa using (List.getElem?_eq_some_iff.mp hd).1
    have e1 : held[i]? = some held[i] := by simp [hi]
    rw [get_map e1] at hd
    cases hd
    have e2 : held.drop i = held[i] :: held.drop (i + 1) := List.drop_eq_getElem_cons hi
    rw [e2] at he
    generalize held[i] = v at he ⊢
    refine ⟨trivial, _, rfl, ?_⟩
    simp only [aSeq, aNext, aExpr, aRet, aIf, aAsg, aName, aC, aVar, aNil, aCons, aTup, aLst, aOwn, aTwo, aOp, aUn, aNary, aB, aAnd, aOr, aNot, aAndV, aNotV, aI0, aI2, aEqD, aNeD, aIsN, aAddS, aCat, aIx, aSl, aNoO, aSoO, aBetw, aLen, aIntU, aListOf, aTupOf, aFld, aProg, aFrz, aFrzD, aApp, aSetIx, aAug, aTg, aUnL, aUn2, aIsi, aNeg, aRev, aYes, aWalk, aRange, aEnT, aEnO, aFSt, aFAug, aDNew, dats, Option.map_some, List.getElem?_cons_zero, List.getElem?_cons_succ, List.set_cons_zero, List.set_cons_succ]
    refine ⟨sh_int, sh_int, ?_⟩
    rw [eqv_int]
    rw [posA_cons] at he
    refine ⟨fun h => ?_, fun h => ?_⟩
    · rw [decide_eq_true_eq] at h
      rw [if_pos h] at he
      rw [← he] at hp
      exact hp
    · rw [decide_eq_false_iff_not] at h
      rw [if_neg h] at he
      refine ⟨fun h2 => ?_, fun h2 => ?_⟩
      · rw [decide_eq_true_eq] at h2
        rw [if_pos h2] at he
        exact ⟨a, rfl, 2, rfl, by trivial, a + 2, _, rfl, he⟩
      · rw [decide_eq_false_iff_not] at h2
        rw [if_neg h2] at he
        exact ⟨by trivial, a, _, rfl, he⟩
  · rintro env L ⟨rfl, a, x3, rfl, he⟩
    rw [List.length_map, List.drop_length] at he
    refine ⟨trivial, ?_⟩
    rw [← he] at hp
    exact hp
end Mn
namespace Mn
open PySem PySem.Spec PyProof.Rows L2
theorem lc_r {w : AI} {t : Tg} {te : AE} {vs : List Nat} {env : List En} {L : List Cell} {post : En → List Cell → Prop} (items rs : List PyData) (kp : List Cell → Prop) (hw : ∀ P : List PyData → (List Cell → Prop) → List Cell → Prop, P items kp L → w env L P) (hk : kp L) (hl : items.length ≤ 90000) (hr : rs.length = items.length)
    (h : ∀ (i : Nat) (d r : PyData), items[i]? = some d → rs[i]? = some r → ∃ env', bindT t d (wipeE env vs) = some env' ∧ ∀ P : En → List Cell → Prop, P (.dat r) L → te env' L P)
    (hp : post (.dat (.list rs)) L) : aLc w t aYes te vs env L post := by
  refine hw _ ⟨fun i acc L' => L' = L ∧ acc = rs.take i, ⟨rfl, rfl⟩, ?_, ?_⟩
  · rintro i d acc L' hd ⟨rfl, rfl⟩
    have hi : i < rs.length := by rw [hr]; exact (List.getElem?_eq_some_iff.mp hd).1
    have e1 : rs[i]? = some rs[i] := by simp [hi]
    obtain ⟨env', h1, h3⟩ := h i d rs[i] hd e1
    refine ⟨hk, env', h1, fun _ => h3 _ ⟨rs[i], rfl, ?_, rfl, ?_⟩, fun h => Bool.noConfusion h⟩
    · rw [List.length_take]
      omega
    · rw [List.take_succ, e1]
      rfl
  · rintro acc L' ⟨rfl, rfl⟩
    rw [← hr, List.take_length]
    exact ⟨hk, hp⟩
theorem sorted_eq : ∀ {l1 l2 : List Int}, l1.Perm l2 → l1.Pairwise (· ≤ ·) → l2.Pairwise (· ≤ ·) → l1 = l2
  | [], l2, h, _, _ => (List.nil_perm.mp h).symm
  | a :: l1, [], h, _, _ => absurd (List.perm_nil.mp h) (by simp)
  | a :: l1, b :: l2, h, h1, h2 => by
    have ha : a ∈ b :: l2 := h.mem_iff.mp (by simp)
    have hb : b ∈ a :: l1 := h.mem_iff.mpr (by simp)
    obtain ⟨g1, g2⟩ := List.pairwise_cons.mp h1
    obtain ⟨g3, g4⟩ := List.pairwise_cons.mp h2
    have e : a = b := by
      rcases List.mem_cons.mp ha with e | ha
      · exact e
      · rcases List.mem_cons.mp hb with e | hb
        · exact e.symm
        · have := g1 b hb
          have := g3 a ha
          omega
    subst e
    rw [sorted_eq (List.perm_cons a |>.mp h) g2 g4]
theorem insS_perm (n : Int) : ∀ l : List Int, (insS n l).Perm (l ++ [n])
  | [] => .refl _
  | v :: r => by
    unfold insS
    split
    · exact (List.perm_append_comm (l₁ := [n]) (l₂ := v :: r))
    · exact (insS_perm n r).cons v
theorem insS_mem {n x : Int} {l : List Int} : x ∈ insS n l ↔ x = n ∨ x ∈ l := by
  rw [(insS_perm n l).mem_iff, List.mem_append, List.mem_singleton]
  exact Or.comm
theorem insS_sorted (n : Int) : ∀ {l : List Int}, l.Pairwise (· ≤ ·) → (insS n l).Pairwise (· ≤ ·)
  | [], _ => by simp [insS]
  | v :: r, h => by
    obtain ⟨h1, h2⟩ := List.pairwise_cons.mp h
    unfold insS
    split
    · rename_i hv
      refine List.pairwise_cons.mpr ⟨fun x hx => ?_, h⟩
      rcases List.mem_cons.mp hx with rfl | hx
      · exact hv
      · have := h1 x hx
        omega
    · rename_i hv
      refine List.pairwise_cons.mpr ⟨fun x hx => ?_, insS_sorted n h2⟩
      rcases insS_mem.mp hx with rfl | hx
      · omega
      · exact h1 x hx
theorem le_of_lt_pw {l : List Int} (h : l.Pairwise (· < ·)) : l.Pairwise (· ≤ ·) := h.imp fun h => Int.le_of_lt h
theorem insS_asc (n : Int) : ∀ {l : List Int}, l.Pairwise (· < ·) → n ∉ l → (insS n l).Pairwise (· < ·)
  | [], _, _ => by simp [insS]
  | v :: r, h, hn => by
    obtain ⟨h1, h2⟩ := List.pairwise_cons.mp h
    simp only [List.mem_cons, not_or] at hn
    unfold insS
    split
    · rename_i hv
      have hv2 : n < v := by omega
      refine List.pairwise_cons.mpr ⟨fun x hx => ?_, h⟩
      rcases List.mem_cons.mp hx with rfl | hx
      · exact hv2
      · have := h1 x hx
        omega
    · rename_i hv
      refine List.pairwise_cons.mpr ⟨fun x hx => ?_, insS_asc n h2 hn.2⟩
      rcases insS_mem.mp hx with rfl | hx
      · omega
      · exact h1 x hx
theorem cand_asc {n : Int} {l : List Int} (h : l.Pairwise (· < ·)) : (cand l n).Pairwise (· < ·) := by
  unfold cand
  split
  · exact h
  · exact insS_asc n h ‹_›
theorem cand_len {n : Int} {l : List Int} : (cand l n).length = if n ∈ l then l.length else l.length + 1 := by
  unfold cand
  split
  · rfl
  · rw [(insS_perm n l).length_eq, List.length_append]
    rfl
theorem cand_mem {n x : Int} {l : List Int} (h : x ∈ cand l n) : x = n ∨ x ∈ l := by
  unfold cand at h
  split at h
  · exact .inr h
  · exact insS_mem.mp h
theorem posA_le (n : Int) : ∀ (l : List Int) (a : Nat), posA n l a ≤ a + 2 * l.length
  | [], a => Nat.le_refl _
  | v :: r, a => by
    rw [posA_cons, List.length_cons]
    have h1 := posA_le n r (a + 2)
    have h2 := posA_le n r a
    split
    · omega
    · split <;> omega
theorem posA_par (n : Int) : ∀ (l : List Int) (a : Nat), posA n l a % 2 = (a + if n ∈ l then 1 else 0) % 2
  | [], a => by simp [posA]
  | v :: r, a => by
    rw [posA_cons]
    have h1 := posA_par n r (a + 2)
    have h2 := posA_par n r a
    by_cases hv : n = v
    · subst hv
      simp
    · rw [if_neg hv]
      have e : (if n ∈ v :: r then 1 else 0) = (if n ∈ r then 1 else 0) := by simp [hv]
      rw [e]
      split <;> omega
variable (G : Gp)
theorem law_candidates : LawB (C_candidates G) (b_candidates G) N_candidates := by
  rintro ens L post ⟨n, held, rfl, rfl, hl, ha, hp⟩
  show b_candidates G _ [.dat (.tuple (held.map .int)), .dat (.int n)] _
  simp (config := {maxSteps := 3000000}) only [b_candidates, aSeq, aNext, aExpr, aRet, aIf, aAsg, aName, aC, aVar, aNil, aCons, aTup, aLst, aOwn, aTwo, aOp, aUn, aNary, aB, aAnd, aOr, aNot, aAndV, aNotV, aI0, aI2, aEqD, aNeD, aIsN, aAddS, aCat, aIx, aSl, aNoO, aSoO, aBetw, aLen, aIntU, aListOf, aTupOf, aFld, aProg, aFrz, aFrzD, aApp, aSetIx, aAug, aTg, aUnL, aUn2, aIsi, aNeg, aRev, aYes, aWalk, aRange, aEnT, aEnO, aFSt, aFAug, aDNew, dats, Option.map_some, List.getElem?_cons_zero, List.getElem?_cons_succ, List.set_cons_zero, List.set_cons_succ]
  refine .inl ⟨n, held, rfl, .inr (.inl rfl), ?_⟩
  rw [Bool.false_xor]
  refine ⟨fun h => ?_, fun h => ?_⟩
  · rw [decide_eq_true_eq] at h
    have e : cand held n = held := by unfold cand; rw [if_pos h]
    rw [e] at hp
    exact hp
  · rw [decide_eq_false_iff_not] at h
    have e : cand held n = insS n held := by unfold cand; rw [if_neg h]
    rw [e] at hp
    refine ⟨_, rfl, by show 1 ≤ 100000; decide, ?_, held ++ [n], by rw [List.map_append]; rfl, fun ns' h1 h2 => ?_⟩
    · refine sz_ok ?_
      simp only [List.length_map]
      show held.length + 1 ≤ 100000
      omega
    · rw [sorted_eq (h1.trans (insS_perm n held).symm) h2 (insS_sorted n (le_of_lt_pw ha))]
      exact hp
/-! ### the table -/
theorem cellsM_length (F : Fr) (n m : Nat) : (cellsM F n m).length = n * (2 * F.held m + 1) := by
  induction n with
  | zero => simp [cellsM]
  | succ n ih =>
    rw [cellsM_succ, List.length_append, List.length_map, List.length_range, ih]
    exact (Nat.succ_mul n _).symm
theorem cellsU_get {F : Fr} : ∀ {j i : Nat} {x : Nat} {c : Cel}, i ≤ j → (cellsU F i)[x]? = some c → (cellsU F j)[x]? = some c
  | 0, i, x, c, h, e => by
    have : i = 0 := by omega
    rw [this] at e
    exact e
  | j + 1, i, x, c, h, e => by
    by_cases hi : i = j + 1
    · rw [hi] at e
      exact e
    · have e2 := cellsU_get (F := F) (j := j) (i := i) (by omega) e
      rw [cellsU_succ, List.getElem?_append_left (List.getElem?_eq_some_iff.mp e2).1]
      exact e2
theorem cellsM_get {F : Fr} {m : Nat} : ∀ {j i : Nat} {x : Nat} {c : Cel}, i ≤ j → (cellsM F i m)[x]? = some c → (cellsM F j m)[x]? = some c
  | 0, i, x, c, h, e => by
    have : i = 0 := by omega
    rw [this] at e
    exact e
  | j + 1, i, x, c, h, e => by
    by_cases hi : i = j + 1
    · rw [hi] at e
      exact e
    · have e2 := cellsM_get (F := F) (j := j) (i := i) (by omega) e
      rw [cellsM_succ, List.getElem?_append_left (List.getElem?_eq_some_iff.mp e2).1]
      exact e2
theorem cells_get {F : Fr} {m n p : Nat} (h : CelOk F (m, n, p)) : (cellsF F)[(cellsU F m).length + (n * (2 * F.held m + 1) + p)]? = some (m, n, p) := by
  obtain ⟨h1, h2, h3⟩ := h
  rw [cellsF_eq]
  refine cellsU_get (i := m + 1) h1 ?_
  rw [cellsU_succ, List.getElem?_append_right (Nat.le_add_right _ _), Nat.add_sub_cancel_left]
  refine cellsM_get (i := n + 1) h2 ?_
  rw [cellsM_succ, ← cellsM_length F n m, List.getElem?_append_right (Nat.le_add_right _ _), Nat.add_sub_cancel_left]
  show ((List.range (2 * F.held m + 1)).map fun p => (m, n, p))[p]? = _
  rw [List.getElem?_map, List.getElem?_range h3]
  rfl
theorem law_row_at : LawB (C_row_at G) (b_row_at G) N_row_at := by
  rintro ens L post ⟨F, rf, c, rfl, rfl, ok, hc, hp⟩
  obtain ⟨m, n, p⟩ := c
  have m2 := ok.m2
  have n2 := ok.n2
  have hh := ok.held_le m
  have hm := hc.1
  simp only at hm
  show b_row_at G _ [.prog (eNames F) (ePorts F) (eModes F) (tabF F rf), .dat (.tuple [.int m, .int n, .int p]), .no, .no, .no, .no, .no] _
  simp (config := {maxSteps := 3000000}) only [b_row_at, aSeq, aNext, aExpr, aRet, aIf, aAsg, aName, aC, aVar, aNil, aCons, aTup, aLst, aOwn, aTwo, aOp, aUn, aNary, aB, aAnd, aOr, aNot, aAndV, aNotV, aI0, aI2, aEqD, aNeD, aIsN, aAddS, aCat, aIx, aSl, aNoO, aSoO, aBetw, aLen, aIntU, aListOf, aTupOf, aFld, aProg, aFrz, aFrzD, aApp, aSetIx, aAug, aTg, aUnL, aUn2, aIsi, aNeg, aRev, aYes, aWalk, aRange, aEnT, aEnO, aFSt, aFAug, aDNew, dats, Option.map_some, List.getElem?_cons_zero, List.getElem?_cons_succ, List.set_cons_zero, List.set_cons_succ, oMul, oAdd]
  refine ⟨_, _, rfl, rfl, ?_⟩
  simp only [aSeq, aNext, aExpr, aRet, aIf, aAsg, aName, aC, aVar, aNil, aCons, aTup, aLst, aOwn, aTwo, aOp, aUn, aNary, aB, aAnd, aOr, aNot, aAndV, aNotV, aI0, aI2, aEqD, aNeD, aIsN, aAddS, aCat, aIx, aSl, aNoO, aSoO, aBetw, aLen, aIntU, aListOf, aTupOf, aFld, aProg, aFrz, aFrzD, aApp, aSetIx, aAug, aTg, aUnL, aUn2, aIsi, aNeg, aRev, aYes, aWalk, aRange, aEnT, aEnO, aFSt, aFAug, aDNew, dats, Option.map_some, List.getElem?_cons_zero, List.getElem?_cons_succ, List.set_cons_zero, List.set_cons_succ]
  refine for_j ((List.range m).map eN) (fun _ => True) (fun i env L => L = [] ∧ ∃ (a : Nat) (x6 : En), env = [.prog (eNames F) (ePorts F) (eModes F) (tabF F rf), .dat (.tuple [.int m, .int n, .int p]), .dat (.int a), x6, .dat (.int m), .dat (.int n), .dat (.int p)] ∧ a = (cellsU F i).length) (fun P h => ⟨m, rfl, by omega, by omega, h⟩) ⟨rfl, 0, _, rfl, by simp [cellsU]⟩ ?_ ?_
  · rintro i d env L hd ⟨rfl, a, x6, rfl, ha⟩
    obtain ⟨hi, rfl⟩ := get_rg hd
    obtain ⟨s, hs⟩ := mode_at (F := F) (m := i) (by omega)
    refine ⟨trivial, _, rfl, ?_⟩
    simp only [aSeq, aNext, aExpr, aRet, aIf, aAsg, aName, aC, aVar, aNil, aCons, aTup, aLst, aOwn, aTwo, aOp, aUn, aNary, aB, aAnd, aOr, aNot, aAndV, aNotV, aI0, aI2, aEqD, aNeD, aIsN, aAddS, aCat, aIx, aSl, aNoO, aSoO, aBetw, aLen, aIntU, aListOf, aTupOf, aFld, aProg, aFrz, aFrzD, aApp, aSetIx, aAug, aTg, aUnL, aUn2, aIsi, aNeg, aRev, aYes, aWalk, aRange, aEnT, aEnO, aFSt, aFAug, aDNew, dats, Option.map_some, List.getElem?_cons_zero, List.getElem?_cons_succ, List.set_cons_zero, List.set_cons_succ]
    refine ⟨a, rfl, _, atI_nat (get_map hs), ?_⟩
    refine ⟨.int (F.held i), rfl, ?_⟩
    refine ⟨cmulL (by decide), ⟨.inl ?_, ?_⟩⟩
    · rw [List.length_map]
      omega
    refine ⟨_, rfl, by trivial, (a + F.names.length * (2 * F.held i + 1) : Nat), .dat (eN i), ?_, ?_⟩
    · simp only [List.length_map]
      congr 2
    · rw [cellsU_succ, List.length_append, ← ha, cellsM_length]
  · rintro env L ⟨rfl, a, x6, rfl, ha⟩
    rw [List.length_map, List.length_range] at ha
    refine ⟨trivial, ?_⟩
    obtain ⟨s, hs⟩ := mode_at (F := F) (m := m) (by omega)
    simp only [aSeq, aNext, aExpr, aRet, aIf, aAsg, aName, aC, aVar, aNil, aCons, aTup, aLst, aOwn, aTwo, aOp, aUn, aNary, aB, aAnd, aOr, aNot, aAndV, aNotV, aI0, aI2, aEqD, aNeD, aIsN, aAddS, aCat, aIx, aSl, aNoO, aSoO, aBetw, aLen, aIntU, aListOf, aTupOf, aFld, aProg, aFrz, aFrzD, aApp, aSetIx, aAug, aTg, aUnL, aUn2, aIsi, aNeg, aRev, aYes, aWalk, aRange, aEnT, aEnO, aFSt, aFAug, aDNew, dats, Option.map_some, List.getElem?_cons_zero, List.getElem?_cons_succ, List.set_cons_zero, List.set_cons_succ, tabF]
    refine ⟨_, atI_nat (get_map hs), ?_⟩
    refine ⟨.int (F.held m), rfl, ?_⟩
    refine ⟨cmulL (by decide), .inr (by omega), ?_⟩
    refine ⟨eRw (rf (m, n, p)), ?_, hp⟩
    have e := get_map (f := fun c => eRw (rf c)) (cells_get hc)
    rw [← ha] at e
    have z := atI_nat e
    have e3 : ((a + (n * (2 * F.held m + 1) + p) : Nat) : Int) = (a : Int) + (n : Int) * (2 * (F.held m : Int) + 1) + (p : Int) := by
      push_cast
      omega
    rw [e3] at z
    exact z
end Mn
namespace Mn
open PySem PySem.Spec PyProof.Rows L2
variable (G : Gp)
/-! ### one step -/
theorem kn_len {F : Fr} {p : Pl} {e : Ev} (hp : PlAs F p) : (cand p.2 e.2).length = kn F (celOf F p e) := by
  rw [cand_len]
  have h := posA_par e.2 p.2 0
  have h2 := hp.1.2.1
  show _ = F.held p.1 + 1 - posA e.2 p.2 0 % 2
  rw [← h2]
  split at h <;> rename_i hm
  · rw [if_pos hm]
    omega
  · rw [if_neg hm]
    omega
theorem cel_ok {F : Fr} {p : Pl} {e : Ev} (hp : PlOk F p) (he : EvOk F e) : CelOk F (celOf F p e) := by
  refine ⟨hp.1, List.idxOf_lt_length_of_mem he.1, ?_⟩
  have h := posA_le e.2 p.2 0
  have h2 := hp.2.1
  show posA e.2 p.2 0 < 2 * F.held p.1 + 1
  omega
theorem getD_some {α : Type} {xs : List α} {i : Nat} {d : α} (h : i < xs.length) : xs[i]? = some (xs.getD i d) := by
  rw [List.getD_eq_getElem?_getD]
  simp [h]
theorem getD_mem {α : Type} {xs : List α} {i : Nat} {d : α} (h : i < xs.length) : xs.getD i d ∈ xs := List.mem_of_getElem? (getD_some h)
theorem pw_get {xs : List Int} (h : xs.Pairwise (· < ·)) {i j : Nat} (hij : i < j) (hj : j < xs.length) : xs.getD i 0 < xs.getD j 0 := by
  have h1 := List.pairwise_iff_getElem.mp h i j (by omega) hj hij
  rw [List.getD_eq_getElem?_getD, List.getD_eq_getElem?_getD]
  simp only [List.getElem?_eq_getElem hj, List.getElem?_eq_getElem (show i < xs.length by omega), Option.getD_some]
  exact h1
theorem cand_big {F : Fr} {p : Pl} {e : Ev} (hp : PlOk F p) (he : EvOk F e) : ∀ v ∈ cand p.2 e.2, -big ≤ v ∧ v ≤ big := fun v hv => by
  rcases cand_mem hv with rfl | h
  · exact he.2
  · exact hp.2.2 v h
theorem pl_ok {F : Fr} {p : Pl} {e : Ev} {r : Rw} (hp : PlAs F p) (he : EvOk F e) (hr : RwOk F (celOf F p e) r) : PlAs F (plOf r (cand p.2 e.2)) := by
  have hk := kn_len (e := e) hp
  refine ⟨⟨hr.tg, ?_, fun v hv => ?_⟩, ?_⟩
  · show (r.2.1.map _).length = _
    rw [List.length_map]
    exact hr.len
  · obtain ⟨k, h1, rfl⟩ := List.mem_map.mp (show v ∈ r.2.1.map _ from hv)
    exact cand_big hp.1 he _ (getD_mem (by rw [hk]; exact hr.lt k h1))
  · show (r.2.1.map fun k => (cand p.2 e.2).getD k 0).Pairwise (· < ·)
    rw [List.pairwise_map]
    refine List.Pairwise.imp_of_mem ?_ hr.asc
    intro i j hi hj hij
    exact pw_get (cand_asc hp.2) hij (by rw [hk]; exact hr.lt j hj)
theorem pName_of {F : Fr} {k : Nat} {p : Str × List Str} (h : F.ports[k]? = some p) : pName F k = p.1 := by unfold pName; rw [h]; rfl
theorem out_ok {F : Fr} {p : Pl} {e : Ev} {r : Rw} (hp : PlAs F p) (he : EvOk F e) (hr : RwOk F (celOf F p e) r) : OutOk F (outOf F r (cand p.2 e.2)) := by
  have hk := kn_len (e := e) hp
  refine ⟨?_, fun t ht => ?_⟩
  · show (r.2.2.map _).length ≤ 4
    rw [List.length_map]
    exact hr.few
  · obtain ⟨w, h1, rfl⟩ := List.mem_map.mp (show t ∈ r.2.2.map _ from ht)
    obtain ⟨⟨q, h2, h3⟩, h4⟩ := hr.wr w h1
    refine ⟨⟨q, List.mem_of_getElem? h2, (pName_of h2).symm, h3⟩, ?_⟩
    exact cand_big hp.1 he _ (getD_mem (by rw [hk]; exact h4))
theorem run_ok {F : Fr} {rf : Cel → Rw} (hrf : RfOk F rf) : ∀ {es : List Ev} {p : Pl}, PlAs F p → (∀ e ∈ es, EvOk F e) → PlAs F (runP F rf p es) ∧ (∀ o ∈ runO F rf p es, OutOk F o) ∧ (∀ c ∈ runT F rf p es, CelOk F c)
  | [], p, hp, _ => ⟨hp, fun o h => absurd (show o ∈ ([] : List Out) from h) (by simp), fun o h => absurd (show o ∈ ([] : List Cel) from h) (by simp)⟩
  | e :: es, p, hp, he => by
    have h1 := he e (by simp)
    have hc := cel_ok hp.1 h1
    have hr := hrf _ hc
    obtain ⟨a, b, c⟩ := run_ok hrf (es := es) (pl_ok hp h1 hr) fun x hx => he x (List.mem_cons_of_mem _ hx)
    refine ⟨a, fun o ho => ?_, fun o ho => ?_⟩
    · rcases List.mem_cons.mp ho with rfl | ho
      · exact out_ok hp h1 hr
      · exact b o ho
    · rcases List.mem_cons.mp ho with rfl | ho
      · exact hc
      · exact c o ho
theorem p0_ok {F : Fr} (ok : FrOk F) : PlAs F p0 := ⟨⟨ok.m1, ok.m0.symm, fun v h => absurd (show v ∈ ([] : List Int) from h) (by simp)⟩, List.Pairwise.nil⟩
theorem runO_len {F : Fr} {rf : Cel → Rw} : ∀ {es : List Ev} {p : Pl}, (runO F rf p es).length = es.length
  | [], _ => rfl
  | e :: es, p => congrArg Nat.succ runO_len
theorem runT_len {F : Fr} {rf : Cel → Rw} : ∀ {es : List Ev} {p : Pl}, (runT F rf p es).length = es.length
  | [], _ => rfl
  | e :: es, p => congrArg Nat.succ runT_len
theorem idx_get {xs : List Str} {x : Str} (h : x ∈ xs) : xs[xs.idxOf x]? = some x ∧ ∀ m, m < xs.idxOf x → xs[m]? ≠ some x := by
  refine ⟨?_, fun m hm e => ?_⟩
  · rw [List.getElem?_eq_getElem (List.idxOf_lt_length_of_mem h), List.getElem_idxOf]
  · have h1 := List.not_of_lt_findIdx (p := (· == x)) (xs := xs) (i := m) (by unfold List.idxOf at hm; exact hm)
    obtain ⟨h2, h3⟩ := List.getElem?_eq_some_iff.mp e
    rw [h3] at h1
    simp at h1
theorem law_step : LawB (C_step G) (b_step G) N_step := by
  rintro ens L post ⟨F, rf, p, e, rfl, rfl, ok, hrf, hpl, hev, hp⟩
  have hc := cel_ok hpl.1 hev
  have hr := hrf _ hc
  have hk := kn_len (e := e) hpl
  have hl : p.2.length ≤ 4 := by
    rw [hpl.1.2.1]
    exact ok.held_le _
  obtain ⟨x, n⟩ := e
  obtain ⟨m, held⟩ := p
  obtain ⟨i1, i2⟩ := idx_get hev.1
  generalize hrr : rf (celOf F (m, held) (x, n)) = r at hr hp
  generalize hkk : cand held n = ks at hk hp
  obtain ⟨tg, ho, wr⟩ := r
  show b_step G _ [.prog (eNames F) (ePorts F) (eModes F) (tabF F rf), .dat (.tuple [.int m, .tuple (held.map .int)]), .dat (.tuple [.str x, .int n]), .no, .no, .no, .no, .no, .no, .no, .no, .no, .no, .no, .no, .no] _
  simp (config := {maxSteps := 3000000}) only [b_step, aSeq, aNext, aExpr, aRet, aIf, aAsg, aName, aC, aVar, aNil, aCons, aTup, aLst, aOwn, aTwo, aOp, aUn, aNary, aB, aAnd, aOr, aNot, aAndV, aNotV, aI0, aI2, aEqD, aNeD, aIsN, aAddS, aCat, aIx, aSl, aNoO, aSoO, aBetw, aLen, aIntU, aListOf, aTupOf, aFld, aProg, aFrz, aFrzD, aApp, aSetIx, aAug, aTg, aUnL, aUn2, aIsi, aNeg, aRev, aYes, aWalk, aRange, aEnT, aEnO, aFSt, aFAug, aDNew, dats, Option.map_some, List.getElem?_cons_zero, List.getElem?_cons_succ, List.set_cons_zero, List.set_cons_succ, aCall]
  refine ⟨_, _, rfl, rfl, _, _, rfl, rfl, ?_⟩
  simp only [aIndex, aSeq, aNext, aExpr, aRet, aIf, aAsg, aName, aC, aVar, aNil, aCons, aTup, aLst, aOwn, aTwo, aOp, aUn, aNary, aB, aAnd, aOr, aNot, aAndV, aNotV, aI0, aI2, aEqD, aNeD, aIsN, aAddS, aCat, aIx, aSl, aNoO, aSoO, aBetw, aLen, aIntU, aListOf, aTupOf, aFld, aProg, aFrz, aFrzD, aApp, aSetIx, aAug, aTg, aUnL, aUn2, aIsi, aNeg, aRev, aYes, aWalk, aRange, aEnT, aEnO, aFSt, aFAug, aDNew, dats, Option.map_some, List.getElem?_cons_zero, List.getElem?_cons_succ, List.set_cons_zero, List.set_cons_succ, aCall]
  refine ⟨F.names, rfl, (fun h => by rw [h] at i1; cases i1), x, _, rfl, i1, i2, ?_⟩
  refine ⟨[], _, .refl _, n, held, rfl, rfl, by simp only at hl; omega, _, .refl _, ?_⟩
  refine ⟨_, rfl, by show 3 ≤ 100000; decide, ?_⟩
  refine ⟨[], _, .refl _, F, rf, celOf F (m, held) (x, n), rfl, rfl, ok, hc, _, .refl _, ?_⟩
  rw [hrr]
  refine ⟨_, _, rfl, rfl, ?_⟩
  simp only [aSeq, aNext, aExpr, aRet, aIf, aAsg, aName, aC, aVar, aNil, aCons, aTup, aLst, aOwn, aTwo, aOp, aUn, aNary, aB, aAnd, aOr, aNot, aAndV, aNotV, aI0, aI2, aEqD, aNeD, aIsN, aAddS, aCat, aIx, aSl, aNoO, aSoO, aBetw, aLen, aIntU, aListOf, aTupOf, aFld, aProg, aFrz, aFrzD, aApp, aSetIx, aAug, aTg, aUnL, aUn2, aIsi, aNeg, aRev, aYes, aWalk, aRange, aEnT, aEnO, aFSt, aFAug, aDNew, dats, Option.map_some, List.getElem?_cons_zero, List.getElem?_cons_succ, List.set_cons_zero, List.set_cons_succ, aCall]
  refine ⟨[], _, .refl _, n, held, rfl, rfl, by simp only at hl; omega, hpl.2, _, .refl _, ?_⟩
  rw [hkk]
  have few := hr.few
  simp only at few
  refine lc_r (wr.map eWr) ((outOf F (tg, ho, wr) ks).map eTr) (fun _ => True) (fun P h => ?_) trivial (by simp; omega) (by simp [outOf]) (fun i d q hd hq => ?_) ?_
  · refine ⟨_, .inr (.inl rfl), ?_⟩
    have e : (fun L => seqOf (.dat (.tuple (wr.map eWr))) L (wr.map eWr)) = fun _ => True := by
      funext L
      exact propext ⟨fun _ => trivial, fun _ => .inr (.inl rfl)⟩
    rw [e]
    exact h
  · have hi : i < wr.length := by simpa using (List.getElem?_eq_some_iff.mp hd).1
    have ew : wr[i]? = some wr[i] := by simp [hi]
    rw [get_map ew] at hd
    cases hd
    rw [get_map (show (outOf F (tg, ho, wr) ks)[i]? = some _ from get_map ew)] at hq
    cases hq
    obtain ⟨⟨pt, g1, g2⟩, g3⟩ := hr.wr _ (List.getElem_mem hi)
    generalize wr[i] = w at g1 g2 g3 ⊢
    obtain ⟨w1, w2, w3⟩ := w
    refine ⟨_, rfl, fun P h => ?_⟩
    simp only [aSeq, aNext, aExpr, aRet, aIf, aAsg, aName, aC, aVar, aNil, aCons, aTup, aLst, aOwn, aTwo, aOp, aUn, aNary, aB, aAnd, aOr, aNot, aAndV, aNotV, aI0, aI2, aEqD, aNeD, aIsN, aAddS, aCat, aIx, aSl, aNoO, aSoO, aBetw, aLen, aIntU, aListOf, aTupOf, aFld, aProg, aFrz, aFrzD, aApp, aSetIx, aAug, aTg, aUnL, aUn2, aIsi, aNeg, aRev, aYes, aWalk, aRange, aEnT, aEnO, aFSt, aFAug, aDNew, dats, Option.map_some, List.getElem?_cons_zero, List.getElem?_cons_succ, List.set_cons_zero, List.set_cons_succ]
    refine ⟨_, atI_nat (get_map g1), ?_⟩
    refine ⟨.str pt.1, rfl, ?_⟩
    refine ⟨.int (ks.getD w3 0), ?_, _, rfl, by show 3 ≤ 100000; decide, ?_⟩
    · exact atI_nat (get_map (getD_some (by rw [hk]; exact g3)))
    · have e2 : pName F w1 = pt.1 := pName_of g1
      rw [← e2]
      exact h
  · simp only [aSeq, aNext, aExpr, aRet, aIf, aAsg, aName, aC, aVar, aNil, aCons, aTup, aLst, aOwn, aTwo, aOp, aUn, aNary, aB, aAnd, aOr, aNot, aAndV, aNotV, aI0, aI2, aEqD, aNeD, aIsN, aAddS, aCat, aIx, aSl, aNoO, aSoO, aBetw, aLen, aIntU, aListOf, aTupOf, aFld, aProg, aFrz, aFrzD, aApp, aSetIx, aAug, aTg, aUnL, aUn2, aIsi, aNeg, aRev, aYes, aWalk, aRange, aEnT, aEnO, aFSt, aFAug, aDNew, dats, Option.map_some, List.getElem?_cons_zero, List.getElem?_cons_succ, List.set_cons_zero, List.set_cons_succ]
    refine lc_r (ho.map eN) ((plOf (tg, ho, wr) ks).2.map .int) (fun _ => True) (fun P h => ?_) trivial ?_ (by simp [plOf]) (fun i d q hd hq => ?_) ?_
    · refine ⟨_, .inr (.inl rfl), ?_⟩
      have e : (fun L => seqOf (.dat (.tuple (ho.map eN))) L (ho.map eN)) = fun _ => True := by
        funext L
        exact propext ⟨fun _ => trivial, fun _ => .inr (.inl rfl)⟩
      rw [e]
      exact h
    · have := hr.len
      have := ok.held_le tg
      simp only at *
      rw [List.length_map]
      omega
    · have hi : i < ho.length := by simpa using (List.getElem?_eq_some_iff.mp hd).1
      have ew : ho[i]? = some ho[i] := by simp [hi]
      rw [get_map ew] at hd
      cases hd
      rw [get_map (show (plOf (tg, ho, wr) ks).2[i]? = some _ from get_map ew)] at hq
      cases hq
      refine ⟨_, rfl, fun P h => ⟨_, atI_nat (get_map (getD_some ?_)), h⟩⟩
      rw [hk]
      exact hr.lt _ (List.getElem_mem hi)
    · exact ⟨_, rfl, by show 2 ≤ 100000; decide, _, rfl, by show 3 ≤ 100000; decide, hp⟩
end Mn
namespace Mn
open PySem PySem.Spec PyProof.Rows L2
theorem wk_t {X : List PyData} {L : List Cell} {P : List PyData → (List Cell → Prop) → List Cell → Prop} (h : P X (fun _ => True) L) : ∃ ds, seqOf (.dat (.tuple X)) L ds ∧ P ds (fun L => seqOf (.dat (.tuple X)) L ds) L := by
  refine ⟨_, .inr (.inl rfl), ?_⟩
  have e : (fun L => seqOf (.dat (.tuple X)) L X) = fun _ => True := by
    funext L
    exact propext ⟨fun _ => trivial, fun _ => .inr (.inl rfl)⟩
  rw [e]
  exact h
theorem wk_l {X : List PyData} {L : List Cell} {P : List PyData → (List Cell → Prop) → List Cell → Prop} (h : P X (fun _ => True) L) : ∃ ds, seqOf (.dat (.list X)) L ds ∧ P ds (fun L => seqOf (.dat (.list X)) L ds) L := by
  refine ⟨_, .inl rfl, ?_⟩
  have e : (fun L => seqOf (.dat (.list X)) L X) = fun _ => True := by
    funext L
    exact propext ⟨fun _ => trivial, fun _ => .inl rfl⟩
  rw [e]
  exact h
theorem all_true {w : AI} {t : Tg} {te : AE} {vs : List Nat} {env : List En} {L : List Cell} {post : En → List Cell → Prop} (items : List PyData) (kp : List Cell → Prop) (hw : ∀ P : List PyData → (List Cell → Prop) → List Cell → Prop, P items kp L → w env L P) (hk : kp L)
    (h : ∀ (i : Nat) (d : PyData), items[i]? = some d → ∃ env', bindT t d (wipeE env vs) = some env' ∧ ∀ P : En → List Cell → Prop, P (.dat (.bool true)) L → te env' L P) (hp : post (.dat (.bool true)) L) : aGen true w t te vs env L post := by
  refine hw _ ⟨fun i L' => L' = L, rfl, ?_, ?_⟩
  · rintro i d L' hd rfl
    obtain ⟨env', h1, h2⟩ := h i d hd
    exact ⟨hk, env', h1, h2 _ ⟨true, rfl, fun _ => rfl, fun z => absurd rfl z⟩⟩
  · rintro L' rfl
    exact ⟨hk, hp⟩
theorem any_p {w : AI} {t : Tg} {te : AE} {vs : List Nat} {env : List En} {L : List Cell} {post : En → List Cell → Prop} (items : List PyData) (kp : List Cell → Prop) (p : PyData → Bool) (hw : ∀ P : List PyData → (List Cell → Prop) → List Cell → Prop, P items kp L → w env L P) (hk : kp L)
    (h : ∀ (i : Nat) (d : PyData), items[i]? = some d → ∃ env', bindT t d (wipeE env vs) = some env' ∧ ∀ P : En → List Cell → Prop, P (.dat (.bool (p d))) L → te env' L P) (hp : post (.dat (.bool (items.any p))) L) : aGen false w t te vs env L post := by
  refine hw _ ⟨fun i L' => L' = L ∧ (items.take i).any p = false, ⟨rfl, rfl⟩, ?_, ?_⟩
  · rintro i d L' hd ⟨rfl, hn⟩
    obtain ⟨env', h1, h2⟩ := h i d hd
    refine ⟨hk, env', h1, h2 _ ⟨p d, rfl, fun z => ⟨rfl, ?_⟩, fun z => ?_⟩⟩
    · rw [List.take_succ, hd, List.any_append, hn, Option.toList_some]
      simp [z]
    · have z2 : p d = true := by simpa using z
      have e : items.any p = true := List.any_eq_true.mpr ⟨d, List.mem_of_getElem? hd, z2⟩
      rw [e] at hp
      rw [z2]
      exact hp
  · rintro L' ⟨rfl, hn⟩
    rw [List.take_length] at hn
    rw [hn] at hp
    exact ⟨hk, hp⟩
variable (G : Gp)
theorem law_run : LawB (C_run G) (b_run G) N_run := by
  rintro ens L post ⟨F, rf, es, d, rfl, hd, rfl, ok, hrf, hes, hlen, hp⟩
  show b_run G _ [eProg F rf, .dat d, .no, .no, .no, .no, .no, .no] _
  simp (config := {maxSteps := 3000000}) only [b_run, aSeq, aNext, aExpr, aRet, aIf, aAsg, aName, aC, aVar, aNil, aCons, aTup, aLst, aOwn, aTwo, aOp, aUn, aNary, aB, aAnd, aOr, aNot, aAndV, aNotV, aI0, aI2, aEqD, aNeD, aIsN, aAddS, aCat, aIx, aSl, aNoO, aSoO, aBetw, aLen, aIntU, aListOf, aTupOf, aFld, aProg, aFrz, aFrzD, aApp, aSetIx, aAug, aTg, aUnL, aUn2, aIsi, aNeg, aRev, aYes, aWalk, aRange, aEnT, aEnO, aFSt, aFAug, aDNew, dats, Option.map_some, List.getElem?_cons_zero, List.getElem?_cons_succ, List.set_cons_zero, List.set_cons_succ]
  refine ⟨_, rfl, by decide, _, rfl, by show 2 ≤ 100000; decide, [], rfl, by decide, fun a => ⟨[], rfl, by decide, fun b => ?_⟩⟩
  refine for_j (es.map eEv) (fun _ => True) (fun i env L => ∃ (p : Pl) (os : List Out) (ts : List Cel) (x5 x6 x7 : En), env = [eProg F rf, .dat d, .dat (ePl p), .own a, .own b, x5, x6, x7] ∧ L = [(b, .lst (ts.map eCel)), (a, .lst (os.map eOut))] ∧ os.length = i ∧ ts.length = i ∧
    PlAs F p ∧ runP F rf p (es.drop i) = runP F rf p0 es ∧ os ++ runO F rf p (es.drop i) = runO F rf p0 es ∧ ts ++ runT F rf p (es.drop i) = runT F rf p0 es) (fun P h => ?_) ⟨p0, [], [], _, _, _, rfl, rfl, rfl, rfl, p0_ok ok, rfl, rfl, rfl⟩ ?_ ?_
  · rcases hd with rfl | rfl
    · exact wk_l h
    · exact wk_t h
  · rintro i e0 env L he ⟨p, os, ts, x5, x6, x7, rfl, rfl, l1, l2, hpl, h1, h2, h3⟩
    have hi : i < es.length := by simpa using (List.getElem?_eq_some_iff.mp he).1
    have ee : es[i]? = some es[i] := by simp [hi]
    rw [get_map ee] at he
    cases he
    have hev := hes _ (List.getElem_mem hi)
    rw [List.drop_eq_getElem_cons hi] at h1 h2 h3
    generalize es[i] = e at hev h1 h2 h3 ⊢
    refine ⟨trivial, _, rfl, ?_⟩
    simp only [aSeq, aNext, aExpr, aRet, aIf, aAsg, aName, aC, aVar, aNil, aCons, aTup, aLst, aOwn, aTwo, aOp, aUn, aNary, aB, aAnd, aOr, aNot, aAndV, aNotV, aI0, aI2, aEqD, aNeD, aIsN, aAddS, aCat, aIx, aSl, aNoO, aSoO, aBetw, aLen, aIntU, aListOf, aTupOf, aFld, aProg, aFrz, aFrzD, aApp, aSetIx, aAug, aTg, aUnL, aUn2, aIsi, aNeg, aRev, aYes, aWalk, aRange, aEnT, aEnO, aFSt, aFAug, aDNew, dats, Option.map_some, List.getElem?_cons_zero, List.getElem?_cons_succ, List.set_cons_zero, List.set_cons_succ, aCall]
    refine ⟨[], _, .refl _, F, rf, p, e, rfl, rfl, ok, hrf, hpl, hev, _, .refl _, ?_⟩
    have hc := cel_ok hpl.1 hev
    have hr := hrf _ hc
    refine ⟨_, _, rfl, rfl, ?_⟩
    simp only [aSeq, aNext, aExpr, aRet, aIf, aAsg, aName, aC, aVar, aNil, aCons, aTup, aLst, aOwn, aTwo, aOp, aUn, aNary, aB, aAnd, aOr, aNot, aAndV, aNotV, aI0, aI2, aEqD, aNeD, aIsN, aAddS, aCat, aIx, aSl, aNoO, aSoO, aBetw, aLen, aIntU, aListOf, aTupOf, aFld, aProg, aFrz, aFrzD, aApp, aSetIx, aAug, aTg, aUnL, aUn2, aIsi, aNeg, aRev, aYes, aWalk, aRange, aEnT, aEnO, aFSt, aFAug, aDNew, dats, Option.map_some, List.getElem?_cons_zero, List.getElem?_cons_succ, List.set_cons_zero, List.set_cons_succ]
    refine ⟨_, 1, _, rfl, rfl, ?_⟩
    refine ⟨1, _, _, rfl, rfl, by rw [List.length_map]; omega, ?_⟩
    refine ⟨_, 0, _, rfl, rfl, ?_⟩
    refine ⟨0, _, _, rfl, rfl, by rw [List.length_map]; omega, ?_⟩
    refine ⟨plOf (rf (celOf F p e)) (cand p.2 e.2), os ++ [outOf F (rf (celOf F p e)) (cand p.2 e.2)], ts ++ [celOf F p e], _, _, _, rfl, ?_, by simp [l1], by simp [l2], pl_ok hpl hev hr, h1, ?_, ?_⟩
    · rw [List.map_append, List.map_append]
      rfl
    · rw [List.append_assoc]
      exact h2
    · rw [List.append_assoc]
      exact h3
  · rintro env L ⟨p, os, ts, x5, x6, x7, rfl, rfl, l1, l2, hpl, h1, h2, h3⟩
    rw [List.length_map, List.drop_length] at h1 h2 h3
    refine ⟨trivial, ?_⟩
    simp only [aSeq, aNext, aExpr, aRet, aIf, aAsg, aName, aC, aVar, aNil, aCons, aTup, aLst, aOwn, aTwo, aOp, aUn, aNary, aB, aAnd, aOr, aNot, aAndV, aNotV, aI0, aI2, aEqD, aNeD, aIsN, aAddS, aCat, aIx, aSl, aNoO, aSoO, aBetw, aLen, aIntU, aListOf, aTupOf, aFld, aProg, aFrz, aFrzD, aApp, aSetIx, aAug, aTg, aUnL, aUn2, aIsi, aNeg, aRev, aYes, aWalk, aRange, aEnT, aEnO, aFSt, aFAug, aDNew, dats, Option.map_some, List.getElem?_cons_zero, List.getElem?_cons_succ, List.set_cons_zero, List.set_cons_succ]
    refine ⟨_, 1, _, rfl, rfl, ?_⟩
    refine ⟨_, 0, _, rfl, rfl, ?_⟩
    refine ⟨_, rfl, by show 3 ≤ 100000; decide, ?_⟩
    rw [← h1, ← h2, ← h3] at hp
    simp only [runO, runT, List.append_nil] at hp
    exact hp
theorem law_is_write : LawB (C_is_write G) (b_is_write G) N_is_write := by
  rintro ens L post ⟨F, rf, k, w, rfl, rfl, ok, ⟨⟨q, h1, h2⟩, h3⟩, hp⟩
  obtain ⟨w1, w2, w3⟩ := w
  simp only at h1 h2 h3
  have hl : w1 < F.ports.length := (List.getElem?_eq_some_iff.mp h1).1
  show b_is_write G _ [.prog (eNames F) (ePorts F) (eModes F) (tabF F rf), .dat (.int k), .dat (.tuple [.int w1, .str w2, .int w3])] _
  simp (config := {maxSteps := 3000000}) only [b_is_write, aSeq, aNext, aExpr, aRet, aIf, aAsg, aName, aC, aVar, aNil, aCons, aTup, aLst, aOwn, aTwo, aOp, aUn, aNary, aB, aAnd, aOr, aNot, aAndV, aNotV, aI0, aI2, aEqD, aNeD, aIsN, aAddS, aCat, aIx, aSl, aNoO, aSoO, aBetw, aLen, aIntU, aListOf, aTupOf, aFld, aProg, aFrz, aFrzD, aApp, aSetIx, aAug, aTg, aUnL, aUn2, aIsi, aNeg, aRev, aYes, aWalk, aRange, aEnT, aEnO, aFSt, aFAug, aDNew, dats, Option.map_some, List.getElem?_cons_zero, List.getElem?_cons_succ, List.set_cons_zero, List.set_cons_succ, aCall]
  refine ⟨fun h => Bool.noConfusion (show false = true from h), fun _ => ⟨?_, ?_, ?_⟩⟩
  · exact sh_of (n := 0) lq_int
  · exact sh_of (n := 0) lq_int
  rw [eqv_int]
  refine ⟨fun h => Bool.noConfusion (show false = true from h), fun _ => ?_⟩
  refine ⟨.int w1, rfl, ?_⟩
  refine ⟨[], _, .refl _, w1, _, rfl, rfl, by omega, by rw [List.length_map]; omega, _, .refl _, ?_⟩
  refine ⟨fun h => Bool.noConfusion (show false = true from h), fun _ => ?_⟩
  refine ⟨.str w2, rfl, .int w1, rfl, ?_⟩
  refine ⟨_, atI_nat (get_map h1), ?_⟩
  refine ⟨.tuple (q.2.map .str), rfl, ?_⟩
  refine .inr (.inl ⟨w2, q.2, rfl, .inr (.inl rfl), ?_⟩)
  rw [Bool.false_xor, decide_eq_true h2]
  refine ⟨fun _ => ?_, fun h => Bool.noConfusion h⟩
  exact ⟨_, rfl, [], _, .refl _, w3, k, rfl, rfl, by omega, by omega, _, .refl _, hp⟩
theorem law_are_holds : LawB (C_are_holds G) (b_are_holds G) N_are_holds := by
  rintro ens L post ⟨hs, k, n, rfl, rfl, ha, hk, hn, hn2, hp⟩
  show b_are_holds G _ [.dat (.tuple (hs.map eN)), .dat (.int k), .dat (.int n), .no] _
  simp (config := {maxSteps := 3000000}) only [b_are_holds, aSeq, aNext, aExpr, aRet, aIf, aAsg, aName, aC, aVar, aNil, aCons, aTup, aLst, aOwn, aTwo, aOp, aUn, aNary, aB, aAnd, aOr, aNot, aAndV, aNotV, aI0, aI2, aEqD, aNeD, aIsN, aAddS, aCat, aIx, aSl, aNoO, aSoO, aBetw, aLen, aIntU, aListOf, aTupOf, aFld, aProg, aFrz, aFrzD, aApp, aSetIx, aAug, aTg, aUnL, aUn2, aIsi, aNeg, aRev, aYes, aWalk, aRange, aEnT, aEnO, aFSt, aFAug, aDNew, dats, Option.map_some, List.getElem?_cons_zero, List.getElem?_cons_succ, List.set_cons_zero, List.set_cons_succ, aCall, oLt, oSub, oAdd]
  refine ⟨fun h => Bool.noConfusion (show false = true from h), fun _ => ⟨?_, ?_, ?_⟩⟩
  · exact sh_of (n := 0) lq_int
  · exact sh_of (n := 0) lq_int
  rw [eqv_int, List.length_map, hn]
  refine ⟨fun h => ?_, fun _ => ?_⟩
  · rw [decide_eq_true rfl] at h
    exact Bool.noConfusion h
  refine all_true (hs.map eN) (fun _ => True) (fun P h => wk_t h) trivial (fun i d hd => ?_) ?_
  · have hi : i < hs.length := by simpa using (List.getElem?_eq_some_iff.mp hd).1
    have ew : hs[i]? = some hs[i] := by simp [hi]
    rw [get_map ew] at hd
    cases hd
    have := hk _ (List.getElem_mem hi)
    exact ⟨_, rfl, fun P h => ⟨[], _, .refl _, _, k, rfl, rfl, by omega, by omega, _, .refl _, h⟩⟩
  refine ⟨fun h => Bool.noConfusion (show false = true from h), fun _ => ?_⟩
  refine all_true ((List.range (n - 1)).map eN) (fun _ => True) (fun P h => ⟨_, rfl, by omega, by omega, ?_⟩) trivial (fun i d hd => ?_) hp
  · have e : rgD ((n : Int) - 1) = (List.range (n - 1)).map eN := by
      unfold rgD
      have : ((n : Int) - 1).toNat = n - 1 := by omega
      rw [this]
      rfl
    rw [e]
    exact h
  · obtain ⟨hi, rfl⟩ := get_rg hd
    have h1 : i + 1 < hs.length := by omega
    have h0 : i < hs.length := by omega
    have e0 : hs[i]? = some hs[i] := by simp [h0]
    have e1 : hs[i + 1]? = some hs[i + 1] := by simp [h1]
    refine ⟨_, rfl, fun P h => ?_⟩
    simp only [aSeq, aNext, aExpr, aRet, aIf, aAsg, aName, aC, aVar, aNil, aCons, aTup, aLst, aOwn, aTwo, aOp, aUn, aNary, aB, aAnd, aOr, aNot, aAndV, aNotV, aI0, aI2, aEqD, aNeD, aIsN, aAddS, aCat, aIx, aSl, aNoO, aSoO, aBetw, aLen, aIntU, aListOf, aTupOf, aFld, aProg, aFrz, aFrzD, aApp, aSetIx, aAug, aTg, aUnL, aUn2, aIsi, aNeg, aRev, aYes, aWalk, aRange, aEnT, aEnO, aFSt, aFAug, aDNew, dats, Option.map_some, List.getElem?_cons_zero, List.getElem?_cons_succ, List.set_cons_zero, List.set_cons_succ]
    refine ⟨_, atI_nat (get_map e0), ?_⟩
    refine ⟨_, by have z := atI_nat (get_map (f := eN) e1); exact z, ?_⟩
    have hlt := List.pairwise_iff_getElem.mp ha i (i + 1) h0 h1 (by omega)
    have e3 : decide ((hs[i] : Int) < (hs[i + 1] : Int)) = true := decide_eq_true (by omega)
    show P (.dat (.bool (decide ((hs[i] : Int) < (hs[i + 1] : Int))))) []
    rw [e3]
    exact h
theorem law_is_cell : LawB (C_is_cell G) (b_is_cell G) N_is_cell := by
  rintro ens L post ⟨F, rf, c, rfl, rfl, ok, hc, hp⟩
  obtain ⟨m, n, p⟩ := c
  obtain ⟨h1, h2, h3⟩ := hc
  simp only at h1 h2 h3
  obtain ⟨s, hs⟩ := mode_at h1
  show b_is_cell G _ [.prog (eNames F) (ePorts F) (eModes F) (tabF F rf), .dat (.tuple [.int m, .int n, .int p]), .no] _
  simp (config := {maxSteps := 3000000}) only [b_is_cell, aSeq, aNext, aExpr, aRet, aIf, aAsg, aName, aC, aVar, aNil, aCons, aTup, aLst, aOwn, aTwo, aOp, aUn, aNary, aB, aAnd, aOr, aNot, aAndV, aNotV, aI0, aI2, aEqD, aNeD, aIsN, aAddS, aCat, aIx, aSl, aNoO, aSoO, aBetw, aLen, aIntU, aListOf, aTupOf, aFld, aProg, aFrz, aFrzD, aApp, aSetIx, aAug, aTg, aUnL, aUn2, aIsi, aNeg, aRev, aYes, aWalk, aRange, aEnT, aEnO, aFSt, aFAug, aDNew, dats, Option.map_some, List.getElem?_cons_zero, List.getElem?_cons_succ, List.set_cons_zero, List.set_cons_succ, aCall, oMul, oAdd]
  refine ⟨fun h => Bool.noConfusion (show false = true from h), fun _ => ⟨?_, ?_, ?_⟩⟩
  · exact sh_of (n := 0) lq_int
  · exact sh_of (n := 0) lq_int
  rw [eqv_int]
  refine ⟨fun h => Bool.noConfusion (show false = true from h), fun _ => ?_⟩
  refine ⟨.int m, rfl, ?_⟩
  refine ⟨[], _, .refl _, m, _, rfl, rfl, by omega, by rw [List.length_map]; omega, _, .refl _, ?_⟩
  refine ⟨fun h => Bool.noConfusion (show false = true from h), fun _ => ?_⟩
  refine ⟨_, rfl, _, atI_nat (get_map hs), ?_⟩
  refine ⟨.int (F.held m), rfl, ?_⟩
  refine ⟨cmulL (by decide), ?_⟩
  refine ⟨_, rfl, [], _, .refl _, n, _, rfl, rfl, by omega, by rw [List.length_map]; omega, _, .refl _, ?_⟩
  refine ⟨fun _ => ?_, fun h => Bool.noConfusion h⟩
  exact ⟨_, rfl, [], _, .refl _, p, _, rfl, rfl, by omega, by omega, _, .refl _, hp⟩
end Mn
namespace Mn
open PySem PySem.Spec PyProof.Rows L2
variable (G : Gp)
theorem nf {P : Prop} (h : false = true) : P := Bool.noConfusion h
theorem law_is_row : LawB (C_is_row G) (b_is_row G) N_is_row := by
  rintro ens L post ⟨F, rf, c, r, rfl, rfl, ok, hc, hr, hp⟩
  obtain ⟨m, n, p⟩ := c
  obtain ⟨tg, ho, wr⟩ := r
  obtain ⟨s, hs⟩ := mode_at hc.1
  obtain ⟨s2, hs2⟩ := mode_at hr.tg
  simp only at hs hs2
  have hh := ok.held_le m
  have hh2 := ok.held_le tg
  have ek : kn F (m, n, p) = F.held m + 1 - p % 2 := rfl
  have ekz : ((kn F (m, n, p) : Nat) : Int) = (F.held m : Int) + 1 - (p : Int) % 2 := by rw [ek]; omega
  show b_is_row G _ [.prog (eNames F) (ePorts F) (eModes F) (tabF F rf), .dat (.tuple [.int m, .int n, .int p]), .dat (.tuple [.int tg, .tuple (ho.map eN), .tuple (wr.map eWr)]), .no, .no] _
  simp (config := {maxSteps := 3000000}) only [b_is_row, aSeq, aNext, aExpr, aRet, aIf, aAsg, aName, aC, aVar, aNil, aCons, aTup, aLst, aOwn, aTwo, aOp, aUn, aNary, aB, aAnd, aOr, aNot, aAndV, aNotV, aI0, aI2, aEqD, aNeD, aIsN, aAddS, aCat, aIx, aSl, aNoO, aSoO, aBetw, aLen, aIntU, aListOf, aTupOf, aFld, aProg, aFrz, aFrzD, aApp, aSetIx, aAug, aTg, aUnL, aUn2, aIsi, aNeg, aRev, aYes, aWalk, aRange, aEnT, aEnO, aFSt, aFAug, aDNew, dats, Option.map_some, List.getElem?_cons_zero, List.getElem?_cons_succ, List.set_cons_zero, List.set_cons_succ, aCall, oSub, oAdd, oMod, oGt]
  refine ⟨_, rfl, _, atI_nat (get_map hs), ?_⟩
  refine ⟨.int (F.held m), rfl, ?_⟩
  refine ⟨_, rfl, ?_⟩
  refine ⟨by decide, ?_⟩
  refine ⟨fun h => nf (show false = true from h), fun _ => ⟨sh_of (n := 0) lq_int, sh_of (n := 0) lq_int, ?_⟩⟩
  rw [eqv_int]
  refine ⟨fun h => nf (show false = true from h), fun _ => ?_⟩
  refine ⟨.int tg, rfl, ?_⟩
  refine ⟨[], _, .refl _, tg, _, rfl, rfl, by omega, by rw [List.length_map]; have := hr.tg; simp only at this; omega, _, .refl _, ?_⟩
  refine ⟨fun h => nf (show false = true from h), fun _ => ?_⟩
  refine ⟨_, rfl, _, rfl, _, atI_nat (get_map hs2), ?_⟩
  refine ⟨.int (F.held tg), rfl, ?_⟩
  refine ⟨[], _, .refl _, ho, kn F (m, n, p), F.held tg, by rw [ekz], rfl, hr.asc, hr.lt, hr.len, by omega, _, .refl _, ?_⟩
  refine ⟨fun h => nf (show false = true from h), fun _ => ?_⟩
  refine ⟨_, rfl, ?_⟩
  refine ⟨fun h => nf (show false = true from h), fun _ => ?_⟩
  refine ⟨_, rfl, ?_⟩
  have few := hr.few
  simp only at few
  refine ⟨fun h => ?_, fun _ => ?_⟩
  · rw [decide_eq_true_eq, List.length_map] at h
    omega
  refine ⟨_, rfl, ?_⟩
  refine all_true (w := aWalk fun _ L P => P (.dat (.tuple (wr.map eWr))) L) (t := .nm 4) (te := aCall (C_is_write G) (aCons (aVar 0) (aCons (aVar 3) (aCons (aVar 4) aNil)))) (vs := [4]) (wr.map eWr) (fun _ => True) (fun P h => wk_t h) trivial (fun i d hd => ?_) hp
  have hi : i < wr.length := by simpa using (List.getElem?_eq_some_iff.mp hd).1
  have ew : wr[i]? = some wr[i] := by simp [hi]
  rw [get_map ew] at hd
  cases hd
  have hw := hr.wr _ (List.getElem_mem hi)
  exact ⟨_, rfl, fun P h => ⟨[], _, .refl _, F, rf, kn F (m, n, p), _, by rw [ekz]; rfl, rfl, ok, hw, _, .refl _, h⟩⟩
theorem law_is_event : LawB (C_is_event G) (b_is_event G) N_is_event := by
  rintro ens L post ⟨F, rf, e, rfl, rfl, ok, he, hp⟩
  obtain ⟨x, n⟩ := e
  obtain ⟨h1, h2, h3⟩ := he
  show b_is_event G _ [.prog (eNames F) (ePorts F) (eModes F) (tabF F rf), .dat (.tuple [.str x, .int n])] _
  simp (config := {maxSteps := 3000000}) only [b_is_event, aSeq, aNext, aExpr, aRet, aIf, aAsg, aName, aC, aVar, aNil, aCons, aTup, aLst, aOwn, aTwo, aOp, aUn, aNary, aB, aAnd, aOr, aNot, aAndV, aNotV, aI0, aI2, aEqD, aNeD, aIsN, aAddS, aCat, aIx, aSl, aNoO, aSoO, aBetw, aLen, aIntU, aListOf, aTupOf, aFld, aProg, aFrz, aFrzD, aApp, aSetIx, aAug, aTg, aUnL, aUn2, aIsi, aNeg, aRev, aYes, aWalk, aRange, aEnT, aEnO, aFSt, aFAug, aDNew, dats, Option.map_some, List.getElem?_cons_zero, List.getElem?_cons_succ, List.set_cons_zero, List.set_cons_succ, aCall]
  refine ⟨fun h => nf (show false = true from h), fun _ => ⟨sh_of (n := 0) lq_int, sh_of (n := 0) lq_int, ?_⟩⟩
  rw [eqv_int]
  refine ⟨fun h => nf (show false = true from h), fun _ => ?_⟩
  refine ⟨.str x, rfl, ?_⟩
  refine .inr (.inl ⟨x, F.names, rfl, .inr (.inl rfl), ?_⟩)
  rw [Bool.false_xor, decide_eq_true h1]
  refine ⟨fun _ => ?_, fun h => Bool.noConfusion h⟩
  exact ⟨.int n, rfl, [], _, .refl _, n, rfl, rfl, h2, h3, _, .refl _, hp⟩
theorem law_is_triple : LawB (C_is_triple G) (b_is_triple G) N_is_triple := by
  rintro ens L post ⟨F, rf, t, rfl, rfl, ok, ⟨⟨q, h1, h2, h3⟩, h4, h5⟩, hp⟩
  obtain ⟨x, y, n⟩ := t
  simp only at h2 h3 h4 h5
  subst h2
  show b_is_triple G _ [.prog (eNames F) (ePorts F) (eModes F) (tabF F rf), .dat (.tuple [.str q.1, .str y, .int n]), .no, .no] _
  simp (config := {maxSteps := 3000000}) only [b_is_triple, aSeq, aNext, aExpr, aRet, aIf, aAsg, aName, aC, aVar, aNil, aCons, aTup, aLst, aOwn, aTwo, aOp, aUn, aNary, aB, aAnd, aOr, aNot, aAndV, aNotV, aI0, aI2, aEqD, aNeD, aIsN, aAddS, aCat, aIx, aSl, aNoO, aSoO, aBetw, aLen, aIntU, aListOf, aTupOf, aFld, aProg, aFrz, aFrzD, aApp, aSetIx, aAug, aTg, aUnL, aUn2, aIsi, aNeg, aRev, aYes, aWalk, aRange, aEnT, aEnO, aFSt, aFAug, aDNew, dats, Option.map_some, List.getElem?_cons_zero, List.getElem?_cons_succ, List.set_cons_zero, List.set_cons_succ, aCall]
  refine ⟨fun h => nf (show false = true from h), fun _ => ⟨sh_of (n := 0) lq_int, sh_of (n := 0) lq_int, ?_⟩⟩
  rw [eqv_int]
  refine ⟨fun h => nf (show false = true from h), fun _ => ?_⟩
  refine ⟨.int n, rfl, ?_⟩
  refine ⟨[], _, .refl _, n, rfl, rfl, h4, h5, _, .refl _, ?_⟩
  refine ⟨fun h => nf (show false = true from h), fun _ => ?_⟩
  have hq := ok.pw q h1
  refine any_p (F.ports.map ePort) (fun _ => True) (fun d => match d with
    | .tuple [.str a, .tuple ls] => PyData.eqv (.str a) (.str q.1) && (ls.any fun z => PyData.eqv z (.str y))
    | _ => false) (fun P h => wk_t h) trivial (fun i d hd => ?_) ?_
  · have hi : i < F.ports.length := by simpa using (List.getElem?_eq_some_iff.mp hd).1
    have ew : F.ports[i]? = some F.ports[i] := by simp [hi]
    rw [get_map ew] at hd
    cases hd
    have hz := ok.pw _ (List.getElem_mem hi)
    generalize F.ports[i] = z at hz ⊢
    obtain ⟨za, zl⟩ := z
    refine ⟨_, rfl, fun P h => ?_⟩
    simp only [aSeq, aNext, aExpr, aRet, aIf, aAsg, aName, aC, aVar, aNil, aCons, aTup, aLst, aOwn, aTwo, aOp, aUn, aNary, aB, aAnd, aOr, aNot, aAndV, aNotV, aI0, aI2, aEqD, aNeD, aIsN, aAddS, aCat, aIx, aSl, aNoO, aSoO, aBetw, aLen, aIntU, aListOf, aTupOf, aFld, aProg, aFrz, aFrzD, aApp, aSetIx, aAug, aTg, aUnL, aUn2, aIsi, aNeg, aRev, aYes, aWalk, aRange, aEnT, aEnO, aFSt, aFAug, aDNew, dats, Option.map_some, List.getElem?_cons_zero, List.getElem?_cons_succ, List.set_cons_zero, List.set_cons_succ]
    refine ⟨.str q.1, rfl, sh_str hz.1.1, sh_str hq.1.1, fun h1 => ?_, fun h1 => ?_⟩
    · refine ⟨.str y, rfl, .inr (.inl ⟨y, zl, rfl, .inr (.inl rfl), ?_⟩)⟩
      rw [Bool.false_xor]
      have e : (zl.map PyData.str).any (fun z => PyData.eqv z (.str y)) = decide (y ∈ zl) := by
        apply dec_of
        rw [List.any_map, List.any_eq_true]
        constructor
        · rintro ⟨w, hw, hw2⟩
          have hw2 : PyData.eqv (.str w) (.str y) = true := hw2
          rw [eqv_str, decide_eq_true_eq] at hw2
          exact hw2 ▸ hw
        · intro hw
          refine ⟨y, hw, ?_⟩
          show PyData.eqv (.str y) (.str y) = true
          rw [eqv_str, decide_eq_true rfl]
      have h : P (.dat (.bool (PyData.eqv (.str za) (.str q.1) && (zl.map PyData.str).any (fun z => PyData.eqv z (.str y))))) [] := h
      rw [h1, e, Bool.true_and] at h
      exact h
    · have h : P (.dat (.bool (PyData.eqv (.str za) (.str q.1) && (zl.map PyData.str).any (fun z => PyData.eqv z (.str y))))) [] := h
      rw [h1, Bool.false_and] at h
      exact h
  · have e : (F.ports.map ePort).any (fun d => match d with
      | .tuple [.str a, .tuple ls] => PyData.eqv (.str a) (.str q.1) && (ls.any fun z => PyData.eqv z (.str y))
      | _ => false) = true := by
      refine List.any_eq_true.mpr ⟨ePort q, List.mem_map_of_mem h1, ?_⟩
      show (PyData.eqv (.str q.1) (.str q.1) && (q.2.map PyData.str).any (fun z => PyData.eqv z (.str y))) = true
      rw [eqv_str, decide_eq_true rfl, Bool.true_and, List.any_map, List.any_eq_true]
      refine ⟨y, h3, ?_⟩
      show PyData.eqv (.str y) (.str y) = true
      rw [eqv_str, decide_eq_true rfl]
    rw [e]
    exact hp
theorem law_is_output : LawB (C_is_output G) (b_is_output G) N_is_output := by
  rintro ens L post ⟨F, rf, o, rfl, rfl, ok, ⟨h1, h2⟩, hp⟩
  show b_is_output G _ [eProg F rf, .dat (.tuple (o.map eTr)), .no] _
  simp (config := {maxSteps := 3000000}) only [b_is_output, aSeq, aNext, aExpr, aRet, aIf, aAsg, aName, aC, aVar, aNil, aCons, aTup, aLst, aOwn, aTwo, aOp, aUn, aNary, aB, aAnd, aOr, aNot, aAndV, aNotV, aI0, aI2, aEqD, aNeD, aIsN, aAddS, aCat, aIx, aSl, aNoO, aSoO, aBetw, aLen, aIntU, aListOf, aTupOf, aFld, aProg, aFrz, aFrzD, aApp, aSetIx, aAug, aTg, aUnL, aUn2, aIsi, aNeg, aRev, aYes, aWalk, aRange, aEnT, aEnO, aFSt, aFAug, aDNew, dats, Option.map_some, List.getElem?_cons_zero, List.getElem?_cons_succ, List.set_cons_zero, List.set_cons_succ, aCall, oGt]
  refine ⟨fun h => nf (show false = true from h), fun _ => ⟨fun h => ?_, fun _ => ?_⟩⟩
  · rw [decide_eq_true_eq, List.length_map] at h
    omega
  refine all_true (o.map eTr) (fun _ => True) (fun P h => wk_t h) trivial (fun i d hd => ?_) hp
  have hi : i < o.length := by simpa using (List.getElem?_eq_some_iff.mp hd).1
  have ew : o[i]? = some o[i] := by simp [hi]
  rw [get_map ew] at hd
  cases hd
  exact ⟨_, rfl, fun P h => ⟨[], _, .refl _, F, rf, o[i], rfl, rfl, ok, h2 _ (List.getElem_mem hi), _, .refl _, h⟩⟩
end Mn
namespace Mn
open PySem PySem.Spec PyProof.Rows L2
variable (G : Gp)
/-! ### frozen -/
theorem fzL_eq : ∀ ds : List PyData, fzL ds = ds.map fz
  | [] => rfl
  | d :: ds => by rw [fzL, fzL_eq ds]; rfl
theorem law_frozen (n : Nat) : LawB (C_froz (n + 1)) (b_frozen G (C_froz n)) N_frozen := by
  rintro ens L post ⟨d, rfl, rfl, hd, hp⟩
  show b_frozen G (C_froz n) _ [.dat d, .no] _
  simp (config := {maxSteps := 3000000}) only [b_frozen, aSeq, aNext, aExpr, aRet, aIf, aAsg, aName, aC, aVar, aNil, aCons, aTup, aLst, aOwn, aTwo, aOp, aUn, aNary, aB, aAnd, aOr, aNot, aAndV, aNotV, aI0, aI2, aEqD, aNeD, aIsN, aAddS, aCat, aIx, aSl, aNoO, aSoO, aBetw, aLen, aIntU, aListOf, aTupOf, aFld, aProg, aFrz, aFrzD, aApp, aSetIx, aAug, aTg, aUnL, aUn2, aIsi, aNeg, aRev, aYes, aWalk, aRange, aEnT, aEnO, aFSt, aFAug, aDNew, dats, Option.map_some, List.getElem?_cons_zero, List.getElem?_cons_succ, List.set_cons_zero, List.set_cons_succ, aCall]
  have seq : ∀ ds : List PyData, (∀ P : List PyData → (List Cell → Prop) → List Cell → Prop, P ds (fun _ => True) [] → ∃ dz, seqOf (.dat d) [] dz ∧ P dz (fun L => seqOf (.dat d) L dz) []) → ds.length ≤ 3000 → (∀ d ∈ ds, dOk n d) → fz d = .tuple (ds.map fz) → aLc (aWalk (aVar 0)) (Tg.nm 1) aYes (aCall (C_froz n) (aCons (aVar 1) aNil)) [1] [En.dat d, En.no] [] fun x L1 =>
    match [x] with
    | [En.dat (PyData.list ds)] => post (En.dat (PyData.tuple ds)) L1
    | [En.dat (PyData.tuple ds)] => post (En.dat (PyData.tuple ds)) L1
    | x => False := fun ds hw hl hds he => by
    refine lc_m ds (fun _ => True) fz (fun P h => hw P h) trivial (by omega) (fun i x hx => ?_) ?_
    · refine ⟨_, rfl, fun P h => ?_⟩
      simp only [aSeq, aNext, aExpr, aRet, aIf, aAsg, aName, aC, aVar, aNil, aCons, aTup, aLst, aOwn, aTwo, aOp, aUn, aNary, aB, aAnd, aOr, aNot, aAndV, aNotV, aI0, aI2, aEqD, aNeD, aIsN, aAddS, aCat, aIx, aSl, aNoO, aSoO, aBetw, aLen, aIntU, aListOf, aTupOf, aFld, aProg, aFrz, aFrzD, aApp, aSetIx, aAug, aTg, aUnL, aUn2, aIsi, aNeg, aRev, aYes, aWalk, aRange, aEnT, aEnO, aFSt, aFAug, aDNew, dats, Option.map_some, List.getElem?_cons_zero, List.getElem?_cons_succ, List.set_cons_zero, List.set_cons_succ, aCall]
      exact ⟨[], _, .refl _, x, rfl, rfl, hds x (List.mem_of_getElem? hx), _, .refl _, h⟩
    · rw [he] at hp
      exact hp
  refine ⟨fun h => ?_, fun h => ?_⟩
  · cases d with
    | list ds => exact seq ds (fun P h => wk_l h) hd.1 hd.2 (by rw [fz, fzL_eq])
    | tuple ds => exact seq ds (fun P h => wk_t h) hd.1 hd.2 (by rw [fz, fzL_eq])
    | _ => exact nf (by simpa [isiLT, kindOf] using h)
  · cases d with
    | list ds => exact nf (show false = true from h.symm)
    | tuple ds => exact nf (show false = true from h.symm)
    | _ => exact hp
/-! ### data that frozen leaves as it is -/
def Fz (n : Nat) (d : PyData) : Prop := dOk n d ∧ fz d = d
theorem fz_int {n : Nat} {i : Int} : Fz n (.int i) := ⟨by cases n <;> first | rfl | trivial, rfl⟩
theorem fz_str {n : Nat} {i : Str} : Fz n (.str i) := ⟨by cases n <;> first | rfl | trivial, rfl⟩
theorem fz_tup {n : Nat} {ds : List PyData} (hl : ds.length ≤ 3000) (h : ∀ d ∈ ds, Fz n d) : Fz (n + 1) (.tuple ds) := by
  refine ⟨⟨hl, fun d hd => (h d hd).1⟩, ?_⟩
  rw [fz, fzL_eq]
  congr 1
  have : ds.map fz = ds.map id := List.map_congr_left fun d hd => (h d hd).2
  rw [this, List.map_id]
theorem fz_nats {n : Nat} {xs : List Nat} (h : xs.length ≤ 3000) : Fz (n + 1) (.tuple (xs.map eN)) := fz_tup (by rw [List.length_map]; exact h) fun d hd => by
  obtain ⟨x, _, rfl⟩ := List.mem_map.mp hd
  exact fz_int
theorem fz_strs {n : Nat} {xs : List Str} (h : xs.length ≤ 3000) : Fz (n + 1) (.tuple (xs.map .str)) := fz_tup (by rw [List.length_map]; exact h) fun d hd => by
  obtain ⟨x, _, rfl⟩ := List.mem_map.mp hd
  exact fz_str
theorem fz_cel {n : Nat} {c : Cel} : Fz (n + 1) (eCel c) := fz_tup (by show 3 ≤ 3000; decide) fun d hd => by
  simp only [List.mem_cons, List.not_mem_nil, or_false] at hd
  rcases hd with rfl | rfl | rfl <;> exact fz_int
theorem fz_wr {n : Nat} {w : Wr} : Fz (n + 1) (eWr w) := fz_tup (by show 3 ≤ 3000; decide) fun d hd => by
  simp only [List.mem_cons, List.not_mem_nil, or_false] at hd
  rcases hd with rfl | rfl | rfl
  · exact fz_int
  · exact fz_str
  · exact fz_int
theorem fz_rw {n : Nat} {r : Rw} (h1 : r.2.1.length ≤ 3000) (h2 : r.2.2.length ≤ 3000) : Fz (n + 3) (eRw r) := fz_tup (by show 3 ≤ 3000; decide) fun d hd => by
  simp only [List.mem_cons, List.not_mem_nil, or_false] at hd
  rcases hd with rfl | rfl | rfl
  · exact fz_int
  · exact fz_nats h1
  · refine fz_tup (by rw [List.length_map]; exact h2) fun d hd => ?_
    obtain ⟨w, _, rfl⟩ := List.mem_map.mp hd
    exact fz_wr
theorem RwOk.fz {F : Fr} {c : Cel} {r : Rw} (ok : FrOk F) (h : RwOk F c r) : Fz 6 (eRw r) := fz_rw (n := 3) (by rw [h.len]; have := ok.held_le r.1; omega) (by have := h.few; omega)
theorem fz_ports {F : Fr} (ok : FrOk F) : Fz 6 (ePorts F) := fz_tup (n := 5) (by rw [List.length_map]; have := ok.p2; omega) fun d hd => by
  obtain ⟨p, hp, rfl⟩ := List.mem_map.mp hd
  refine fz_tup (n := 4) (by show 2 ≤ 3000; decide) fun d hd => ?_
  simp only [List.mem_cons, List.not_mem_nil, or_false] at hd
  rcases hd with rfl | rfl
  · exact fz_str
  · exact fz_strs (by have := (ok.pw p hp).2.2.1; omega)
theorem fz_modes {F : Fr} (ok : FrOk F) : Fz 6 (eModes F) := fz_tup (n := 5) (by rw [List.length_map]; have := ok.m2; omega) fun d hd => by
  obtain ⟨p, hp, rfl⟩ := List.mem_map.mp hd
  refine fz_tup (n := 4) (by show 2 ≤ 3000; decide) fun d hd => ?_
  simp only [List.mem_cons, List.not_mem_nil, or_false] at hd
  rcases hd with rfl | rfl
  · exact fz_str
  · exact fz_int
/-! ### the dict -/
theorem valD_put (k k' : List L2.Key) (d : PyData) : ∀ kds : KDs, valD (putD kds k d) k' = if k = k' then some d else valD kds k' := fun kds => by
  unfold putD
  have hm : ∀ kds : KDs, valD (kds.map fun kv => if kv.1 = k then (kv.1, d) else kv) k' = if (kds.any fun kv => decide (kv.1 = k)) = true ∧ k = k' then some d else valD kds k' := fun kds => by
    induction kds with
    | nil => simp [valD]
    | cons a t ih =>
      obtain ⟨ka, da⟩ := a
      unfold valD at ih ⊢
      rw [List.map_cons, List.find?_cons, List.any_cons, List.find?_cons]
      by_cases h1 : ka = k
      · subst h1
        by_cases h2 : ka = k'
        · subst h2
          simp
        · simp only [if_true, decide_eq_false h2, h2, and_false, if_false] at ih ⊢
          simpa using ih
      · by_cases h2 : ka = k'
        · subst h2
          have : ¬ k = ka := fun e => h1 e.symm
          simp [h1, this]
        · simp only [if_neg h1, decide_eq_false h2, ih, decide_eq_false h1, Bool.false_or]
  split
  · rename_i h
    rw [hm, h]
    by_cases hk : k = k' <;> simp [hk]
  · rename_i h
    have h : (kds.any fun kv => decide (kv.1 = k)) = false := Bool.eq_false_iff.mpr h
    unfold valD
    rw [List.find?_append]
    by_cases hk : k = k'
    · subst hk
      have e : kds.find? (fun kv => decide (kv.1 = k)) = none := List.find?_eq_none.mpr fun x hx => by
        have := List.any_eq_false.mp h x hx
        exact this
      rw [e]
      simp
    · simp [hk]
theorem putD_len {kds : KDs} {k : List L2.Key} {d : PyData} : (putD kds k d).length ≤ kds.length + 1 := by
  unfold putD
  split
  · rw [List.length_map]; omega
  · rw [List.length_append]; exact Nat.le_refl _
theorem kCel_inj {c d : Cel} : kCel c = kCel d ↔ c = d := by
  obtain ⟨a1, a2, a3⟩ := c
  obtain ⟨b1, b2, b3⟩ := d
  unfold kCel intK
  simp
  omega
theorem lastR_app (c d : Cel) (r : Rw) : ∀ l : List (Cel × Rw), lastR (l ++ [(d, r)]) c = if d = c then some r else lastR l c
  | [] => rfl
  | (e, q) :: l => by
    rw [List.cons_append, lastR, lastR_app c d r l, lastR]
    by_cases h : d = c
    · rw [if_pos h, if_pos h]
    · rw [if_neg h, if_neg h]
theorem lastR_mem {c : Cel} {r : Rw} : ∀ {l : List (Cel × Rw)}, lastR l c = some r → (c, r) ∈ l
  | (d, q) :: l, h => by
    rw [lastR] at h
    cases hl : lastR l c with
    | some r' =>
      rw [hl] at h
      cases h
      exact List.mem_cons_of_mem _ (lastR_mem hl)
    | none =>
      rw [hl] at h
      simp only at h
      split at h
      · rename_i e
        cases h
        rw [e]
        exact List.mem_cons_self
      · cases h
end Mn
namespace Mn
open PySem PySem.Spec PyProof.Rows L2
variable (G : Gp)
theorem law_Program_init : LawB (C_Program_init G) (b_Program_init G) N_Program_init := by
  rintro ens L post ⟨F, rows, q, dx, rfl, rfl, ok, hr, hp⟩
  have zp := fz_ports ok
  have zm := fz_modes ok
  show b_Program_init G _ [.own q, .dat (eNames F), .dat (ePorts F), .dat (eModes F), .dat (.list (rows.map ePair)), .no, .no, .no, .no] _
  simp (config := {maxSteps := 3000000}) only [b_Program_init, aSeq, aNext, aExpr, aRet, aIf, aAsg, aName, aC, aVar, aNil, aCons, aTup, aLst, aOwn, aTwo, aOp, aUn, aNary, aB, aAnd, aOr, aNot, aAndV, aNotV, aI0, aI2, aEqD, aNeD, aIsN, aAddS, aCat, aIx, aSl, aNoO, aSoO, aBetw, aLen, aIntU, aListOf, aTupOf, aFld, aProg, aFrz, aFrzD, aApp, aSetIx, aAug, aTg, aUnL, aUn2, aIsi, aNeg, aRev, aYes, aWalk, aRange, aEnT, aEnO, aFSt, aFAug, aDNew, dats, Option.map_some, List.getElem?_cons_zero, List.getElem?_cons_succ, List.set_cons_zero, List.set_cons_succ, aCall]
  refine ⟨q, 0, dx, _, rfl, rfl, by decide, ?_⟩
  refine ⟨[], _, .refl _, _, rfl, rfl, zp.1, _, .refl _, ?_⟩
  rw [zp.2]
  refine ⟨q, 0, dx, _, rfl, rfl, by show 1 < 1000; decide, ?_⟩
  refine ⟨[], _, .refl _, _, rfl, rfl, zm.1, _, .refl _, ?_⟩
  rw [zm.2]
  refine ⟨q, 0, dx, _, rfl, rfl, by show 2 < 1000; decide, ?_⟩
  have hrow : ∀ q ∈ rows, Fz 6 (eRw q.2) := fun q hq => (hr.2 q hq).2.fz ok
  have hlen := hr.1
  have hcl := cells_len ok
  refine ⟨_, .inl rfl, fun i kds L => L = [(q, OD.obj G.CP dx [("names", .dat (eNames F)), ("ports", .dat (ePorts F)), ("modes", .dat (eModes F))])] ∧ (∀ c, valD kds (kCel c) = (lastR (rows.take i) c).map eRw) ∧ kds.length ≤ i, ⟨rfl, fun c => rfl, Nat.le_refl _⟩, ?_, ?_⟩
  · rintro i d kds L hd ⟨rfl, h1, h2⟩
    have hi : i < rows.length := by simpa using (List.getElem?_eq_some_iff.mp hd).1
    have ew : rows[i]? = some rows[i] := by simp [hi]
    rw [get_map ew] at hd
    cases hd
    have hz := hrow _ (List.getElem_mem hi)
    generalize rows[i] = z at ew hz ⊢
    obtain ⟨⟨m, n, p⟩, r⟩ := z
    refine ⟨.inl rfl, _, rfl, ?_⟩
    simp only [aSeq, aNext, aExpr, aRet, aIf, aAsg, aName, aC, aVar, aNil, aCons, aTup, aLst, aOwn, aTwo, aOp, aUn, aNary, aB, aAnd, aOr, aNot, aAndV, aNotV, aI0, aI2, aEqD, aNeD, aIsN, aAddS, aCat, aIx, aSl, aNoO, aSoO, aBetw, aLen, aIntU, aListOf, aTupOf, aFld, aProg, aFrz, aFrzD, aApp, aSetIx, aAug, aTg, aUnL, aUn2, aIsi, aNeg, aRev, aYes, aWalk, aRange, aEnT, aEnO, aFSt, aFAug, aDNew, dats, Option.map_some, List.getElem?_cons_zero, List.getElem?_cons_succ, List.set_cons_zero, List.set_cons_succ, aCall, eCel]
    refine ⟨[], _, .refl _, _, rfl, rfl, hz.1, _, .refl _, [(m : Int), (n : Int), (p : Int)], _, rfl, rfl, by omega, rfl, fun c => ?_, ?_⟩
    · show valD (putD kds (kCel (m, n, p)) _) _ = _
      rw [valD_put, hz.2, List.take_succ, ew, Option.toList_some, lastR_app]
      by_cases hc : (m, n, p) = c
      · rw [if_pos (kCel_inj.mpr hc), if_pos hc]
        rfl
      · rw [if_neg (fun h => hc (kCel_inj.mp h)), if_neg hc]
        exact h1 c
    · have := putD_len (kds := kds) (k := kCel (m, n, p)) (d := fz (eRw r))
      exact Nat.le_trans this (by omega)
  · rintro kds L ⟨rfl, h1, h2⟩
    rw [List.length_map, List.take_length] at h1
    refine ⟨.inl rfl, [], rfl, by decide, fun p => ?_⟩
    refine for_j ((cellsF F).map eCel) (fun _ => True) (fun i env L => ∃ x7 x8 acc, env = [.own q, .dat (eNames F), .dat (ePorts F), .dat (eModes F), .dat (.list (rows.map ePair)), .dic kds, .own p, x7, x8] ∧ L = [(p, OD.lst acc), (q, OD.obj G.CP dx [("names", .dat (eNames F)), ("ports", .dat (ePorts F)), ("modes", .dat (eModes F))])] ∧ acc = ((cellsF F).take i).map fun c => eRw (rfOf F rows c)) (fun P h => ?_) ⟨_, _, [], rfl, rfl, rfl⟩ ?_ ?_
    · simp only [aSeq, aNext, aExpr, aRet, aIf, aAsg, aName, aC, aVar, aNil, aCons, aTup, aLst, aOwn, aTwo, aOp, aUn, aNary, aB, aAnd, aOr, aNot, aAndV, aNotV, aI0, aI2, aEqD, aNeD, aIsN, aAddS, aCat, aIx, aSl, aNoO, aSoO, aBetw, aLen, aIntU, aListOf, aTupOf, aFld, aProg, aFrz, aFrzD, aApp, aSetIx, aAug, aTg, aUnL, aUn2, aIsi, aNeg, aRev, aYes, aWalk, aRange, aEnT, aEnO, aFSt, aFAug, aDNew, dats, Option.map_some, List.getElem?_cons_zero, List.getElem?_cons_succ, List.set_cons_zero, List.set_cons_succ, aCall]
      refine ⟨q, 1, dx, _, _, rfl, rfl, rfl, ?_⟩
      refine ⟨q, 1, dx, _, _, rfl, rfl, rfl, ?_⟩
      refine ⟨[], _, .refl _, F, rfl, rfl, ok, _, .refl _, ?_⟩
      refine wk_l ?_
      exact h
    · rintro i d env L hd ⟨x7, x8, acc, rfl, rfl, ha⟩
      have hi : i < (cellsF F).length := by simpa using (List.getElem?_eq_some_iff.mp hd).1
      have ew : (cellsF F)[i]? = some (cellsF F)[i] := by simp [hi]
      rw [get_map ew] at hd
      cases hd
      have hc := mem_cells.mp (List.getElem_mem hi)
      generalize (cellsF F)[i] = c at ew hc ⊢
      have hal : acc.length < 100000 := by rw [ha, List.length_map, List.length_take]; omega
      have e1 : ((cellsF F).take (i + 1)).map (fun c => eRw (rfOf F rows c)) = acc ++ [eRw (rfOf F rows c)] := by
        rw [List.take_succ, ew, Option.toList_some, List.map_append, ha]
        rfl
      have hv := h1 c
      refine ⟨trivial, _, rfl, ?_⟩
      simp only [aSeq, aNext, aExpr, aRet, aIf, aAsg, aName, aC, aVar, aNil, aCons, aTup, aLst, aOwn, aTwo, aOp, aUn, aNary, aB, aAnd, aOr, aNot, aAndV, aNotV, aI0, aI2, aEqD, aNeD, aIsN, aAddS, aCat, aIx, aSl, aNoO, aSoO, aBetw, aLen, aIntU, aListOf, aTupOf, aFld, aProg, aFrz, aFrzD, aApp, aSetIx, aAug, aTg, aUnL, aUn2, aIsi, aNeg, aRev, aYes, aWalk, aRange, aEnT, aEnO, aFSt, aFAug, aDNew, dats, Option.map_some, List.getElem?_cons_zero, List.getElem?_cons_succ, List.set_cons_zero, List.set_cons_succ, aCall, aDIn, aDGet]
      obtain ⟨m, n, k⟩ := c
      refine ⟨kds, [(m : Int), (n : Int), (k : Int)], .inl rfl, rfl, fun h => ?_, fun h => ?_⟩
      · have h : (valD kds (kCel (m, n, k))).isSome = true := h
        rw [hv] at h
        cases hl : lastR rows (m, n, k) with
        | none => rw [hl] at h; cases h
        | some r =>
          refine ⟨p, 0, acc, rfl, rfl, kds, [(m : Int), (n : Int), (k : Int)], eRw r, .inl rfl, rfl, ?_, 0, acc, eRw r, rfl, rfl, hal, _, _, _, rfl, rfl, ?_⟩
          · show valD kds (kCel (m, n, k)) = _
            rw [hv, hl]
            rfl
          · rw [e1]
            unfold rfOf
            rw [hl]
            rfl
      · have h : (valD kds (kCel (m, n, k))).isSome = false := h
        rw [hv] at h
        cases hl : lastR rows (m, n, k) with
        | some r => rw [hl] at h; cases h
        | none =>
          refine ⟨p, 0, acc, rfl, rfl, q, 1, dx, _, _, rfl, rfl, rfl, ?_⟩
          refine ⟨[], _, .refl _, F, _, rfl, rfl, ok, hc, _, .refl _, 0, acc, _, rfl, rfl, hal, _, _, _, rfl, rfl, ?_⟩
          rw [e1]
          unfold rfOf
          rw [hl]
          rfl
    · rintro env L ⟨x7, x8, acc, rfl, rfl, ha⟩
      rw [List.length_map, List.take_length] at ha
      subst ha
      refine ⟨trivial, ?_⟩
      simp only [aSeq, aNext, aExpr, aRet, aIf, aAsg, aName, aC, aVar, aNil, aCons, aTup, aLst, aOwn, aTwo, aOp, aUn, aNary, aB, aAnd, aOr, aNot, aAndV, aNotV, aI0, aI2, aEqD, aNeD, aIsN, aAddS, aCat, aIx, aSl, aNoO, aSoO, aBetw, aLen, aIntU, aListOf, aTupOf, aFld, aProg, aFrz, aFrzD, aApp, aSetIx, aAug, aTg, aUnL, aUn2, aIsi, aNeg, aRev, aYes, aWalk, aRange, aEnT, aEnO, aFSt, aFAug, aDNew, dats, Option.map_some, List.getElem?_cons_zero, List.getElem?_cons_succ, List.set_cons_zero, List.set_cons_succ]
      refine ⟨p, 0, _, rfl, rfl, ?_⟩
      refine ⟨q, 0, dx, _, rfl, rfl, by show 3 < 1000; decide, ?_⟩
      exact hp
end Mn
namespace Mn
open PySem PySem.Spec PyProof.Rows L2
variable (G : Gp)
theorem pm_nil {L : List Cell} : L.Perm (L ++ []) := by rw [List.append_nil]
theorem zip_same {α : Type} (f g : α → PyData) : ∀ xs : List α, zipD (xs.map f) (xs.map g) = xs.map fun x => PyData.tuple [f x, g x]
  | [] => rfl
  | x :: xs => congrArg (PyData.tuple [f x, g x] :: ·) (zip_same f g xs)
theorem cells_pos {F : Fr} (ok : FrOk F) : (cellsF F).length ≠ 0 := by
  have : (0, 0, 0) ∈ cellsF F := mem_cells.mpr ⟨ok.m1, ok.n1, Nat.succ_pos _⟩
  intro h
  rw [List.length_eq_zero_iff.mp h] at this
  cases this
theorem law_with_rows : LawB (C_with_rows G) (b_with_rows G) N_with_rows := by
  rintro ens L post ⟨F, rf, rows, rfl, rfl, ok, hrf, hr, hl, hp⟩
  have hcl := cells_len ok
  show b_with_rows G _ [eProg F rf, .dat (.list (rows.map ePair)), .no, .no, .no] _
  simp (config := {maxSteps := 3000000}) only [b_with_rows, aSeq, aNext, aExpr, aRet, aIf, aAsg, aName, aC, aVar, aNil, aCons, aTup, aLst, aOwn, aTwo, aOp, aUn, aNary, aB, aAnd, aOr, aNot, aAndV, aNotV, aI0, aI2, aEqD, aNeD, aIsN, aAddS, aCat, aIx, aSl, aNoO, aSoO, aBetw, aLen, aIntU, aListOf, aTupOf, aFld, aProg, aFrz, aFrzD, aApp, aSetIx, aAug, aTg, aUnL, aUn2, aIsi, aNeg, aRev, aYes, aWalk, aRange, aEnT, aEnO, aFSt, aFAug, aDNew, dats, Option.map_some, List.getElem?_cons_zero, List.getElem?_cons_succ, List.set_cons_zero, List.set_cons_succ, aCall, aZipL, eProg, tabF]
  refine ⟨[], _, .refl _, F, rf, rfl, rfl, ok, _, .refl _, ?_⟩
  refine ⟨_, _, rfl, rfl, by simp, by rw [List.length_map]; omega, by rw [List.length_map]; exact cells_pos ok, fun d hd => ?_, ?_⟩
  · obtain ⟨c, _, rfl⟩ := List.mem_map.mp hd
    rfl
  rw [zip_same]
  refine lc_m (rows.map ePair) (fun _ => True) (fun d => d) (fun P h => wk_l h) trivial (by rw [List.length_map]; omega) (fun i d hd => ?_) ?_
  · have hi : i < rows.length := by simpa using (List.getElem?_eq_some_iff.mp hd).1
    have ew : rows[i]? = some rows[i] := by simp [hi]
    rw [get_map ew] at hd
    cases hd
    have hq := hr _ (List.getElem_mem hi)
    generalize rows[i] = z at hq ⊢
    obtain ⟨c, r⟩ := z
    refine ⟨_, rfl, fun P h => ?_⟩
    have z1 : Fz 6 (eCel c) := fz_cel
    have z2 := hq.2.fz ok
    simp only [aSeq, aNext, aExpr, aRet, aIf, aAsg, aName, aC, aVar, aNil, aCons, aTup, aLst, aOwn, aTwo, aOp, aUn, aNary, aB, aAnd, aOr, aNot, aAndV, aNotV, aI0, aI2, aEqD, aNeD, aIsN, aAddS, aCat, aIx, aSl, aNoO, aSoO, aBetw, aLen, aIntU, aListOf, aTupOf, aFld, aProg, aFrz, aFrzD, aApp, aSetIx, aAug, aTg, aUnL, aUn2, aIsi, aNeg, aRev, aYes, aWalk, aRange, aEnT, aEnO, aFSt, aFAug, aDNew, dats, Option.map_some, List.getElem?_cons_zero, List.getElem?_cons_succ, List.set_cons_zero, List.set_cons_succ, aCall]
    refine ⟨[], _, .refl _, _, rfl, rfl, z1.1, _, .refl _, [], _, .refl _, _, rfl, rfl, z2.1, _, .refl _, ?_⟩
    refine ⟨_, rfl, by show 2 ≤ 100000; decide, ?_⟩
    rw [z1.2, z2.2]
    exact h
  · refine ⟨sz_ok ?_, ?_⟩
    · rw [List.length_map, List.length_map, List.length_map]
      omega
    have e : (cellsF F).map (fun x => PyData.tuple [eCel x, eRw (rf x)]) ++ (rows.map ePair).map (fun d => d) = (baseRows F rf ++ rows).map ePair := by
      unfold baseRows
      rw [List.map_append, List.map_map, List.map_map]
      rfl
    rw [e]
    simp only [aMakeP, aSeq, aNext, aExpr, aRet, aIf, aAsg, aName, aC, aVar, aNil, aCons, aTup, aLst, aOwn, aTwo, aOp, aUn, aNary, aB, aAnd, aOr, aNot, aAndV, aNotV, aI0, aI2, aEqD, aNeD, aIsN, aAddS, aCat, aIx, aSl, aNoO, aSoO, aBetw, aLen, aIntU, aListOf, aTupOf, aFld, aProg, aFrz, aFrzD, aApp, aSetIx, aAug, aTg, aUnL, aUn2, aIsi, aNeg, aRev, aYes, aWalk, aRange, aEnT, aEnO, aFSt, aFAug, aDNew, dats, Option.map_some, List.getElem?_cons_zero, List.getElem?_cons_succ, List.set_cons_zero, List.set_cons_succ]
    intro q dx
    refine ⟨F, _, q, dx, rfl, rfl, ok, ⟨?_, ?_⟩, rfl, dx, _, _, _, _, rfl, hp⟩
    · unfold baseRows
      rw [List.length_append, List.length_map]
      omega
    · intro z hz
      rcases List.mem_append.mp hz with hz | hz
      · obtain ⟨c, hc, rfl⟩ := List.mem_map.mp hz
        exact ⟨mem_cells.mp hc, hrf c (mem_cells.mp hc)⟩
      · exact hr z hz
/-! ### the workshop -/
theorem law_Workshop_init : LawB (C_Workshop_init G) (b_Workshop_init G) N_Workshop_init := by
  rintro ens L post ⟨F, rf, q, dx, rfl, rfl, hp⟩
  show b_Workshop_init G _ [.own q, eProg F rf] _
  simp (config := {maxSteps := 3000000}) only [b_Workshop_init, aSeq, aNext, aExpr, aRet, aIf, aAsg, aName, aC, aVar, aNil, aCons, aTup, aLst, aOwn, aTwo, aOp, aUn, aNary, aB, aAnd, aOr, aNot, aAndV, aNotV, aI0, aI2, aEqD, aNeD, aIsN, aAddS, aCat, aIx, aSl, aNoO, aSoO, aBetw, aLen, aIntU, aListOf, aTupOf, aFld, aProg, aFrz, aFrzD, aApp, aSetIx, aAug, aTg, aUnL, aUn2, aIsi, aNeg, aRev, aYes, aWalk, aRange, aEnT, aEnO, aFSt, aFAug, aDNew, dats, Option.map_some, List.getElem?_cons_zero, List.getElem?_cons_succ, List.set_cons_zero, List.set_cons_succ]
  refine ⟨q, 0, dx, _, rfl, rfl, by decide, ?_⟩
  refine ⟨[], rfl, by decide, fun p1 => ?_⟩
  refine ⟨q, 1, dx, _, rfl, rfl, by show 1 < 1000; decide, ?_⟩
  refine ⟨[], rfl, by decide, fun p2 => ?_⟩
  refine ⟨q, 2, dx, _, rfl, rfl, by show 2 < 1000; decide, ?_⟩
  refine ⟨[], rfl, by decide, fun p3 => ?_⟩
  refine ⟨q, 3, dx, _, rfl, rfl, by show 3 < 1000; decide, ?_⟩
  refine ⟨[], rfl, by decide, fun p4 => ?_⟩
  refine ⟨q, 4, dx, _, rfl, rfl, by show 4 < 1000; decide, ?_⟩
  refine ⟨[], rfl, by decide, fun p5 => ?_⟩
  refine ⟨q, 5, dx, _, rfl, rfl, by show 5 < 1000; decide, ?_⟩
  refine ⟨q, 5, dx, _, rfl, rfl, by show 6 < 1000; decide, ?_⟩
  exact hp ⟨q, dx, p1, p2, p3, p4, p5⟩ rfl rfl
theorem law_Workshop_tests : LawB (C_Workshop_tests G) (b_Workshop_tests G) N_Workshop_tests := by
  rintro ens L post ⟨F, rf, a, S, rfl, rfl, ok, hp⟩
  show b_Workshop_tests G _ [.own a.q, .no, .no] _
  simp (config := {maxSteps := 3000000}) only [b_Workshop_tests, aSeq, aRet]
  refine lc_m (S.tes.map eTe) (fun L => seqOf (.own a.a4) L (S.tes.map eTe)) (fun d => match d with
    | .tuple [.tuple x, .tuple y] => .tuple [.list x, .list y]
    | d => d) (fun P h => ?_) (.inr (.inr ⟨a.a4, 4, rfl, rfl⟩)) (by have := ok.n4; rw [List.length_map]; omega) (fun i d hd => ?_) ?_
  · simp only [aSeq, aNext, aExpr, aRet, aIf, aAsg, aName, aC, aVar, aNil, aCons, aTup, aLst, aOwn, aTwo, aOp, aUn, aNary, aB, aAnd, aOr, aNot, aAndV, aNotV, aI0, aI2, aEqD, aNeD, aIsN, aAddS, aCat, aIx, aSl, aNoO, aSoO, aBetw, aLen, aIntU, aListOf, aTupOf, aFld, aProg, aFrz, aFrzD, aApp, aSetIx, aAug, aTg, aUnL, aUn2, aIsi, aNeg, aRev, aYes, aWalk, aRange, aEnT, aEnO, aFSt, aFAug, aDNew, dats, Option.map_some, List.getElem?_cons_zero, List.getElem?_cons_succ, List.set_cons_zero, List.set_cons_succ]
    exact ⟨a.q, 0, a.dx, _, _, rfl, rfl, rfl, _, .inr (.inr ⟨a.a4, 4, rfl, rfl⟩), h⟩
  · have hi : i < S.tes.length := by simpa using (List.getElem?_eq_some_iff.mp hd).1
    have ew : S.tes[i]? = some S.tes[i] := by simp [hi]
    rw [get_map ew] at hd
    cases hd
    refine ⟨_, rfl, fun P h => ?_⟩
    simp only [aSeq, aNext, aExpr, aRet, aIf, aAsg, aName, aC, aVar, aNil, aCons, aTup, aLst, aOwn, aTwo, aOp, aUn, aNary, aB, aAnd, aOr, aNot, aAndV, aNotV, aI0, aI2, aEqD, aNeD, aIsN, aAddS, aCat, aIx, aSl, aNoO, aSoO, aBetw, aLen, aIntU, aListOf, aTupOf, aFld, aProg, aFrz, aFrzD, aApp, aSetIx, aAug, aTg, aUnL, aUn2, aIsi, aNeg, aRev, aYes, aWalk, aRange, aEnT, aEnO, aFSt, aFAug, aDNew, dats, Option.map_some, List.getElem?_cons_zero, List.getElem?_cons_succ, List.set_cons_zero, List.set_cons_succ]
    exact ⟨_, rfl, by show 2 ≤ 100000; decide, h⟩
  · rw [List.map_map]
    exact hp
def enF : PyData → PyData
  | .tuple [i, _] => i
  | d => d
def enP : PyData → Bool
  | .tuple [_, .bool b] => b
  | _ => false
theorem enD_filt : ∀ (fr : List Bool) (k : Nat), ((enD k (fr.map .bool)).filter enP).map enF = ((List.range fr.length).filter fun j => fr.getD j false).map fun j => eN (k + j)
  | [], k => rfl
  | b :: fr, k => by
    rw [List.map_cons, enD, List.length_cons, List.range_succ_eq_map, List.filter_cons, List.filter_cons, List.filter_map]
    have ih := enD_filt fr (k + 1)
    have e : ((List.range fr.length).filter ((fun j => (b :: fr).getD j false) ∘ Nat.succ)).map ((fun j => eN (k + j)) ∘ Nat.succ) = ((List.range fr.length).filter fun j => fr.getD j false).map fun j => eN (k + 1 + j) := by
      have : (fun j => eN (k + j)) ∘ Nat.succ = fun j => eN (k + 1 + j) := by
        funext j
        show eN (k + (j + 1)) = eN (k + 1 + j)
        congr 1
        omega
      rw [this]
      congr 1
    cases b with
    | true =>
      rw [if_pos (show enP (.tuple [.int k, .bool true]) = true from rfl), if_pos (show (true :: fr).getD 0 false = true from rfl), List.map_cons, List.map_cons, List.map_map, e, ih]
      rfl
    | false =>
      rw [if_neg (show ¬ enP (.tuple [.int k, .bool false]) = true from Bool.false_ne_true), if_neg (show ¬ (false :: fr).getD 0 false = true from Bool.false_ne_true), List.map_map, e, ih]
theorem law_in_force : LawB (C_in_force G) (b_in_force G) N_in_force := by
  rintro ens L post ⟨F, rf, a, S, rfl, rfl, ok, hp⟩
  show b_in_force G _ [.own a.q, .no, .no] _
  simp (config := {maxSteps := 3000000}) only [b_in_force, aSeq, aRet]
  have hl : (enD 0 (S.frc.map .bool)).length ≤ 90000 := by
    rw [enD_len, List.length_map, ok.n3]
    have := ok.n2
    omega
  refine lc_j (enD 0 (S.frc.map .bool)) (fun L => ∃ j : Nat, L[j]? = some (a.a3, OD.lst (S.frc.map .bool))) enF enP (fun P h => ?_) ⟨3, rfl⟩ hl (fun i d hd => ?_) ?_
  · simp only [aSeq, aNext, aExpr, aRet, aIf, aAsg, aName, aC, aVar, aNil, aCons, aTup, aLst, aOwn, aTwo, aOp, aUn, aNary, aB, aAnd, aOr, aNot, aAndV, aNotV, aI0, aI2, aEqD, aNeD, aIsN, aAddS, aCat, aIx, aSl, aNoO, aSoO, aBetw, aLen, aIntU, aListOf, aTupOf, aFld, aProg, aFrz, aFrzD, aApp, aSetIx, aAug, aTg, aUnL, aUn2, aIsi, aNeg, aRev, aYes, aWalk, aRange, aEnT, aEnO, aFSt, aFAug, aDNew, dats, Option.map_some, List.getElem?_cons_zero, List.getElem?_cons_succ, List.set_cons_zero, List.set_cons_succ]
    exact ⟨a.q, 0, a.dx, _, _, rfl, rfl, rfl, a.a3, 3, _, rfl, rfl, h⟩
  · obtain ⟨d', h1, rfl⟩ := enD_get hd
    have hi : i < S.frc.length := by simpa using (List.getElem?_eq_some_iff.mp h1).1
    have ew : S.frc[i]? = some S.frc[i] := by simp [hi]
    rw [get_map ew] at h1
    cases h1
    exact ⟨_, rfl, fun P h => h, fun _ P h => h⟩
  · rw [enD_filt]
    have e : (fun j => eN (0 + j)) = eN := by funext j; rw [Nat.zero_add]
    rw [e]
    exact hp
theorem law_Workshop_take : LawB (C_Workshop_take G) (b_Workshop_take G) N_Workshop_take := by
  rintro ens L post ⟨F, rf, a, S, d, rfl, rfl, hl, hp⟩
  show b_Workshop_take G _ [.own a.q, .dat d] _
  simp (config := {maxSteps := 3000000}) only [b_Workshop_take, aSeq, aNext, aExpr, aRet, aIf, aAsg, aName, aC, aVar, aNil, aCons, aTup, aLst, aOwn, aTwo, aOp, aUn, aNary, aB, aAnd, aOr, aNot, aAndV, aNotV, aI0, aI2, aEqD, aNeD, aIsN, aAddS, aCat, aIx, aSl, aNoO, aSoO, aBetw, aLen, aIntU, aListOf, aTupOf, aFld, aProg, aFrz, aFrzD, aApp, aSetIx, aAug, aTg, aUnL, aUn2, aIsi, aNeg, aRev, aYes, aWalk, aRange, aEnT, aEnO, aFSt, aFAug, aDNew, dats, Option.map_some, List.getElem?_cons_zero, List.getElem?_cons_succ, List.set_cons_zero, List.set_cons_succ]
  refine ⟨a.q, 0, a.dx, _, _, rfl, rfl, rfl, ?_⟩
  refine ⟨1, _, rfl, sh_int, sh_int, ?_⟩
  rw [eqv_int]
  refine ⟨fun h => ?_, fun _ => ?_⟩
  · rw [decide_eq_true_eq] at h
    omega
  refine ⟨a.q, 0, a.dx, _, _, rfl, rfl, rfl, ?_⟩
  exact ⟨a.a1, 1, _, rfl, rfl, 1, _, d, rfl, rfl, by omega, hp⟩
end Mn
namespace Mn
open PySem PySem.Spec PyProof.Rows L2
variable (G : Gp)
theorem law_Workshop_edit : LawB (C_Workshop_edit G) (b_Workshop_edit G) N_Workshop_edit := by
  rintro ens L post ⟨F, rf, a, S, h, c, r, rfl, rfl, ok, so, hh, hc, hr, hp⟩
  have z1 : Fz 6 (eCel c) := fz_cel
  have z2 := hr.fz ok
  have n1 := so.n1
  have n2 := so.n2
  have n3 := so.n3
  show b_Workshop_edit G _ [.own a.q, .dat (.int h), .dat (eCel c), .dat (eRw r)] _
  simp (config := {maxSteps := 3000000}) only [b_Workshop_edit, aSeq, aNext, aExpr, aRet, aIf, aAsg, aName, aC, aVar, aNil, aCons, aTup, aLst, aOwn, aTwo, aOp, aUn, aNary, aB, aAnd, aOr, aNot, aAndV, aNotV, aI0, aI2, aEqD, aNeD, aIsN, aAddS, aCat, aIx, aSl, aNoO, aSoO, aBetw, aLen, aIntU, aListOf, aTupOf, aFld, aProg, aFrz, aFrzD, aApp, aSetIx, aAug, aTg, aUnL, aUn2, aIsi, aNeg, aRev, aYes, aWalk, aRange, aEnT, aEnO, aFSt, aFAug, aDNew, dats, Option.map_some, List.getElem?_cons_zero, List.getElem?_cons_succ, List.set_cons_zero, List.set_cons_succ, aCall, aMeth]
  refine ⟨[], _, .refl _, _, rfl, rfl, z1.1, _, .refl _, ?_⟩
  rw [z1.2]
  refine ⟨[], _, .refl _, _, rfl, rfl, z2.1, _, .refl _, ?_⟩
  rw [z2.2]
  refine ⟨[], _, .refl _, h, 10, rfl, rfl, by omega, by omega, _, .refl _, ?_⟩
  refine ⟨fun h => nf (show false = true from h), fun _ => ?_⟩
  refine ⟨a.q, 0, a.dx, _, _, rfl, rfl, rfl, ?_⟩
  refine ⟨[], _, .refl _, F, rf, c, rfl, rfl, ok, hc, _, .refl _, ?_⟩
  refine ⟨fun h => nf (show false = true from h), fun _ => ?_⟩
  refine ⟨a.q, 0, a.dx, _, _, rfl, rfl, rfl, ?_⟩
  refine ⟨[], _, .refl _, F, rf, c, r, rfl, rfl, ok, hc, hr, _, .refl _, ?_⟩
  refine ⟨fun h => nf (show false = true from h), fun _ => ?_⟩
  refine ⟨a.q, 0, a.dx, _, rfl, rfl, rfl, _, rfl, by show 4 ≤ 100000; decide, ?_⟩
  refine ⟨_, [], pm_nil, F, rf, a, S, _, rfl, rfl, n1, _, pm_nil, ?_⟩
  refine ⟨a.q, 0, a.dx, _, _, rfl, rfl, rfl, a.a2, 2, _, rfl, rfl, ?_⟩
  refine ⟨_, rfl, by show 3 ≤ 100000; decide, 2, _, _, rfl, rfl, by rw [List.length_map]; show S.eds.length < 100000; omega, ?_⟩
  refine ⟨a.q, 0, a.dx, _, _, rfl, rfl, rfl, a.a3, 3, _, rfl, rfl, 3, _, _, rfl, rfl, by rw [List.length_map]; show S.frc.length < 100000; omega, ?_⟩
  refine ⟨a.q, 0, a.dx, _, _, rfl, rfl, rfl, 2, _, rfl, ?_⟩
  have e := hp (.int (((S.eds.map eEd ++ [PyData.tuple [.int h, eCel c, eRw r]]).length : Int) - 1))
  simp only [shC, shF, List.map_append, List.map_cons, List.map_nil] at e
  exact e
theorem law_Workshop_turn : LawB (C_Workshop_turn G) (b_Workshop_turn G) N_Workshop_turn := by
  rintro ens L post ⟨F, rf, a, S, w, n, b, rfl, rfl, so, hb, hp⟩
  have n1 := so.n1
  have hn : n < S.frc.length := (List.getElem?_eq_some_iff.mp hb).1
  have n3 := so.n3
  show b_Workshop_turn G _ [.own a.q, .dat (.str w), .dat (.int n), .dat (.bool b)] _
  simp (config := {maxSteps := 3000000}) only [b_Workshop_turn, aSeq, aNext, aExpr, aRet, aIf, aAsg, aName, aC, aVar, aNil, aCons, aTup, aLst, aOwn, aTwo, aOp, aUn, aNary, aB, aAnd, aOr, aNot, aAndV, aNotV, aI0, aI2, aEqD, aNeD, aIsN, aAddS, aCat, aIx, aSl, aNoO, aSoO, aBetw, aLen, aIntU, aListOf, aTupOf, aFld, aProg, aFrz, aFrzD, aApp, aSetIx, aAug, aTg, aUnL, aUn2, aIsi, aNeg, aRev, aYes, aWalk, aRange, aEnT, aEnO, aFSt, aFAug, aDNew, dats, Option.map_some, List.getElem?_cons_zero, List.getElem?_cons_succ, List.set_cons_zero, List.set_cons_succ, aCall, aMeth]
  refine ⟨a.q, 0, a.dx, _, _, rfl, rfl, rfl, 2, _, rfl, ?_⟩
  refine ⟨[], _, .refl _, n, _, rfl, rfl, by omega, by rw [List.length_map]; omega, _, .refl _, ?_⟩
  refine ⟨fun h => nf (show false = true from h), fun _ => ?_⟩
  refine ⟨a.q, 0, a.dx, _, _, rfl, rfl, rfl, 3, _, .bool (!b), rfl, atI_nat (get_map hb), sh_bool, sh_bool, ?_⟩
  rw [eqv_bool]
  refine ⟨fun h => ?_, fun _ => ?_⟩
  · rw [decide_eq_true_eq] at h
    cases b <;> cases h
  refine ⟨a.q, 0, a.dx, _, rfl, rfl, rfl, _, rfl, by show 2 ≤ 100000; decide, ?_⟩
  refine ⟨_, [], pm_nil, F, rf, a, S, _, rfl, rfl, n1, _, pm_nil, ?_⟩
  refine ⟨a.q, 0, a.dx, _, _, rfl, rfl, rfl, a.a3, n, _, 3, n, _, rfl, rfl, rfl, rfl, ?_, ?_⟩
  · unfold ixN
    rw [List.length_map, if_pos (by omega : (0 : Int) ≤ n), if_pos (by omega : (n : Int) < S.frc.length)]
    rfl
  · have e := hp
    simp only [shC, shF, List.map_set] at e
    exact e
theorem law_Workshop_undo : LawB (C_Workshop_undo G) (b_Workshop_undo G) N_Workshop_undo := by
  rintro ens L post ⟨F, rf, a, S, n, rfl, rfl, so, hb, hp⟩
  show b_Workshop_undo G _ [.own a.q, .dat (.int n)] _
  simp (config := {maxSteps := 3000000}) only [b_Workshop_undo, aSeq, aNext, aExpr, aRet, aIf, aAsg, aName, aC, aVar, aNil, aCons, aTup, aLst, aOwn, aTwo, aOp, aUn, aNary, aB, aAnd, aOr, aNot, aAndV, aNotV, aI0, aI2, aEqD, aNeD, aIsN, aAddS, aCat, aIx, aSl, aNoO, aSoO, aBetw, aLen, aIntU, aListOf, aTupOf, aFld, aProg, aFrz, aFrzD, aApp, aSetIx, aAug, aTg, aUnL, aUn2, aIsi, aNeg, aRev, aYes, aWalk, aRange, aEnT, aEnO, aFSt, aFAug, aDNew, dats, Option.map_some, List.getElem?_cons_zero, List.getElem?_cons_succ, List.set_cons_zero, List.set_cons_succ, aMeth]
  refine ⟨a.q, 0, a.dx, _, rfl, rfl, rfl, ?_⟩
  exact ⟨_, [], pm_nil, F, rf, a, S, _, n, false, rfl, rfl, so, hb, _, pm_nil, hp⟩
theorem law_Workshop_redo : LawB (C_Workshop_redo G) (b_Workshop_redo G) N_Workshop_redo := by
  rintro ens L post ⟨F, rf, a, S, n, rfl, rfl, so, hb, hp⟩
  show b_Workshop_redo G _ [.own a.q, .dat (.int n)] _
  simp (config := {maxSteps := 3000000}) only [b_Workshop_redo, aSeq, aNext, aExpr, aRet, aIf, aAsg, aName, aC, aVar, aNil, aCons, aTup, aLst, aOwn, aTwo, aOp, aUn, aNary, aB, aAnd, aOr, aNot, aAndV, aNotV, aI0, aI2, aEqD, aNeD, aIsN, aAddS, aCat, aIx, aSl, aNoO, aSoO, aBetw, aLen, aIntU, aListOf, aTupOf, aFld, aProg, aFrz, aFrzD, aApp, aSetIx, aAug, aTg, aUnL, aUn2, aIsi, aNeg, aRev, aYes, aWalk, aRange, aEnT, aEnO, aFSt, aFAug, aDNew, dats, Option.map_some, List.getElem?_cons_zero, List.getElem?_cons_succ, List.set_cons_zero, List.set_cons_succ, aMeth]
  refine ⟨a.q, 0, a.dx, _, rfl, rfl, rfl, ?_⟩
  exact ⟨_, [], pm_nil, F, rf, a, S, _, n, true, rfl, rfl, so, hb, _, pm_nil, hp⟩
theorem fz_ev {n : Nat} {e : Ev} : Fz (n + 1) (eEv e) := fz_tup (by show 2 ≤ 3000; decide) fun d hd => by
  simp only [List.mem_cons, List.not_mem_nil, or_false] at hd
  rcases hd with rfl | rfl
  · exact fz_str
  · exact fz_int
theorem fz_tr {n : Nat} {t : Tr} : Fz (n + 1) (eTr t) := fz_tup (by show 3 ≤ 3000; decide) fun d hd => by
  simp only [List.mem_cons, List.not_mem_nil, or_false] at hd
  rcases hd with rfl | rfl | rfl
  · exact fz_str
  · exact fz_str
  · exact fz_int
theorem fz_out {n : Nat} {o : Out} (h : o.length ≤ 3000) : Fz (n + 2) (eOut o) := fz_tup (by rw [List.length_map]; exact h) fun d hd => by
  obtain ⟨w, _, rfl⟩ := List.mem_map.mp hd
  exact fz_tr
theorem fz_lst {n : Nat} {ds : List PyData} (hl : ds.length ≤ 3000) (h : ∀ d ∈ ds, Fz n d) : dOk (n + 1) (.list ds) ∧ fz (.list ds) = .tuple ds := by
  refine ⟨⟨hl, fun d hd => (h d hd).1⟩, ?_⟩
  rw [fz, fzL_eq]
  congr 1
  have : ds.map fz = ds.map id := List.map_congr_left fun d hd => (h d hd).2
  rw [this, List.map_id]
theorem law_Workshop_test : LawB (C_Workshop_test G) (b_Workshop_test G) N_Workshop_test := by
  rintro ens L post ⟨F, rf, a, S, ⟨es, os⟩, rfl, rfl, ok, so, ⟨t1, t2, t3, t4, t5⟩, hp⟩
  simp only at t1 t2 t3 t4 t5
  have n1 := so.n1
  have n4 := so.n4
  have n5 := so.n5
  have z1 := fz_lst (n := 5) (ds := es.map eEv) (by rw [List.length_map]; omega) fun d hd => by
    obtain ⟨w, _, rfl⟩ := List.mem_map.mp hd
    exact fz_ev
  have z2 := fz_lst (n := 5) (ds := os.map eOut) (by rw [List.length_map]; omega) fun d hd => by
    obtain ⟨w, hw, rfl⟩ := List.mem_map.mp hd
    exact fz_out (by have := (t5 w hw).1; omega)
  show b_Workshop_test G _ [.own a.q, .dat (.list (es.map eEv)), .dat (.list (os.map eOut)), .no, .no] _
  simp (config := {maxSteps := 3000000}) only [b_Workshop_test, aSeq, aNext, aExpr, aRet, aIf, aAsg, aName, aC, aVar, aNil, aCons, aTup, aLst, aOwn, aTwo, aOp, aUn, aNary, aB, aAnd, aOr, aNot, aAndV, aNotV, aI0, aI2, aEqD, aNeD, aIsN, aAddS, aCat, aIx, aSl, aNoO, aSoO, aBetw, aLen, aIntU, aListOf, aTupOf, aFld, aProg, aFrz, aFrzD, aApp, aSetIx, aAug, aTg, aUnL, aUn2, aIsi, aNeg, aRev, aYes, aWalk, aRange, aEnT, aEnO, aFSt, aFAug, aDNew, dats, Option.map_some, List.getElem?_cons_zero, List.getElem?_cons_succ, List.set_cons_zero, List.set_cons_succ, aCall, aMeth]
  refine ⟨[], _, .refl _, _, rfl, rfl, z1.1, _, .refl _, ?_⟩
  rw [z1.2]
  refine ⟨[], _, .refl _, _, rfl, rfl, z2.1, _, .refl _, ?_⟩
  rw [z2.2]
  refine ⟨fun h => nf (show false = true from h), fun _ => ?_⟩
  refine ⟨sh_int, sh_int, ?_⟩
  rw [eqv_int]
  refine ⟨fun h => ?_, fun _ => ?_⟩
  · rw [decide_eq_true_eq, List.length_map] at h
    omega
  refine all_true (t := .nm 3) (te := aCall (C_is_event G) (aCons (aFld G.CW "_base" (aVar 0)) (aCons (aVar 3) aNil))) (vs := [3]) (es.map eEv) (fun _ => True) (fun P h => wk_t h) trivial (fun i d hd => ?_) ?_
  · have hi : i < es.length := by simpa using (List.getElem?_eq_some_iff.mp hd).1
    have ew : es[i]? = some es[i] := by simp [hi]
    rw [get_map ew] at hd
    cases hd
    refine ⟨_, rfl, fun P h => ?_⟩
    simp only [aSeq, aNext, aExpr, aRet, aIf, aAsg, aName, aC, aVar, aNil, aCons, aTup, aLst, aOwn, aTwo, aOp, aUn, aNary, aB, aAnd, aOr, aNot, aAndV, aNotV, aI0, aI2, aEqD, aNeD, aIsN, aAddS, aCat, aIx, aSl, aNoO, aSoO, aBetw, aLen, aIntU, aListOf, aTupOf, aFld, aProg, aFrz, aFrzD, aApp, aSetIx, aAug, aTg, aUnL, aUn2, aIsi, aNeg, aRev, aYes, aWalk, aRange, aEnT, aEnO, aFSt, aFAug, aDNew, dats, Option.map_some, List.getElem?_cons_zero, List.getElem?_cons_succ, List.set_cons_zero, List.set_cons_succ, aCall]
    refine ⟨a.q, 0, a.dx, _, _, rfl, rfl, rfl, ?_⟩
    exact ⟨[], _, .refl _, F, rf, es[i], rfl, rfl, ok, t4 _ (List.getElem_mem hi), _, .refl _, h⟩
  refine ⟨fun h => nf (show false = true from h), fun _ => ?_⟩
  refine ⟨fun h => nf (show false = true from h), fun _ => ?_⟩
  refine ⟨sh_int, sh_int, ?_⟩
  rw [eqv_int]
  refine ⟨fun h => ?_, fun _ => ?_⟩
  · rw [List.length_map, List.length_map, t3, decide_eq_true rfl] at h
    cases h
  refine all_true (t := .nm 4) (te := aCall (C_is_output G) (aCons (aFld G.CW "_base" (aVar 0)) (aCons (aVar 4) aNil))) (vs := [4]) (os.map eOut) (fun _ => True) (fun P h => wk_t h) trivial (fun i d hd => ?_) ?_
  · have hi : i < os.length := by simpa using (List.getElem?_eq_some_iff.mp hd).1
    have ew : os[i]? = some os[i] := by simp [hi]
    rw [get_map ew] at hd
    cases hd
    refine ⟨_, rfl, fun P h => ?_⟩
    simp only [aSeq, aNext, aExpr, aRet, aIf, aAsg, aName, aC, aVar, aNil, aCons, aTup, aLst, aOwn, aTwo, aOp, aUn, aNary, aB, aAnd, aOr, aNot, aAndV, aNotV, aI0, aI2, aEqD, aNeD, aIsN, aAddS, aCat, aIx, aSl, aNoO, aSoO, aBetw, aLen, aIntU, aListOf, aTupOf, aFld, aProg, aFrz, aFrzD, aApp, aSetIx, aAug, aTg, aUnL, aUn2, aIsi, aNeg, aRev, aYes, aWalk, aRange, aEnT, aEnO, aFSt, aFAug, aDNew, dats, Option.map_some, List.getElem?_cons_zero, List.getElem?_cons_succ, List.set_cons_zero, List.set_cons_succ, aCall]
    refine ⟨a.q, 0, a.dx, _, _, rfl, rfl, rfl, ?_⟩
    exact ⟨[], _, .refl _, F, rf, os[i], rfl, rfl, ok, t5 _ (List.getElem_mem hi), _, .refl _, h⟩
  refine ⟨fun h => nf (show false = true from h), fun _ => ?_⟩
  simp only [aSeq, aNext, aExpr, aRet, aIf, aAsg, aName, aC, aVar, aNil, aCons, aTup, aLst, aOwn, aTwo, aOp, aUn, aNary, aB, aAnd, aOr, aNot, aAndV, aNotV, aI0, aI2, aEqD, aNeD, aIsN, aAddS, aCat, aIx, aSl, aNoO, aSoO, aBetw, aLen, aIntU, aListOf, aTupOf, aFld, aProg, aFrz, aFrzD, aApp, aSetIx, aAug, aTg, aUnL, aUn2, aIsi, aNeg, aRev, aYes, aWalk, aRange, aEnT, aEnO, aFSt, aFAug, aDNew, dats, Option.map_some, List.getElem?_cons_zero, List.getElem?_cons_succ, List.set_cons_zero, List.set_cons_succ, aCall]
  refine ⟨a.q, 0, a.dx, _, rfl, rfl, rfl, _, rfl, by show 3 ≤ 100000; decide, ?_⟩
  refine ⟨_, [], pm_nil, F, rf, a, S, _, rfl, rfl, n1, _, pm_nil, ?_⟩
  refine ⟨a.q, 0, a.dx, _, _, rfl, rfl, rfl, a.a4, 4, _, rfl, rfl, ?_⟩
  refine ⟨_, rfl, by show 2 ≤ 100000; decide, 4, _, _, rfl, rfl, by rw [List.length_map]; show S.tes.length < 100000; omega, ?_⟩
  refine ⟨a.q, 0, a.dx, _, _, rfl, rfl, rfl, a.a5, 5, _, rfl, rfl, 5, _, _, rfl, rfl, by rw [List.length_map]; show S.las.length < 100000; omega, ?_⟩
  refine ⟨a.q, 0, a.dx, _, _, rfl, rfl, rfl, 4, _, rfl, ?_⟩
  have e := hp (.int (((S.tes.map eTe ++ [PyData.tuple [.tuple (es.map eEv), .tuple (os.map eOut)]]).length : Int) - 1))
  simp only [shC, shF, List.map_append, List.map_cons, List.map_nil] at e
  exact e
/-! ### programs of the workshop -/
theorem inF_lt {S : Sh} {n : Nat} (h : n ∈ inF S) : n < S.frc.length := by
  unfold inF at h
  exact List.mem_range.mp (List.mem_filter.mp h).1
theorem inF_len (S : Sh) : (inF S).length ≤ S.frc.length := by
  unfold inF
  exact Nat.le_trans (List.length_filter_le _ _) (by rw [List.length_range]; exact Nat.le_refl _)
theorem law_Workshop_program_with : LawB (C_Workshop_program_with G) (b_Workshop_program_with G) N_Workshop_program_with := by
  rintro ens L post ⟨F, rf, a, S, ns, rfl, rfl, ok, hrf, so, hn, hl, hp⟩
  show b_Workshop_program_with G _ [.own a.q, .dat (.list (ns.map eN)), .no] _
  simp (config := {maxSteps := 3000000}) only [b_Workshop_program_with, aSeq, aNext, aExpr, aRet, aIf, aAsg, aName, aC, aVar, aNil, aCons, aTup, aLst, aOwn, aTwo, aOp, aUn, aNary, aB, aAnd, aOr, aNot, aAndV, aNotV, aI0, aI2, aEqD, aNeD, aIsN, aAddS, aCat, aIx, aSl, aNoO, aSoO, aBetw, aLen, aIntU, aListOf, aTupOf, aFld, aProg, aFrz, aFrzD, aApp, aSetIx, aAug, aTg, aUnL, aUn2, aIsi, aNeg, aRev, aYes, aWalk, aRange, aEnT, aEnO, aFSt, aFAug, aDNew, dats, Option.map_some, List.getElem?_cons_zero, List.getElem?_cons_succ, List.set_cons_zero, List.set_cons_succ, aCall]
  refine ⟨a.q, 0, a.dx, _, _, rfl, rfl, rfl, ?_⟩
  have he : ∀ n ∈ ns, S.eds[n]? = some (S.eds.getD n (0, (0, 0, 0), (0, [], []))) := fun n h => getD_some (hn n h)
  refine lc_r (ns.map eN) ((ns.map (edR S)).map ePair) (fun _ => True) (fun P h => wk_l h) trivial (by rw [List.length_map]; omega) (by simp) (fun i d q hd hq => ?_) ?_
  · have hi : i < ns.length := by simpa using (List.getElem?_eq_some_iff.mp hd).1
    have ew : ns[i]? = some ns[i] := by simp [hi]
    rw [get_map ew] at hd
    cases hd
    rw [get_map (get_map ew)] at hq
    cases hq
    have h1 := he _ (List.getElem_mem hi)
    refine ⟨_, rfl, fun P h => ?_⟩
    simp only [aSeq, aNext, aExpr, aRet, aIf, aAsg, aName, aC, aVar, aNil, aCons, aTup, aLst, aOwn, aTwo, aOp, aUn, aNary, aB, aAnd, aOr, aNot, aAndV, aNotV, aI0, aI2, aEqD, aNeD, aIsN, aAddS, aCat, aIx, aSl, aNoO, aSoO, aBetw, aLen, aIntU, aListOf, aTupOf, aFld, aProg, aFrz, aFrzD, aApp, aSetIx, aAug, aTg, aUnL, aUn2, aIsi, aNeg, aRev, aYes, aWalk, aRange, aEnT, aEnO, aFSt, aFAug, aDNew, dats, Option.map_some, List.getElem?_cons_zero, List.getElem?_cons_succ, List.set_cons_zero, List.set_cons_succ]
    refine ⟨a.q, 0, a.dx, _, _, rfl, rfl, rfl, 2, _, _, rfl, atI_nat (get_map h1), ?_⟩
    refine ⟨by show ¬ (HT.sIx 3 0 (some 1) = 0 ∧ HT.sIx 3 3 none = 3); decide, rfl, ?_⟩
    exact h
  · refine ⟨[], _, .refl _, F, rf, ns.map (edR S), rfl, rfl, ok, hrf, ?_, by rw [List.length_map]; exact hl, _, .refl _, hp⟩
    intro q hq
    obtain ⟨n, h1, rfl⟩ := List.mem_map.mp hq
    exact so.ed _ (List.mem_of_getElem? (he n h1))
theorem law_Workshop_program : LawB (C_Workshop_program G) (b_Workshop_program G) N_Workshop_program := by
  rintro ens L post ⟨F, rf, a, S, rfl, rfl, ok, hrf, so, hp⟩
  have n2 := so.n2
  have n3 := so.n3
  have h1 := inF_len S
  show b_Workshop_program G _ [.own a.q] _
  simp (config := {maxSteps := 3000000}) only [b_Workshop_program, aSeq, aNext, aExpr, aRet, aIf, aAsg, aName, aC, aVar, aNil, aCons, aTup, aLst, aOwn, aTwo, aOp, aUn, aNary, aB, aAnd, aOr, aNot, aAndV, aNotV, aI0, aI2, aEqD, aNeD, aIsN, aAddS, aCat, aIx, aSl, aNoO, aSoO, aBetw, aLen, aIntU, aListOf, aTupOf, aFld, aProg, aFrz, aFrzD, aApp, aSetIx, aAug, aTg, aUnL, aUn2, aIsi, aNeg, aRev, aYes, aWalk, aRange, aEnT, aEnO, aFSt, aFAug, aDNew, dats, Option.map_some, List.getElem?_cons_zero, List.getElem?_cons_succ, List.set_cons_zero, List.set_cons_succ, aMeth, aProp]
  refine ⟨a.q, 0, a.dx, _, rfl, rfl, rfl, ?_⟩
  refine ⟨a.q, 0, a.dx, _, rfl, rfl, _, [], pm_nil, F, rf, a, S, rfl, rfl, so, _, pm_nil, ?_⟩
  exact ⟨_, [], pm_nil, F, rf, a, S, inF S, rfl, rfl, ok, hrf, so, fun n hn => by have := inF_lt hn; omega, by omega, _, pm_nil, hp⟩
end Mn
namespace Mn
open PySem PySem.Spec PyProof.Rows L2
variable (G : Gp)
theorem any_l {α : Type} {w : AI} {t : Tg} {te : AE} {vs : List Nat} {env : List En} {L : List Cell} {post : En → List Cell → Prop} (xs : List α) (f : α → PyData) (kp : List Cell → Prop) (p : α → Bool) (hw : ∀ P : List PyData → (List Cell → Prop) → List Cell → Prop, P (xs.map f) kp L → w env L P) (hk : kp L)
    (h : ∀ (i : Nat) (x : α), xs[i]? = some x → ∃ env', bindT t (f x) (wipeE env vs) = some env' ∧ ∀ P : En → List Cell → Prop, P (.dat (.bool (p x))) L → te env' L P) (hp : post (.dat (.bool (xs.any p))) L) : aGen false w t te vs env L post := by
  refine hw _ ⟨fun i L' => L' = L ∧ (xs.take i).any p = false, ⟨rfl, rfl⟩, ?_, ?_⟩
  · rintro i d L' hd ⟨rfl, hn⟩
    have hi : i < xs.length := by simpa using (List.getElem?_eq_some_iff.mp hd).1
    have ew : xs[i]? = some xs[i] := by simp [hi]
    rw [get_map ew] at hd
    cases hd
    generalize xs[i] = x at ew ⊢
    obtain ⟨env', h1, h2⟩ := h i x ew
    refine ⟨hk, env', h1, h2 _ ⟨p x, rfl, fun z => ⟨rfl, ?_⟩, fun z => ?_⟩⟩
    · rw [List.take_succ, ew, List.any_append, hn, Option.toList_some]
      simp [z]
    · have z2 : p x = true := by simpa using z
      have e : xs.any p = true := List.any_eq_true.mpr ⟨x, List.mem_of_getElem? ew, z2⟩
      rw [e] at hp
      rw [z2]
      exact hp
  · rintro L' ⟨rfl, hn⟩
    rw [List.length_map, List.take_length] at hn
    rw [hn] at hp
    exact ⟨hk, hp⟩
theorem lc_l {α : Type} {w : AI} {t : Tg} {tt : AT} {te : AE} {vs : List Nat} {env : List En} {L : List Cell} {post : En → List Cell → Prop} (xs : List α) (f g : α → PyData) (p : α → Bool) (kp : List Cell → Prop) (hw : ∀ P : List PyData → (List Cell → Prop) → List Cell → Prop, P (xs.map f) kp L → w env L P) (hk : kp L) (hl : xs.length ≤ 90000)
    (h : ∀ (i : Nat) (x : α), xs[i]? = some x → ∃ env', bindT t (f x) (wipeE env vs) = some env' ∧ (∀ P : Bool → List Cell → Prop, P (p x) L → tt env' L P) ∧ (p x = true → ∀ P : En → List Cell → Prop, P (.dat (g x)) L → te env' L P))
    (hp : post (.dat (.list ((xs.filter p).map g))) L) : aLc w t tt te vs env L post := by
  refine hw _ ⟨fun i acc L' => L' = L ∧ acc = ((xs.take i).filter p).map g, ⟨rfl, rfl⟩, ?_, ?_⟩
  · rintro i d acc L' hd ⟨rfl, rfl⟩
    have hi : i < xs.length := by simpa using (List.getElem?_eq_some_iff.mp hd).1
    have ew : xs[i]? = some xs[i] := by simp [hi]
    rw [get_map ew] at hd
    cases hd
    generalize xs[i] = x at ew ⊢
    obtain ⟨env', h1, h2, h3⟩ := h i x ew
    have e : xs.take (i + 1) = xs.take i ++ [x] := by rw [List.take_succ, ew]; rfl
    refine ⟨hk, env', h1, h2 _ ⟨fun hp => h3 hp _ ⟨g x, rfl, ?_, rfl, ?_⟩, fun hp => ⟨rfl, ?_⟩⟩⟩
    · have a := List.length_filter_le p (xs.take i)
      have b : (xs.take i).length ≤ xs.length := by rw [List.length_take]; exact Nat.min_le_right _ _
      rw [List.length_map]
      omega
    · rw [e, List.filter_append, List.filter_cons_of_pos hp, List.filter_nil, List.map_append, List.map_singleton]
    · rw [e, List.filter_append, List.filter_cons_of_neg (by rw [hp]; exact Bool.false_ne_true), List.filter_nil, List.append_nil]
  · rintro acc L' ⟨rfl, rfl⟩
    rw [List.length_map, List.take_length]
    exact ⟨hk, hp⟩
/-- a loop over the data of typed things -/
theorem for_l {α : Type} {w : AI} {t : Tg} {body : AS} {D : AD} {env : List En} {L : List Cell} (xs : List α) (f : α → PyData) (kp : List Cell → Prop) (J : Nat → List En → List Cell → Prop) (hw : ∀ P : List PyData → (List Cell → Prop) → List Cell → Prop, P (xs.map f) kp L → w env L P) (h0 : J 0 env L)
    (hs : ∀ i x env L, xs[i]? = some x → J i env L → kp L ∧ ∃ env', bindT t (f x) env = some env' ∧ body { D with nx := J (i + 1), ct := J (i + 1), bk := D.nx } env' L)
    (hd : ∀ env L, J xs.length env L → kp L ∧ D.nx env L) : aFor w t body D env L := for_j (xs.map f) kp J hw h0 (fun i d env L h hj => by
      have hi : i < xs.length := by simpa using (List.getElem?_eq_some_iff.mp h).1
      have ew : xs[i]? = some xs[i] := by simp [hi]
      rw [get_map ew] at h
      cases h
      exact hs i _ env L ew hj) (fun env L hj => hd env L (by rwa [List.length_map] at hj))
theorem ne_rw {r s : Rw} : (!PyData.eqv (eRw r) (eRw s)) = decide (r ≠ s) := by
  have h := dec_of (eqv_rw (c := r) (d := s))
  rw [h]
  by_cases e : r = s <;> simp [e]
theorem law_Workshop_is_stale : LawB (C_Workshop_is_stale G) (b_Workshop_is_stale G) N_Workshop_is_stale := by
  rintro ens L post ⟨F, rf, a, S, rf', n, l, rfl, rfl, ok, hrf, so, hn, hp⟩
  show b_Workshop_is_stale G _ [.own a.q, eProg F rf', .dat (.int n), .no, .no, .no] _
  simp (config := {maxSteps := 3000000}) only [b_Workshop_is_stale, aSeq, aNext, aExpr, aRet, aIf, aAsg, aName, aC, aVar, aNil, aCons, aTup, aLst, aOwn, aTwo, aOp, aUn, aNary, aB, aAnd, aOr, aNot, aAndV, aNotV, aI0, aI2, aEqD, aNeD, aIsN, aAddS, aCat, aIx, aSl, aNoO, aSoO, aBetw, aLen, aIntU, aListOf, aTupOf, aFld, aProg, aFrz, aFrzD, aApp, aSetIx, aAug, aTg, aUnL, aUn2, aIsi, aNeg, aRev, aYes, aWalk, aRange, aEnT, aEnO, aFSt, aFAug, aDNew, dats, Option.map_some, List.getElem?_cons_zero, List.getElem?_cons_succ, List.set_cons_zero, List.set_cons_succ]
  refine ⟨a.q, 0, a.dx, _, _, rfl, rfl, rfl, 5, _, _, rfl, atI_nat (get_map hn), ?_⟩
  have hla := so.la l (List.mem_of_getElem? hn)
  cases l with
  | none => exact ⟨fun _ => hp, fun h => nf (show false = true from h.symm)⟩
  | some x =>
    obtain ⟨ps, b⟩ := x
    have hq := hla ps b rfl
    refine ⟨fun h => nf (show false = true from h), fun _ => ?_⟩
    refine any_l ps ePair (fun _ => True) (fun q => decide (rf' q.1 ≠ q.2)) (fun P h => ?_) trivial (fun i q hq2 => ?_) hp
    · exact ⟨_, rfl, wk_l h⟩
    · have h1 := hq q (List.mem_of_getElem? hq2)
      obtain ⟨c, r⟩ := q
      refine ⟨_, rfl, fun P h => ?_⟩
      simp only [aSeq, aNext, aExpr, aRet, aIf, aAsg, aName, aC, aVar, aNil, aCons, aTup, aLst, aOwn, aTwo, aOp, aUn, aNary, aB, aAnd, aOr, aNot, aAndV, aNotV, aI0, aI2, aEqD, aNeD, aIsN, aAddS, aCat, aIx, aSl, aNoO, aSoO, aBetw, aLen, aIntU, aListOf, aTupOf, aFld, aProg, aFrz, aFrzD, aApp, aSetIx, aAug, aTg, aUnL, aUn2, aIsi, aNeg, aRev, aYes, aWalk, aRange, aEnT, aEnO, aFSt, aFAug, aDNew, dats, Option.map_some, List.getElem?_cons_zero, List.getElem?_cons_succ, List.set_cons_zero, List.set_cons_succ, aCall]
      refine ⟨[], _, .refl _, F, rf', c, rfl, rfl, ok, h1.1, _, .refl _, ?_⟩
      refine ⟨sh_of (lq_rw ok (hrf c h1.1)), sh_of (lq_rw ok h1.2), ?_⟩
      rw [ne_rw]
      exact h
theorem rfOf_ok {F : Fr} {rows : List (Cel × Rw)} (ok : FrOk F) (h : ∀ q ∈ rows, CelOk F q.1 ∧ RwOk F q.1 q.2) : RfOk F (rfOf F rows) := fun c hc => by
  unfold rfOf
  cases hl : lastR rows c with
  | some r =>
    exact (h _ (lastR_mem hl)).2
  | none =>
    obtain ⟨m, n, p⟩ := c
    have e : kn F (m, n, p) = F.held m + 1 - p % 2 := rfl
    show RwOk F (m, n, p) (idleR F (m, n, p))
    have hh := ok.held_le m
    have hp : p < 2 * F.held m + 1 := hc.2.2
    unfold idleR
    simp only
    split
    · rename_i h1
      refine ⟨hc.1, List.pairwise_lt_range, fun k hk => ?_, by simp, by simp, fun w hw => by cases hw⟩
      have := List.mem_range.mp hk
      rw [e]
      omega
    · rename_i h1
      refine ⟨hc.1, List.Pairwise.filter _ List.pairwise_lt_range, fun k hk => ?_, ?_, by simp, fun w hw => by cases hw⟩
      · have := List.mem_range.mp (List.mem_filter.mp hk).1
        rw [e]
        omega
      · show ((List.range (F.held m + 1)).filter fun k => decide (k ≠ p / 2)).length = F.held m
        have key : ∀ h, h < 5 → ∀ q, q < 5 → q ≤ h → ((List.range (h + 1)).filter fun k => decide (k ≠ q)).length = h := by decide
        exact key _ (by omega) _ (by omega) (by omega)
theorem base_ok {F : Fr} {rf : Cel → Rw} (hrf : RfOk F rf) : ∀ q ∈ baseRows F rf, CelOk F q.1 ∧ RwOk F q.1 q.2 := fun q hq => by
  obtain ⟨c, hc, rfl⟩ := List.mem_map.mp hq
  exact ⟨mem_cells.mp hc, hrf c (mem_cells.mp hc)⟩
theorem edR_ok {F : Fr} {S : Sh} (so : ShOk F S) {n : Nat} (h : n < S.eds.length) : CelOk F (edR S n).1 ∧ RwOk F (edR S n).1 (edR S n).2 := so.ed _ (getD_mem h)
theorem rfS_ok {F : Fr} {rf : Cel → Rw} {S : Sh} (ok : FrOk F) (hrf : RfOk F rf) (so : ShOk F S) : RfOk F (rfS F rf S) := rfOf_ok ok fun q hq => by
  rcases List.mem_append.mp hq with hq | hq
  · exact base_ok hrf q hq
  · obtain ⟨n, hn, rfl⟩ := List.mem_map.mp hq
    exact edR_ok so (by have := inF_lt hn; rw [so.n3] at this; exact this)
theorem law_Workshop_stale : LawB (C_Workshop_stale G) (b_Workshop_stale G) N_Workshop_stale := by
  rintro ens L post ⟨F, rf, a, S, rfl, rfl, ok, hrf, so, hp⟩
  have n4 := so.n4
  have n5 := so.n5
  show b_Workshop_stale G _ [.own a.q, .no, .no] _
  simp (config := {maxSteps := 3000000}) only [b_Workshop_stale, aSeq, aNext, aExpr, aRet, aIf, aAsg, aName, aC, aVar, aNil, aCons, aTup, aLst, aOwn, aTwo, aOp, aUn, aNary, aB, aAnd, aOr, aNot, aAndV, aNotV, aI0, aI2, aEqD, aNeD, aIsN, aAddS, aCat, aIx, aSl, aNoO, aSoO, aBetw, aLen, aIntU, aListOf, aTupOf, aFld, aProg, aFrz, aFrzD, aApp, aSetIx, aAug, aTg, aUnL, aUn2, aIsi, aNeg, aRev, aYes, aWalk, aRange, aEnT, aEnO, aFSt, aFAug, aDNew, dats, Option.map_some, List.getElem?_cons_zero, List.getElem?_cons_succ, List.set_cons_zero, List.set_cons_succ, aMeth]
  refine ⟨a.q, 0, a.dx, _, rfl, rfl, rfl, ?_⟩
  refine ⟨_, [], pm_nil, F, rf, a, S, rfl, rfl, ok, hrf, so, _, pm_nil, ?_⟩
  refine lc_l (List.range S.tes.length) eN eN (fun n => stal (rfS F rf S) (S.las.getD n none)) (fun _ => True) (fun P h => ?_) trivial (by rw [List.length_range]; omega) (fun i n hn => ?_) hp
  · refine ⟨a.q, 0, a.dx, _, _, rfl, rfl, rfl, 4, _, rfl, _, rfl, by omega, by rw [List.length_map]; omega, ?_⟩
    rw [List.length_map]
    exact h
  · have hn2 : n < S.las.length := by
      have := List.mem_range.mp (List.mem_of_getElem? hn)
      omega
    refine ⟨_, rfl, fun P h => ?_, fun _ P h => h⟩
    simp only [aSeq, aNext, aExpr, aRet, aIf, aAsg, aName, aC, aVar, aNil, aCons, aTup, aLst, aOwn, aTwo, aOp, aUn, aNary, aB, aAnd, aOr, aNot, aAndV, aNotV, aI0, aI2, aEqD, aNeD, aIsN, aAddS, aCat, aIx, aSl, aNoO, aSoO, aBetw, aLen, aIntU, aListOf, aTupOf, aFld, aProg, aFrz, aFrzD, aApp, aSetIx, aAug, aTg, aUnL, aUn2, aIsi, aNeg, aRev, aYes, aWalk, aRange, aEnT, aEnO, aFSt, aFAug, aDNew, dats, Option.map_some, List.getElem?_cons_zero, List.getElem?_cons_succ, List.set_cons_zero, List.set_cons_succ, aMeth]
    refine ⟨a.q, 0, a.dx, _, rfl, rfl, rfl, ?_⟩
    exact ⟨_, [], pm_nil, F, rf, a, S, rfS F rf S, n, _, rfl, rfl, ok, rfS_ok ok hrf so, so, getD_some hn2, _, pm_nil, h⟩
end Mn
namespace Mn
open PySem PySem.Spec PyProof.Rows L2
variable (G : Gp)
theorem pm_c {x : Cell} {l : List Cell} : (x :: l).Perm (l ++ [x]) := List.perm_append_comm (l₁ := [x]) (l₂ := l)
theorem ixN_nat {n k : Nat} (h : k < n) : ixN n (k : Int) = some k := by
  unfold ixN
  rw [if_pos (by omega : (0 : Int) ≤ k), if_pos (by omega : (k : Int) < n)]
  rfl
theorem law_Workshop_verdicts : LawB (C_Workshop_verdicts G) (b_Workshop_verdicts G) N_Workshop_verdicts := by
  rintro ens L post ⟨F, rf, a, S, rfl, rfl, ok, hrf, so, hno, hp⟩
  have n4 := so.n4
  have n5 := so.n5
  have hrs := rfS_ok ok hrf so
  generalize hR : rfS F rf S = R at hp hrs
  show b_Workshop_verdicts G _ [.own a.q, .no, .no, .no, .no, .no, .no, .no, .no, .no, .no] _
  simp (config := {maxSteps := 3000000}) only [b_Workshop_verdicts, aSeq, aNext, aExpr, aRet, aIf, aAsg, aName, aC, aVar, aNil, aCons, aTup, aLst, aOwn, aTwo, aOp, aUn, aNary, aB, aAnd, aOr, aNot, aAndV, aNotV, aI0, aI2, aEqD, aNeD, aIsN, aAddS, aCat, aIx, aSl, aNoO, aSoO, aBetw, aLen, aIntU, aListOf, aTupOf, aFld, aProg, aFrz, aFrzD, aApp, aSetIx, aAug, aTg, aUnL, aUn2, aIsi, aNeg, aRev, aYes, aWalk, aRange, aEnT, aEnO, aFSt, aFAug, aDNew, dats, Option.map_some, List.getElem?_cons_zero, List.getElem?_cons_succ, List.set_cons_zero, List.set_cons_succ, aMeth]
  refine ⟨a.q, 0, a.dx, _, rfl, rfl, rfl, ?_⟩
  refine ⟨_, [], pm_nil, F, rf, a, S, rfl, rfl, ok, hrf, so, _, pm_nil, ?_⟩
  rw [hR]
  refine ⟨[], rfl, by decide, fun p => ?_⟩
  refine for_j (enD 0 (S.tes.map eTe)) (fun L => ∃ j : Nat, L[j]? = some (a.a4, OD.lst (S.tes.map eTe))) (fun i env L => ∃ x3 x4 x5 x6 x7 x8 x9 x10 acc las r, env = [.own a.q, eProg F R, .own p, x3, x4, x5, x6, x7, x8, x9, x10] ∧ L = (p, OD.lst acc) :: shC G F rf a { S with las := las, runs := r } ∧ acc.length = i ∧
      ShOk F { S with las := las, runs := r } ∧ (∀ (n : Nat) (t : Te), n < i → S.tes[n]? = some t → ∃ b, las[n]? = some (laOf F R t b)) ∧ (∀ n, i ≤ n → n < S.tes.length → las[n]? = some none)) (fun P h => ?_) ?_ ?_ ?_
  · simp only [aSeq, aNext, aExpr, aRet, aIf, aAsg, aName, aC, aVar, aNil, aCons, aTup, aLst, aOwn, aTwo, aOp, aUn, aNary, aB, aAnd, aOr, aNot, aAndV, aNotV, aI0, aI2, aEqD, aNeD, aIsN, aAddS, aCat, aIx, aSl, aNoO, aSoO, aBetw, aLen, aIntU, aListOf, aTupOf, aFld, aProg, aFrz, aFrzD, aApp, aSetIx, aAug, aTg, aUnL, aUn2, aIsi, aNeg, aRev, aYes, aWalk, aRange, aEnT, aEnO, aFSt, aFAug, aDNew, dats, Option.map_some, List.getElem?_cons_zero, List.getElem?_cons_succ, List.set_cons_zero, List.set_cons_succ]
    exact ⟨a.q, 1, a.dx, _, _, rfl, rfl, rfl, a.a4, 5, _, rfl, rfl, h⟩
  · refine ⟨_, _, _, _, _, _, _, _, [], S.las, S.runs, rfl, rfl, rfl, so, fun n t h => absurd h (Nat.not_lt_zero n), fun n _ hn => ?_⟩
    have hl : n < S.las.length := by omega
    have e : S.las[n]? = some S.las[n] := by simp [hl]
    rw [e, hno _ (List.getElem_mem hl)]
  · rintro i d env L hd ⟨x3, x4, x5, x6, x7, x8, x9, x10, acc, las, r, rfl, rfl, h1, h2, h3, h4⟩
    obtain ⟨d', g1, rfl⟩ := enD_get hd
    have hi : i < S.tes.length := by simpa using (List.getElem?_eq_some_iff.mp g1).1
    have ew : S.tes[i]? = some S.tes[i] := by simp [hi]
    rw [get_map ew] at g1
    cases g1
    have ht := so.te _ (List.getElem_mem hi)
    generalize S.tes[i] = t at ew ht ⊢
    obtain ⟨es, os⟩ := t
    obtain ⟨t1, t2, t3, t4, t5⟩ := ht
    simp only at t1 t2 t3 t4 t5
    have hl : las[i]? = some none := h4 i (Nat.le_refl _) hi
    have hil : i < las.length := (List.getElem?_eq_some_iff.mp hl).1
    obtain ⟨r1, r2, r3⟩ := run_ok hrs (p0_ok ok) t4
    refine ⟨⟨5, rfl⟩, _, rfl, ?_⟩
    simp only [aSeq, aNext, aExpr, aRet, aIf, aAsg, aName, aC, aVar, aNil, aCons, aTup, aLst, aOwn, aTwo, aOp, aUn, aNary, aB, aAnd, aOr, aNot, aAndV, aNotV, aI0, aI2, aEqD, aNeD, aIsN, aAddS, aCat, aIx, aSl, aNoO, aSoO, aBetw, aLen, aIntU, aListOf, aTupOf, aFld, aProg, aFrz, aFrzD, aApp, aSetIx, aAug, aTg, aUnL, aUn2, aIsi, aNeg, aRev, aYes, aWalk, aRange, aEnT, aEnO, aFSt, aFAug, aDNew, dats, Option.map_some, List.getElem?_cons_zero, List.getElem?_cons_succ, List.set_cons_zero, List.set_cons_succ, aMeth, Nat.zero_add, aCall]
    refine ⟨a.q, 1, a.dx, _, rfl, rfl, rfl, ?_⟩
    refine ⟨_, _, pm_c, F, rf, a, { S with las := las, runs := r }, R, i, none, rfl, rfl, ok, hrs, h2, hl, _, pm_c, ?_⟩
    refine ⟨fun _ => ?_, fun h => nf (show false = true from h.symm)⟩
    refine ⟨[], _, .refl _, F, R, es, _, rfl, .inr rfl, rfl, ok, hrs, t4, by omega, _, .refl _, ?_⟩
    refine ⟨_, _, rfl, rfl, ?_⟩
    refine lc_l (runT F R p0 es) eCel (fun c => ePair (c, R c)) (fun _ => true) (fun _ => True) (fun P h => wk_l h) trivial (by rw [runT_len]; omega) (fun j c hc => ?_) ?_
    · refine ⟨_, rfl, fun P h => h, fun _ P h => ?_⟩
      simp only [aSeq, aNext, aExpr, aRet, aIf, aAsg, aName, aC, aVar, aNil, aCons, aTup, aLst, aOwn, aTwo, aOp, aUn, aNary, aB, aAnd, aOr, aNot, aAndV, aNotV, aI0, aI2, aEqD, aNeD, aIsN, aAddS, aCat, aIx, aSl, aNoO, aSoO, aBetw, aLen, aIntU, aListOf, aTupOf, aFld, aProg, aFrz, aFrzD, aApp, aSetIx, aAug, aTg, aUnL, aUn2, aIsi, aNeg, aRev, aYes, aWalk, aRange, aEnT, aEnO, aFSt, aFAug, aDNew, dats, Option.map_some, List.getElem?_cons_zero, List.getElem?_cons_succ, List.set_cons_zero, List.set_cons_succ, aCall]
      refine ⟨[], _, .refl _, F, R, c, rfl, rfl, ok, r3 c (List.mem_of_getElem? hc), _, .refl _, ?_⟩
      exact ⟨_, rfl, by show 2 ≤ 100000; decide, h⟩
    rw [List.filter_eq_self.mpr fun _ _ => rfl]
    simp only [aSeq, aNext, aExpr, aRet, aIf, aAsg, aName, aC, aVar, aNil, aCons, aTup, aLst, aOwn, aTwo, aOp, aUn, aNary, aB, aAnd, aOr, aNot, aAndV, aNotV, aI0, aI2, aEqD, aNeD, aIsN, aAddS, aCat, aIx, aSl, aNoO, aSoO, aBetw, aLen, aIntU, aListOf, aTupOf, aFld, aProg, aFrz, aFrzD, aApp, aSetIx, aAug, aTg, aUnL, aUn2, aIsi, aNeg, aRev, aYes, aWalk, aRange, aEnT, aEnO, aFSt, aFAug, aDNew, dats, Option.map_some, List.getElem?_cons_zero, List.getElem?_cons_succ, List.set_cons_zero, List.set_cons_succ, aMeth, aCall]
    have q1 : SeqAt.shaped (.list ((runO F R p0 es).map eOut)) = true := sh_of (n := 3) (lq_list fun d hd => by
      obtain ⟨o, ho, rfl⟩ := List.mem_map.mp hd
      exact lq_out ok (r2 o ho))
    have q2 : SeqAt.shaped (.list (os.map eOut)) = true := sh_of (n := 3) (lq_list fun d hd => by
      obtain ⟨o, ho, rfl⟩ := List.mem_map.mp hd
      exact lq_out ok (t5 o ho))
    refine ⟨q1, q2, ?_⟩
    generalize PyData.eqv (.list ((runO F R p0 es).map eOut)) (.list (os.map eOut)) = b
    refine ⟨_, rfl, by show 2 ≤ 100000; decide, ?_⟩
    refine ⟨a.q, 1, a.dx, _, _, rfl, rfl, rfl, a.a5, i, _, 6, i, _, rfl, rfl, rfl, rfl, ?_, ?_⟩
    · rw [List.length_map]
      exact ixN_nat hil
    refine ⟨a.q, 1, a.dx, _, _, rfl, rfl, rfl, 1, 1, a.dx, _, rfl, rfl, by show 7 < 1000; decide, ?_⟩
    have eset : (las.map eLa).set i (.tuple [.list ((runT F R p0 es).map fun c => ePair (c, R c)), .bool b]) = (las.set i (laOf F R (es, os) b)).map eLa := by
      rw [List.map_set]
      congr 1
      show _ = PyData.tuple [.list (((runT F R p0 es).map fun c => (c, R c)).map ePair), .bool b]
      rw [List.map_map]
      rfl
    have hal : acc.length < 100000 := by omega
    have hat : atI ((las.map eLa).set i (.tuple [.list ((runT F R p0 es).map fun c => ePair (c, R c)), .bool b])) (i : Int) = some (.tuple [.list ((runT F R p0 es).map fun c => ePair (c, R c)), .bool b]) := atI_nat (by rw [List.getElem?_set_self]; rw [List.length_map]; exact hil)
    refine ⟨p, 0, _, rfl, rfl, ?_⟩
    refine ⟨a.q, 1, a.dx, _, _, rfl, rfl, rfl, 6, _, .tuple [.list ((runT F R p0 es).map fun c => ePair (c, R c)), .bool b], rfl, hat, ?_⟩
    refine ⟨.bool b, rfl, 0, _, _, rfl, rfl, hal, ?_⟩
    refine ⟨_, _, _, _, _, _, _, _, acc ++ [PyData.bool b], las.set i (laOf F R (es, os) b), r + 1, rfl, ?_, ?_, ⟨h2.n1, h2.n2, h2.n3, h2.n4, ?_, h2.ed, h2.te, ?_⟩, ?_, ?_⟩
    · show _ = (p, OD.lst (acc ++ [PyData.bool b])) :: shC G F rf a { S with las := las.set i (laOf F R (es, os) b), runs := r + 1 }
      simp only [shC, shF, ← eset]
      rfl
    · rw [List.length_append, h1]
      rfl
    · show (las.set i _).length = S.tes.length
      rw [List.length_set]
      exact h2.n5
    · intro l hl ps b' e q hq
      rcases List.mem_or_eq_of_mem_set hl with hl | rfl
      · exact h2.la l hl ps b' e q hq
      · unfold laOf at e
        cases e
        obtain ⟨c, hc, rfl⟩ := List.mem_map.mp hq
        exact ⟨r3 c hc, hrs c (r3 c hc)⟩
    · intro n t hn ht
      by_cases hni : n = i
      · subst hni
        rw [ew] at ht
        cases ht
        exact ⟨b, by rw [List.getElem?_set_self hil]⟩
      · rw [List.getElem?_set_ne (Ne.symm hni)]
        exact h3 n t (by omega) ht
    · intro n hn hn2
      rw [List.getElem?_set_ne (by omega)]
      exact h4 n (by omega) hn2
  · rintro env L ⟨x3, x4, x5, x6, x7, x8, x9, x10, acc, las, r, rfl, rfl, h1, h2, h3, h4⟩
    refine ⟨⟨5, rfl⟩, ?_⟩
    rw [enD_len, List.length_map] at h3
    simp only [aSeq, aNext, aExpr, aRet, aIf, aAsg, aName, aC, aVar, aNil, aCons, aTup, aLst, aOwn, aTwo, aOp, aUn, aNary, aB, aAnd, aOr, aNot, aAndV, aNotV, aI0, aI2, aEqD, aNeD, aIsN, aAddS, aCat, aIx, aSl, aNoO, aSoO, aBetw, aLen, aIntU, aListOf, aTupOf, aFld, aProg, aFrz, aFrzD, aApp, aSetIx, aAug, aTg, aUnL, aUn2, aIsi, aNeg, aRev, aYes, aWalk, aRange, aEnT, aEnO, aFSt, aFAug, aDNew, dats, Option.map_some, List.getElem?_cons_zero, List.getElem?_cons_succ, List.set_cons_zero, List.set_cons_succ]
    refine ⟨p, 0, _, rfl, rfl, ?_⟩
    refine hp _ las r h2.n5 fun n t hn => h3 n t ?_ hn
    exact (List.getElem?_eq_some_iff.mp hn).1
end Mn
namespace Mn
open PySem PySem.Spec PyProof.Rows L2
variable (G : Gp)
theorem law_l_cell : LawB (C_l_cell G) (b_l_cell G) N_l_cell := by
  rintro ens L post ⟨ns, rfl, rfl, hp⟩
  show b_l_cell G _ [.scr ns, .dat (.int 0)] _
  simp (config := {maxSteps := 3000000}) only [b_l_cell, aSeq, aNext, aExpr, aRet, aIf, aAsg, aName, aC, aVar, aNil, aCons, aTup, aLst, aOwn, aTwo, aOp, aUn, aNary, aB, aAnd, aOr, aNot, aAndV, aNotV, aI0, aI2, aEqD, aNeD, aIsN, aAddS, aCat, aIx, aSl, aNoO, aSoO, aBetw, aLen, aIntU, aListOf, aTupOf, aFld, aProg, aFrz, aFrzD, aApp, aSetIx, aAug, aTg, aUnL, aUn2, aIsi, aNeg, aRev, aYes, aWalk, aRange, aEnT, aEnO, aFSt, aFAug, aDNew, dats, Option.map_some, List.getElem?_cons_zero, List.getElem?_cons_succ, List.set_cons_zero, List.set_cons_succ, oLt]
  refine ⟨fun h => ?_, fun _ => hp 0⟩
  rw [decide_eq_true_eq] at h
  have h0 : 0 < ns.length := by omega
  exact ⟨ns[0], atI_nat (i := 0) (by simp [h0]), hp _⟩
theorem law_l_source : LawB (C_l_source G) (b_l_source G) N_l_source := by
  rintro ens L post ⟨i, rfl, rfl, hp⟩
  show b_l_source G _ [.dat (.int i), .dat (.int 0)] _
  simp (config := {maxSteps := 3000000}) only [b_l_source, aSeq, aNext, aExpr, aRet, aIf, aAsg, aName, aC, aVar, aNil, aCons, aTup, aLst, aOwn, aTwo, aOp, aUn, aNary, aB, aAnd, aOr, aNot, aAndV, aNotV, aI0, aI2, aEqD, aNeD, aIsN, aAddS, aCat, aIx, aSl, aNoO, aSoO, aBetw, aLen, aIntU, aListOf, aTupOf, aFld, aProg, aFrz, aFrzD, aApp, aSetIx, aAug, aTg, aUnL, aUn2, aIsi, aNeg, aRev, aYes, aWalk, aRange, aEnT, aEnO, aFSt, aFAug, aDNew, dats, Option.map_some, List.getElem?_cons_zero, List.getElem?_cons_succ, List.set_cons_zero, List.set_cons_succ, oGe, oPow, oMul, oAdd, oSub, oMod]
  refine ⟨⟨by decide, by decide, by decide⟩, fun _ => ?_, fun _ => ?_⟩
  · exact ⟨⟨by decide, by decide, by decide⟩, _, rfl, by show 2 ≤ 100000; decide, fun p => hp p _ _⟩
  · exact ⟨cmulR (by decide), cmulL (by decide), by decide, _, rfl, by show 2 ≤ 100000; decide, fun p => hp p _ _⟩
theorem law_l_pick : LawB (C_l_pick G) (b_l_pick G) N_l_pick := by
  rintro ens L post ⟨p, a, b, m, rfl, rfl, h0, h1, hp⟩
  have fin : ∀ (x a' b' : Int), post (.dat (.int (x % (m : Int)))) [(p, src a' b')] := fun x a' b' => by
    have h2 : 0 ≤ x % (m : Int) := Int.emod_nonneg _ (by omega)
    have h3 : x % (m : Int) < m := Int.emod_lt_of_pos _ (by omega)
    have e : x % (m : Int) = ((x % (m : Int)).toNat : Nat) := by omega
    have h4 := hp (x % (m : Int)).toNat a' b' (by omega)
    rw [← e] at h4
    exact h4
  show b_l_pick G _ [.own p, .dat (.int m), .no, .no] _
  simp (config := {maxSteps := 3000000}) only [b_l_pick, aSeq, aNext, aExpr, aRet, aIf, aAsg, aName, aC, aVar, aNil, aCons, aTup, aLst, aOwn, aTwo, aOp, aUn, aNary, aB, aAnd, aOr, aNot, aAndV, aNotV, aI0, aI2, aEqD, aNeD, aIsN, aAddS, aCat, aIx, aSl, aNoO, aSoO, aBetw, aLen, aIntU, aListOf, aTupOf, aFld, aProg, aFrz, aFrzD, aApp, aSetIx, aAug, aTg, aUnL, aUn2, aIsi, aNeg, aRev, aYes, aWalk, aRange, aEnT, aEnO, aFSt, aFAug, aDNew, dats, Option.map_some, List.getElem?_cons_zero, List.getElem?_cons_succ, List.set_cons_zero, List.set_cons_succ, oGt, oMod, oFdiv, oMul, oAdd]
  refine ⟨0, _, .int a, rfl, rfl, fun _ => ?_, fun _ => ?_⟩
  · refine ⟨0, _, .int a, rfl, rfl, by omega, ?_⟩
    refine ⟨0, _, .int a, rfl, rfl, ⟨by omega, by omega⟩, ?_⟩
    exact ⟨p, 0, _, 0, 0, _, rfl, rfl, rfl, rfl, rfl, fin _ _ _⟩
  · refine ⟨0, _, .int b, rfl, rfl, cmulR (by decide), by decide, ?_⟩
    refine ⟨p, 1, _, 0, 1, _, rfl, rfl, rfl, rfl, rfl, ?_⟩
    refine ⟨0, _, .int ((b * 48271 + 12345) % 2147483647), rfl, rfl, cmulR (by decide), ?_⟩
    refine ⟨0, _, .int ((b * 48271 + 12345) % 2147483647), rfl, rfl, ⟨by decide, by decide⟩, by decide, ?_⟩
    exact ⟨⟨by decide, by decide⟩, by omega, fin _ _ _⟩
theorem law_l_worded : LawB (C_l_worded G) (b_l_worded G) N_l_worded := by
  rintro ens L post ⟨p, a, b, ds, d0, rfl, hd, rfl, h0, h1, hp⟩
  show b_l_worded G _ [.own p, .dat d0] _
  simp (config := {maxSteps := 3000000}) only [b_l_worded, aSeq, aNext, aExpr, aRet, aIf, aAsg, aName, aC, aVar, aNil, aCons, aTup, aLst, aOwn, aTwo, aOp, aUn, aNary, aB, aAnd, aOr, aNot, aAndV, aNotV, aI0, aI2, aEqD, aNeD, aIsN, aAddS, aCat, aIx, aSl, aNoO, aSoO, aBetw, aLen, aIntU, aListOf, aTupOf, aFld, aProg, aFrz, aFrzD, aApp, aSetIx, aAug, aTg, aUnL, aUn2, aIsi, aNeg, aRev, aYes, aWalk, aRange, aEnT, aEnO, aFSt, aFAug, aDNew, dats, Option.map_some, List.getElem?_cons_zero, List.getElem?_cons_succ, List.set_cons_zero, List.set_cons_succ, aCall]
  have key : ∀ r : Nat, r < ds.length → ∃ d, ds[r]? = some d ∧ d ∈ ds := fun r hr => ⟨ds[r], by simp [hr], List.getElem_mem hr⟩
  rcases hd with rfl | rfl
  all_goals
    refine ⟨_, [], pm_nil, p, a, b, ds.length, rfl, rfl, h0, h1, fun r a' b' hr => ⟨_, pm_nil, ?_⟩⟩
    obtain ⟨d, g1, g2⟩ := key r hr
    exact ⟨d, atI_nat g1, hp d g2 a' b'⟩
theorem law_l_known : LawB (C_l_known G) (b_l_known G) N_l_known := by
  rintro ens L post ⟨F, rows, c, rfl, rfl, ok, hc, hp⟩
  obtain ⟨m, n, p⟩ := c
  obtain ⟨s, hs⟩ := mode_at hc.1
  have ekz : ((kn F (m, n, p) : Nat) : Int) = (F.held m : Int) + 1 - (p : Int) % 2 := by
    have ek : kn F (m, n, p) = F.held m + 1 - p % 2 := rfl
    rw [ek]
    omega
  show b_l_known G _ [.dat (ePlan F rows), .dat (.tuple [.int m, .int n, .int p])] _
  simp (config := {maxSteps := 3000000}) only [b_l_known, aSeq, aNext, aExpr, aRet, aIf, aAsg, aName, aC, aVar, aNil, aCons, aTup, aLst, aOwn, aTwo, aOp, aUn, aNary, aB, aAnd, aOr, aNot, aAndV, aNotV, aI0, aI2, aEqD, aNeD, aIsN, aAddS, aCat, aIx, aSl, aNoO, aSoO, aBetw, aLen, aIntU, aListOf, aTupOf, aFld, aProg, aFrz, aFrzD, aApp, aSetIx, aAug, aTg, aUnL, aUn2, aIsi, aNeg, aRev, aYes, aWalk, aRange, aEnT, aEnO, aFSt, aFAug, aDNew, dats, Option.map_some, List.getElem?_cons_zero, List.getElem?_cons_succ, List.set_cons_zero, List.set_cons_succ, oAdd, oSub, oMod, ePlan]
  refine ⟨_, rfl, _, rfl, _, atI_nat (get_map hs), ?_⟩
  refine ⟨.int (F.held m), rfl, ?_⟩
  refine ⟨_, rfl, by decide, ?_⟩
  rw [← ekz]
  exact hp
theorem law_l_cells : LawB (C_l_cells G) (b_l_cells G) N_l_cells := by
  rintro ens L post ⟨F, rows, rfl, rfl, ok, hp⟩
  show b_l_cells G _ [.dat (ePlan F rows), .no, .no, .no, .no] _
  simp (config := {maxSteps := 3000000}) only [b_l_cells, aSeq, aNext, aExpr, aRet, aIf, aAsg, aName, aC, aVar, aNil, aCons, aTup, aLst, aOwn, aTwo, aOp, aUn, aNary, aB, aAnd, aOr, aNot, aAndV, aNotV, aI0, aI2, aEqD, aNeD, aIsN, aAddS, aCat, aIx, aSl, aNoO, aSoO, aBetw, aLen, aIntU, aListOf, aTupOf, aFld, aProg, aFrz, aFrzD, aApp, aSetIx, aAug, aTg, aUnL, aUn2, aIsi, aNeg, aRev, aYes, aWalk, aRange, aEnT, aEnO, aFSt, aFAug, aDNew, dats, Option.map_some, List.getElem?_cons_zero, List.getElem?_cons_succ, List.set_cons_zero, List.set_cons_succ]
  refine ⟨[], rfl, by decide, ?_⟩
  refine for_l (List.range F.modes.length) eN (fun _ => True) (fun i env L => L = [] ∧ ∃ x2 x3 x4, env = [.dat (ePlan F rows), .dat (.list ((cellsU F i).map eCel)), x2, x3, x4]) (fun P h => ?_) ⟨rfl, _, _, _, rfl⟩ ?_ ?_
  · have := ok.m2
    refine ⟨.tuple (F.modes.map eMode), rfl, F.modes.length, ?_, by omega, by omega, h⟩
    show En.dat (.int ((F.modes.map eMode).length : Nat)) = _
    rw [List.length_map]
  · rintro i x env L hx ⟨rfl, x2, x3, x4, rfl⟩
    have hi : i < F.modes.length := by simpa using (List.getElem?_eq_some_iff.mp hx).1
    rw [List.getElem?_range hi] at hx
    cases hx
    obtain ⟨s, hs⟩ := mode_at hi
    refine ⟨trivial, _, rfl, ?_⟩
    simp only [aSeq, aNext, aExpr, aRet, aIf, aAsg, aName, aC, aVar, aNil, aCons, aTup, aLst, aOwn, aTwo, aOp, aUn, aNary, aB, aAnd, aOr, aNot, aAndV, aNotV, aI0, aI2, aEqD, aNeD, aIsN, aAddS, aCat, aIx, aSl, aNoO, aSoO, aBetw, aLen, aIntU, aListOf, aTupOf, aFld, aProg, aFrz, aFrzD, aApp, aSetIx, aAug, aTg, aUnL, aUn2, aIsi, aNeg, aRev, aYes, aWalk, aRange, aEnT, aEnO, aFSt, aFAug, aDNew, dats, Option.map_some, List.getElem?_cons_zero, List.getElem?_cons_succ, List.set_cons_zero, List.set_cons_succ]
    refine for_l (List.range F.names.length) eN (fun _ => True) (fun j env L => L = [] ∧ ∃ d x3 x4, env = [.dat (ePlan F rows), .dat (.list d), .dat (.int i), x3, x4] ∧ d = (cellsU F i ++ cellsM F j i).map eCel) (fun P h => ?_) ⟨rfl, _, x3, x4, rfl, by simp [cellsM]⟩ ?_ ?_
    · have := ok.n2
      refine ⟨.tuple (F.names.map .str), rfl, F.names.length, ?_, by omega, by omega, h⟩
      show En.dat (.int ((F.names.map PyData.str).length : Nat)) = _
      rw [List.length_map]
    · rintro j x env L hx ⟨rfl, d0, x3, x4, rfl, rfl⟩
      have hj : j < F.names.length := by simpa using (List.getElem?_eq_some_iff.mp hx).1
      rw [List.getElem?_range hj] at hx
      cases hx
      refine ⟨trivial, _, rfl, ?_⟩
      simp only [aSeq, aNext, aExpr, aRet, aIf, aAsg, aName, aC, aVar, aNil, aCons, aTup, aLst, aOwn, aTwo, aOp, aUn, aNary, aB, aAnd, aOr, aNot, aAndV, aNotV, aI0, aI2, aEqD, aNeD, aIsN, aAddS, aCat, aIx, aSl, aNoO, aSoO, aBetw, aLen, aIntU, aListOf, aTupOf, aFld, aProg, aFrz, aFrzD, aApp, aSetIx, aAug, aTg, aUnL, aUn2, aIsi, aNeg, aRev, aYes, aWalk, aRange, aEnT, aEnO, aFSt, aFAug, aDNew, dats, Option.map_some, List.getElem?_cons_zero, List.getElem?_cons_succ, List.set_cons_zero, List.set_cons_succ]
      refine lc_m ((List.range (2 * F.held i + 1)).map eN) (fun _ => True) (fun d => .tuple [.int i, .int j, d]) (fun P h => ?_) trivial (by have := ok.held_le i; simp; omega) (fun k d hd => ?_) ?_
      · have := ok.held_le i
        refine ⟨.tuple (F.modes.map eMode), rfl, _, atI_nat (get_map hs), ?_⟩
        refine ⟨.int (F.held i), rfl, cmulL (by decide), (2 * F.held i + 1 : Nat), ?_, by omega, by omega, h⟩
        congr 2
      · exact ⟨_, rfl, fun P h => ⟨_, rfl, by show 3 ≤ 100000; decide, h⟩⟩
      · refine ⟨?_, rfl, _, _, _, rfl, ?_⟩
        · have h1 := cellsU_len ok i
          have h2 := cellsM_len ok j i
          have h3 := ok.held_le i
          have h4 := ok.n2
          have h5 := ok.m2
          refine sz_ok ?_
          simp only [List.length_map, List.length_append, List.length_range]
          omega
        · rw [cellsM_succ]
          simp only [List.map_append, List.map_map, List.append_assoc]
          rfl
    · rintro env L ⟨rfl, d0, x3, x4, rfl, rfl⟩
      rw [List.length_range]
      exact ⟨trivial, rfl, _, _, _, by rw [cellsU_succ]⟩
  · rintro env L ⟨rfl, x2, x3, x4, rfl⟩
    rw [List.length_range]
    exact ⟨trivial, hp⟩
end Mn
namespace Mn
open PySem PySem.Spec PyProof.Rows L2
variable (G : Gp)
/-- a statement, with what follows it kept shut -/
theorem seq_k {X Y : AS} {D : AD} {env : List En} {L : List Cell} (M : List En → List Cell → Prop) (hM : ∀ env L, M env L → Y D env L) (h : ∀ K : List En → List Cell → Prop, (∀ env L, M env L → K env L) → X { D with nx := K } env L) : aSeq X Y D env L := h _ hM
/-- what a for does once its items are there -/
def FB (t : Tg) (body : AS) (D : AD) (env : List En) (items : List PyData) (kp : List Cell → Prop) (L : List Cell) : Prop := ∃ J : Nat → List En → List Cell → Prop, J 0 env L ∧
  (∀ i d env L, items[i]? = some d → J i env L → kp L ∧ ∃ env', bindT t d env = some env' ∧ body { D with nx := J (i + 1), ct := J (i + 1), bk := D.nx } env' L) ∧ ∀ env L, J items.length env L → kp L ∧ D.nx env L
theorem for_w {w : AI} {t : Tg} {body : AS} {D : AD} {env : List En} {L : List Cell} (h : w env L (FB t body D env)) : aFor w t body D env L := h
theorem for_raw {α : Type} {t : Tg} {body : AS} {D : AD} {env : List En} {L : List Cell} (xs : List α) (f : α → PyData) (kp : List Cell → Prop) (J : Nat → List En → List Cell → Prop) (h0 : J 0 env L)
    (hs : ∀ i x env L, xs[i]? = some x → J i env L → kp L ∧ ∃ env', bindT t (f x) env = some env' ∧ body { D with nx := J (i + 1), ct := J (i + 1), bk := D.nx } env' L)
    (hd : ∀ env L, J xs.length env L → kp L ∧ D.nx env L) : FB t body D env (xs.map f) kp L :=
  ⟨J, h0, fun i d env L h hj => by
      have hi : i < xs.length := by simpa using (List.getElem?_eq_some_iff.mp h).1
      have ew : xs[i]? = some xs[i] := by simp [hi]
      rw [get_map ew] at h
      cases h
      exact hs i _ env L ew hj, fun env L hj => hd env L (by rwa [List.length_map] at hj)⟩
theorem rg_get {n i x : Nat} (h : (List.range n)[i]? = some x) : i < n ∧ x = i := by
  have hi : i < n := by simpa using (List.getElem?_eq_some_iff.mp h).1
  rw [List.getElem?_range hi] at h
  cases h
  exact ⟨hi, rfl⟩
theorem cutD_to {α : Type} {xs : List α} {r : Nat} (h : r ≤ xs.length) : cutD xs none (some (r : Int)) = xs.take r := by
  unfold cutD
  rw [HT.sIx_none, HT.sIx_nat, Nat.min_eq_left h, Nat.sub_zero, List.drop_zero]
theorem cutD_from {α : Type} {xs : List α} {r : Nat} (h : r ≤ xs.length) : cutD xs (some (r : Int)) none = xs.drop r := by
  unfold cutD
  rw [HT.sIx_none, HT.sIx_nat, Nat.min_eq_left h]
  exact List.take_of_length_le (by rw [List.length_drop]; exact Nat.le_refl _)
theorem law_l_some : LawB (C_l_some G) (b_l_some G) N_l_some := by
  rintro ens L post ⟨p, a, b, k, n, rfl, rfl, hn, hk, hp⟩
  show b_l_some G _ [.own p, .dat (.int k), .dat (.int n), .no, .no, .no] _
  simp (config := {maxSteps := 3000000}) only [b_l_some, aSeq, aNext, aExpr, aRet, aIf, aAsg, aName, aC, aVar, aNil, aCons, aTup, aLst, aOwn, aTwo, aOp, aUn, aNary, aB, aAnd, aOr, aNot, aAndV, aNotV, aI0, aI2, aEqD, aNeD, aIsN, aAddS, aCat, aIx, aSl, aNoO, aSoO, aBetw, aLen, aIntU, aListOf, aTupOf, aFld, aProg, aFrz, aFrzD, aApp, aSetIx, aAug, aTg, aUnL, aUn2, aIsi, aNeg, aRev, aYes, aWalk, aRange, aEnT, aEnO, aFSt, aFAug, aDNew, dats, Option.map_some, List.getElem?_cons_zero, List.getElem?_cons_succ, List.set_cons_zero, List.set_cons_succ, aCall, oSub, oAdd]
  refine lc_m ((List.range k).map eN) (fun _ => True) (fun d => d) (fun P h => ⟨k, rfl, by omega, by omega, h⟩) trivial (by simp; omega) (fun i d hd => ⟨_, rfl, fun P h => h⟩) ?_
  refine for_l (List.range (k - n)) eN (fun _ => True) (fun i env L => ∃ (l : List Nat) (x4 x5 : En) (a' b' : Int), env = [.own p, .dat (.int k), .dat (.int n), .dat (.list (l.map eN)), x4, x5] ∧ L = [(p, src a' b')] ∧ l.Pairwise (· < ·) ∧ (∀ h ∈ l, h < k) ∧ l.length = k - i) (fun P h => ?_) ⟨List.range k, .no, .no, a, b, by rw [List.map_id'], rfl, List.pairwise_lt_range, fun h hh => List.mem_range.mp hh, by simp⟩ ?_ ?_
  · exact ⟨(k - n : Nat), by rw [show ((k - n : Nat) : Int) = (k : Int) - n from by omega], by omega, by omega, h⟩
  · rintro i x env L hx ⟨l, x4, x5, a', b', rfl, rfl, h1, h2, h3⟩
    obtain ⟨hi, rfl⟩ := rg_get hx
    refine ⟨trivial, _, rfl, ?_⟩
    simp only [aSeq, aNext, aExpr, aRet, aIf, aAsg, aName, aC, aVar, aNil, aCons, aTup, aLst, aOwn, aTwo, aOp, aUn, aNary, aB, aAnd, aOr, aNot, aAndV, aNotV, aI0, aI2, aEqD, aNeD, aIsN, aAddS, aCat, aIx, aSl, aNoO, aSoO, aBetw, aLen, aIntU, aListOf, aTupOf, aFld, aProg, aFrz, aFrzD, aApp, aSetIx, aAug, aTg, aUnL, aUn2, aIsi, aNeg, aRev, aYes, aWalk, aRange, aEnT, aEnO, aFSt, aFAug, aDNew, dats, Option.map_some, List.getElem?_cons_zero, List.getElem?_cons_succ, List.set_cons_zero, List.set_cons_succ, aCall]
    refine ⟨_, [], pm_nil, p, a', b', (l.map eN).length, rfl, rfl, by rw [List.length_map]; omega, by rw [List.length_map]; omega, fun r a2 b2 hr => ⟨_, pm_nil, ?_⟩⟩
    have hr2 : r < l.length := by simpa using hr
    dsimp only
    have e1 : cutD (l.map eN) none (some (r : Int)) = (l.take r).map eN := by rw [cutD_to (by omega), List.map_take]
    have e2 : cutD (l.map eN) (some ((r : Int) + 1)) none = (l.drop (r + 1)).map eN := by
      rw [show (r : Int) + 1 = ((r + 1 : Nat) : Int) from rfl, cutD_from (by omega), List.map_drop]
    rw [e1, e2]
    refine ⟨sz_ok ?_, l.eraseIdx r, .dat (eN x), .dat (.int r), a2, b2, ?_, rfl, h1.sublist (List.eraseIdx_sublist l r), fun h hh => h2 h ((List.eraseIdx_sublist l r).subset hh), ?_⟩
    · simp only [List.length_map, List.length_take, List.length_drop]
      omega
    · rw [List.eraseIdx_eq_take_drop_succ, List.map_append]
    · rw [List.length_eraseIdx_of_lt hr2]
      omega
  · rintro env L ⟨l, x4, x5, a', b', rfl, rfl, h1, h2, h3⟩
    rw [List.length_range] at h3
    exact ⟨trivial, hp l a' b' h1 h2 (by omega)⟩
theorem law_l_writes : LawB (C_l_writes G) (b_l_writes G) N_l_writes := by
  rintro ens L post ⟨p, a, b, F, rows, k, rfl, rfl, ok, hk, hk2, hp⟩
  show b_l_writes G _ [.own p, .dat (ePlan F rows), .dat (.int k), .no, .no, .no] _
  simp (config := {maxSteps := 3000000}) only [b_l_writes, aSeq, aNext, aExpr, aRet, aIf, aAsg, aName, aC, aVar, aNil, aCons, aTup, aLst, aOwn, aTwo, aOp, aUn, aNary, aB, aAnd, aOr, aNot, aAndV, aNotV, aI0, aI2, aEqD, aNeD, aIsN, aAddS, aCat, aIx, aSl, aNoO, aSoO, aBetw, aLen, aIntU, aListOf, aTupOf, aFld, aProg, aFrz, aFrzD, aApp, aSetIx, aAug, aTg, aUnL, aUn2, aIsi, aNeg, aRev, aYes, aWalk, aRange, aEnT, aEnO, aFSt, aFAug, aDNew, dats, Option.map_some, List.getElem?_cons_zero, List.getElem?_cons_succ, List.set_cons_zero, List.set_cons_succ, aCall]
  refine ⟨[], rfl, by decide, fun p3 => ?_⟩
  refine for_w ?_
  simp only [aSeq, aNext, aExpr, aRet, aIf, aAsg, aName, aC, aVar, aNil, aCons, aTup, aLst, aOwn, aTwo, aOp, aUn, aNary, aB, aAnd, aOr, aNot, aAndV, aNotV, aI0, aI2, aEqD, aNeD, aIsN, aAddS, aCat, aIx, aSl, aNoO, aSoO, aBetw, aLen, aIntU, aListOf, aTupOf, aFld, aProg, aFrz, aFrzD, aApp, aSetIx, aAug, aTg, aUnL, aUn2, aIsi, aNeg, aRev, aYes, aWalk, aRange, aEnT, aEnO, aFSt, aFAug, aDNew, dats, Option.map_some, List.getElem?_cons_zero, List.getElem?_cons_succ, List.set_cons_zero, List.set_cons_succ, aCall]
  refine ⟨_, rfl, by show 8 ≤ 100000; decide, ?_⟩
  refine ⟨[(p, src a b)], _, pm_c, p, a, b, 8, rfl, rfl, by decide, by decide, fun r a b hr => ⟨_, pm_c, ?_⟩⟩
  have hv : ∃ v : Nat, v ≤ 4 ∧ atI [PyData.int 0, .int 0, .int 1, .int 1, .int 1, .int 2, .int 3, .int 4] (r : Int) = some (.int v) := by
    have : r = 0 ∨ r = 1 ∨ r = 2 ∨ r = 3 ∨ r = 4 ∨ r = 5 ∨ r = 6 ∨ r = 7 := by omega
    rcases this with rfl | rfl | rfl | rfl | rfl | rfl | rfl | rfl
    · exact ⟨0, by decide, rfl⟩
    · exact ⟨0, by decide, rfl⟩
    · exact ⟨1, by decide, rfl⟩
    · exact ⟨1, by decide, rfl⟩
    · exact ⟨1, by decide, rfl⟩
    · exact ⟨2, by decide, rfl⟩
    · exact ⟨3, by decide, rfl⟩
    · exact ⟨4, by decide, rfl⟩
  obtain ⟨v, hv4, hat⟩ := hv
  refine ⟨_, hat, v, rfl, by omega, by omega, ?_⟩
  refine for_raw (List.range v) eN (fun _ => True) (fun i env L => ∃ (ws : List Wr) (x4 x5 : En) (a' b' : Int), env = [.own p, .dat (ePlan F rows), .dat (.int k), .own p3, x4, x5] ∧ L = [(p3, OD.lst (ws.map eWr)), (p, src a' b')] ∧ ws.length = i ∧ ∀ w ∈ ws, WrOk F k w) ⟨[], _, _, a, b, rfl, rfl, rfl, fun w hw => by cases hw⟩ ?_ ?_
  · rintro i x env L hx ⟨ws, x4, x5, a', b', rfl, rfl, h1, h2⟩
    obtain ⟨hi, rfl⟩ := rg_get hx
    refine ⟨trivial, _, rfl, ?_⟩
    conv => whnf
    refine ⟨.tuple (F.ports.map ePort), rfl, ?_⟩
    have hp1 := ok.p1
    have hp2 := ok.p2
    conv => whnf
    refine ⟨[(p, src a' b')], _, pm_c, p, a', b', (F.ports.map ePort).length, rfl, rfl, by rw [List.length_map]; omega, by rw [List.length_map]; omega, fun r a b hr => ⟨_, pm_c, ?_⟩⟩
    have hr2 : r < F.ports.length := by simpa using hr
    have ew : F.ports[r]? = some F.ports[r] := by simp [hr2]
    obtain ⟨g0, g1, g2, g3⟩ := ok.pw _ (List.getElem_mem hr2)
    generalize F.ports[r] = pt at ew g0 g1 g2 g3
    conv => whnf
    refine ⟨p3, 0, _, rfl, rfl, .tuple (F.ports.map ePort), rfl, _, atI_nat (get_map ew), ?_⟩
    conv => whnf
    refine ⟨.tuple (pt.2.map .str), rfl, ?_⟩
    conv => whnf
    refine ⟨[(p, src a b)], _, pm_c, p, a, b, pt.2.map .str, _, rfl, .inr rfl, rfl, by rw [List.length_map]; omega, by rw [List.length_map]; omega, fun d hd a b => ⟨_, pm_c, ?_⟩⟩
    obtain ⟨x, hx2, rfl⟩ := List.mem_map.mp hd
    conv => whnf
    refine ⟨[(p, src a b)], _, pm_c, p, a, b, k, rfl, rfl, hk, by omega, fun r2 a b hr2 => ⟨_, pm_c, ?_⟩⟩
    conv => whnf
    refine ⟨_, rfl, by show 3 ≤ 100000; decide, 0, _, _, rfl, rfl, by rw [List.length_map]; omega, ?_⟩
    conv => whnf
    refine ⟨ws ++ [(r, x, r2)], _, _, a, b, rfl, ?_, by rw [List.length_append, h1]; rfl, fun w hw => ?_⟩
    · rw [List.map_append]
      rfl
    · rcases List.mem_append.mp hw with hw | hw
      · exact h2 w hw
      · rw [List.mem_singleton] at hw
        subst hw
        exact ⟨⟨pt, ew, hx2⟩, hr2⟩
  · rintro env L ⟨ws, x4, x5, a', b', rfl, rfl, h1, h2⟩
    rw [List.length_range] at h1
    refine ⟨trivial, ?_⟩
    simp only [aSeq, aNext, aExpr, aRet, aIf, aAsg, aName, aC, aVar, aNil, aCons, aTup, aLst, aOwn, aTwo, aOp, aUn, aNary, aB, aAnd, aOr, aNot, aAndV, aNotV, aI0, aI2, aEqD, aNeD, aIsN, aAddS, aCat, aIx, aSl, aNoO, aSoO, aBetw, aLen, aIntU, aListOf, aTupOf, aFld, aProg, aFrz, aFrzD, aApp, aSetIx, aAug, aTg, aUnL, aUn2, aIsi, aNeg, aRev, aYes, aWalk, aRange, aEnT, aEnO, aFSt, aFAug, aDNew, dats, Option.map_some, List.getElem?_cons_zero, List.getElem?_cons_succ, List.set_cons_zero, List.set_cons_succ]
    exact ⟨p3, 0, _, rfl, rfl, hp ws a' b' (by omega) h2⟩
theorem kn_pos {F : Fr} {c : Cel} (h : CelOk F c) : 0 < kn F c := by
  have e : kn F c = F.held c.1 + 1 - c.2.2 % 2 := rfl
  have := h.2.2
  rw [e]
  omega
theorem law_l_drawn_row : LawB (C_l_drawn_row G) (b_l_drawn_row G) N_l_drawn_row := by
  rintro ens L post ⟨p, a, b, F, rows, c, rfl, rfl, ok, hc, hp⟩
  have hkp := kn_pos hc
  have hkl : kn F c ≤ 5 := by
    have e : kn F c = F.held c.1 + 1 - c.2.2 % 2 := rfl
    have := ok.held_le c.1
    omega
  have hm2 := ok.m2
  show b_l_drawn_row G _ [.own p, .dat (ePlan F rows), .dat (eCel c), .no, .no, .no] _
  simp (config := {maxSteps := 3000000}) only [b_l_drawn_row, aSeq, aNext, aExpr, aRet, aIf, aAsg, aName, aC, aVar, aNil, aCons, aTup, aLst, aOwn, aTwo, aOp, aUn, aNary, aB, aAnd, aOr, aNot, aAndV, aNotV, aI0, aI2, aEqD, aNeD, aIsN, aAddS, aCat, aIx, aSl, aNoO, aSoO, aBetw, aLen, aIntU, aListOf, aTupOf, aFld, aProg, aFrz, aFrzD, aApp, aSetIx, aAug, aTg, aUnL, aUn2, aIsi, aNeg, aRev, aYes, aWalk, aRange, aEnT, aEnO, aFSt, aFAug, aDNew, dats, Option.map_some, List.getElem?_cons_zero, List.getElem?_cons_succ, List.set_cons_zero, List.set_cons_succ, aCall, oLe]
  refine ⟨[], _, .refl _, F, rows, c, rfl, rfl, ok, hc, _, .refl _, ?_⟩
  refine lc_l (List.range F.modes.length) eN eN (fun m => decide (F.held m ≤ kn F c)) (fun _ => True) (fun P h => ?_) trivial (by rw [List.length_range]; omega) (fun i m hm => ?_) ?_
  · refine ⟨.tuple (F.modes.map eMode), rfl, _, rfl, by omega, by rw [List.length_map]; omega, ?_⟩
    rw [List.length_map]
    exact h
  · obtain ⟨hi, rfl⟩ := rg_get hm
    obtain ⟨s, hs⟩ := mode_at hi
    refine ⟨_, rfl, fun P h => ?_, fun _ P h => h⟩
    refine ⟨.tuple (F.modes.map eMode), rfl, _, atI_nat (get_map hs), ?_⟩
    refine ⟨.int (F.held m), rfl, ?_⟩
    have e : decide ((F.held m : Int) ≤ (kn F c : Int)) = decide (F.held m ≤ kn F c) := by
      congr 1
      exact propext (by omega)
    show P (decide ((F.held m : Int) ≤ (kn F c : Int))) _
    rw [e]
    exact h
  have hne : 0 ∈ (List.range F.modes.length).filter fun m => decide (F.held m ≤ kn F c) := List.mem_filter.mpr ⟨List.mem_range.mpr ok.m1, by rw [ok.m0]; exact decide_eq_true (Nat.zero_le _)⟩
  have hln : ((List.range F.modes.length).filter fun m => decide (F.held m ≤ kn F c)).length ≤ F.modes.length := Nat.le_trans (List.length_filter_le _ _) (by rw [List.length_range]; exact Nat.le_refl _)
  refine ⟨_, [], pm_nil, p, a, b, _, _, rfl, .inl rfl, rfl, by rw [List.length_map]; exact List.length_pos_of_mem hne, by rw [List.length_map]; omega, fun d hd a b => ⟨_, pm_nil, ?_⟩⟩
  obtain ⟨m, hm, rfl⟩ := List.mem_map.mp hd
  obtain ⟨hm1, hm3⟩ := List.mem_filter.mp hm
  have hm1 := List.mem_range.mp hm1
  rw [decide_eq_true_eq] at hm3
  obtain ⟨s, hs⟩ := mode_at hm1
  refine ⟨.tuple (F.modes.map eMode), rfl, _, atI_nat (get_map hs), ?_⟩
  refine ⟨.int (F.held m), rfl, ?_⟩
  refine ⟨_, [], pm_nil, p, a, b, kn F c, F.held m, rfl, rfl, hm3, by omega, fun hs a b q1 q2 q3 => ⟨_, pm_nil, ?_⟩⟩
  refine ⟨_, [], pm_nil, p, a, b, F, rows, kn F c, rfl, rfl, ok, hkp, by omega, fun ws a b q4 q5 => ⟨_, pm_nil, ?_⟩⟩
  refine ⟨_, rfl, by show 3 ≤ 100000; decide, ?_⟩
  exact hp (m, hs, ws) a b ⟨hm1, q1, q2, q3, q4, q5⟩
end Mn
namespace Mn
open PySem PySem.Spec PyProof.Rows L2
variable (G : Gp)
/-! ### texts -/
def W8 (x : Str) : Prop := PyData.strOk x = true ∧ x.length ≤ 8
theorem so_iff {x : Str} : PyData.strOk x = true ↔ ∀ c ∈ x.cps.toList, c < 1114112 := by
  unfold PyData.strOk
  rw [Array.all_eq_true']
  constructor
  · intro h c hc
    exact of_decide_eq_true (h c (Array.mem_toList_iff.mp hc))
  · intro h c hc
    exact decide_eq_true (h c (Array.mem_toList_iff.mpr hc))
theorem so_app {x y : Str} (hx : PyData.strOk x = true) (hy : PyData.strOk y = true) : PyData.strOk (x ++ y) = true := so_iff.mpr fun c hc => by
  have hc : c ∈ (x.cps ++ y.cps).toList := hc
  rw [Array.toList_append] at hc
  rcases List.mem_append.mp hc with h | h
  · exact so_iff.mp hx c h
  · exact so_iff.mp hy c h
theorem ln_app {x y : Str} : (x ++ y).length = x.length + y.length := Array.size_append
theorem so_cut {x : Str} {lo hi : Option Int} (hx : PyData.strOk x = true) : PyData.strOk (cutS x lo hi) = true := so_iff.mpr fun c hc => by
  have hc : c ∈ ((x.cps.toList.drop (HT.sIx x.length 0 lo)).take (HT.sIx x.length x.length hi - HT.sIx x.length 0 lo)).toArray.toList := hc
  rw [List.toList_toArray] at hc
  exact so_iff.mp hx c (List.mem_of_mem_drop (List.mem_of_mem_take hc))
theorem ln_cut6 {x : Str} : (cutS x none (some 6)).length ≤ 6 := by
  show ((x.cps.toList.drop (HT.sIx x.length 0 none)).take (HT.sIx x.length x.length (some ((6 : Nat) : Int)) - HT.sIx x.length 0 none)).toArray.size ≤ 6
  rw [List.size_toArray, List.length_take, HT.sIx_none, HT.sIx_nat]
  omega
theorem ln_cut1 {x : Str} : (cutS x (some 1) none).length = x.length - 1 := by
  show ((x.cps.toList.drop (HT.sIx x.length 0 (some ((1 : Nat) : Int)))).take (HT.sIx x.length x.length none - HT.sIx x.length 0 (some ((1 : Nat) : Int)))).toArray.size = _
  have e : x.cps.toList.length = x.length := rfl
  rw [List.size_toArray, List.length_take, List.length_drop, HT.sIx_none, HT.sIx_nat, e]
  omega
theorem chr_of {z : Str} (hz : PyData.strOk z = true) {r : Nat} (h : r < z.length) : ∃ c, atI z.cps.toList (r : Int) = some c ∧ PyData.strOk ⟨#[c]⟩ = true := by
  have h2 : r < z.cps.toList.length := h
  refine ⟨z.cps.toList[r], atI_nat (by simp [h2]), so_iff.mpr fun c hc => ?_⟩
  have hc : c ∈ [z.cps.toList[r]] := hc
  rw [List.mem_singleton] at hc
  subst hc
  exact so_iff.mp hz _ (List.getElem_mem h2)
theorem ln_chr {c : Nat} : (⟨#[c]⟩ : Str).length = 1 := rfl
def menuS : List Str := [Str.ofString "put", Str.ofString "pull", Str.ofString "at", Str.ofString "write", Str.ofString "go", Str.ofString "hold", Str.ofString "vex", Str.ofString "hear", Str.ofString "port", Str.ofString "mode", Str.ofString "test", Str.ofString "edit", Str.ofString "undo", Str.ofString "redo", Str.ofString "a", Str.ofString "putx", Str.ofString "jq"]
theorem menu_ok : ∀ x ∈ menuS, W8 x := by
  show ∀ x ∈ menuS, PyData.strOk x = true ∧ x.length ≤ 8
  decide +kernel
def lS : Str := Str.ofString "abcdefghijklmnopqrstuvwxyz"
def lM : Str := Str.ofString "abcdefghijklmopqrstuvwxy"
def lT : Str := Str.ofString "abcdefghijklmopq"
theorem lS_ok : PyData.strOk lS = true ∧ lS.length = 26 := by decide +kernel
theorem lM_ok : PyData.strOk lM = true ∧ lM.length = 24 := by decide +kernel
theorem lT_ok : PyData.strOk lT = true ∧ lT.length = 16 := by decide +kernel
theorem dg_ok : PyData.strOk digits = true ∧ digits.length = 10 := by decide +kernel
theorem em_ok : PyData.strOk ("" : Str) = true ∧ ("" : Str).length = 0 := by decide +kernel
theorem seq_for {w : AI} {t : Tg} {b u : AS} {D : AD} {env : List En} {L : List Cell} (h : aFor w t b { D with nx := u D } env L) : aSeq (aFor w t b) u D env L := h
theorem seq_if {c : AT} {t e u : AS} {D : AD} {env : List En} {L : List Cell} (h : aIf c t e { D with nx := u D } env L) : aSeq (aIf c t e) u D env L := h
theorem law_l_named : LawB (C_l_named G) (b_l_named G) N_l_named := by
  rintro ens L post ⟨p, a, b, n, e, rfl, rfl, hn, he, hp⟩
  have he2 : PyData.strOk e = true ∧ (e.length = 0 ∨ e.length = 10) := by
    rcases he with rfl | rfl
    · exact ⟨em_ok.1, .inl em_ok.2⟩
    · exact ⟨dg_ok.1, .inr dg_ok.2⟩
  clear he
  show b_l_named G _ [.own p, .dat (.int n), .dat (.str e), .no, .no, .no, .no, .no, .no, .no] _
  unfold b_l_named
  refine seq_k (fun env L => env = [.own p, .dat (.int n), .dat (.str e), .dat (.str lS), .no, .no, .no, .no, .no, .no] ∧ L = [(p, src a b)]) ?_ (fun K hK => hK _ _ ⟨rfl, rfl⟩)
  rintro env L ⟨rfl, rfl⟩
  refine seq_k (fun env L => env = [.own p, .dat (.int n), .dat (.str e), .dat (.str lS), .dat (.list (menuS.map .str)), .no, .no, .no, .no, .no] ∧ L = [(p, src a b)]) ?_ (fun K hK => ⟨_, rfl, by show 17 ≤ 100000; decide, hK _ _ ⟨rfl, rfl⟩⟩)
  rintro env L ⟨rfl, rfl⟩
  refine seq_k (fun env L => ∃ p5, env = [.own p, .dat (.int n), .dat (.str e), .dat (.str lS), .dat (.list (menuS.map .str)), .own p5, .no, .no, .no, .no] ∧ L = [(p5, OD.lst []), (p, src a b)]) ?_ (fun K hK => ⟨_, rfl, by decide, fun p5 => hK _ _ ⟨p5, rfl, rfl⟩⟩)
  rintro env L ⟨p5, rfl, rfl⟩
  refine seq_for ?_
  refine for_l (List.range n) eN (fun _ => True) (fun i env L => ∃ (ws : List Str) (x6 x7 x8 x9 : En) (a' b' : Int), env = [.own p, .dat (.int n), .dat (.str e), .dat (.str lS), .dat (.list (menuS.map .str)), .own p5, x6, x7, x8, x9] ∧ L = [(p5, OD.lst (ws.map .str)), (p, src a' b')] ∧ ws.length = i ∧ ∀ x ∈ ws, W8 x)
    (fun P h => ⟨n, rfl, by omega, by omega, h⟩) ⟨[], _, _, _, _, a, b, rfl, rfl, rfl, fun x hx => by cases hx⟩ ?_ ?_
  · rintro i x env L hx ⟨ws, x6, x7, x8, x9, a, b, rfl, rfl, h1, h2⟩
    obtain ⟨hi, rfl⟩ := rg_get hx
    refine ⟨trivial, _, rfl, ?_⟩
    have M : (List En → List Cell → Prop) := fun env L => False
    refine seq_k (fun env L => ∃ (x6 x8 x9 : En) (w : Str) (a' b' : Int), env = [.own p, .dat (.int n), .dat (.str e), .dat (.str lS), .dat (.list (menuS.map .str)), .own p5, x6, .dat (.str w), x8, x9] ∧ L = [(p5, OD.lst (ws.map .str)), (p, src a' b')] ∧ W8 w) ?_ (fun K hK => ?_)
    rotate_left
    · conv => whnf
      refine ⟨[(p, src a b)], _, pm_c, p, a, b, menuS.map .str, _, rfl, .inl rfl, rfl, by decide, by decide, fun d hd a b => ⟨_, pm_c, ?_⟩⟩
      obtain ⟨w, hw, rfl⟩ := List.mem_map.mp hd
      exact hK _ _ ⟨_, _, _, w, a, b, rfl, rfl, menu_ok w hw⟩
    rintro env L ⟨x6, x8, x9, w, a, b, rfl, rfl, hw⟩
    refine seq_k (fun env L => ∃ (x6 x8 x9 : En) (w : Str) (a' b' : Int), env = [.own p, .dat (.int n), .dat (.str e), .dat (.str lS), .dat (.list (menuS.map .str)), .own p5, x6, .dat (.str w), x8, x9] ∧ L = [(p5, OD.lst (ws.map .str)), (p, src a' b')] ∧ W8 w) ?_ (fun K hK => ?_)
    rotate_left
    · conv => whnf
      refine ⟨[(p, src a b)], _, pm_c, p, a, b, 2, rfl, rfl, by decide, by decide, fun r a b hr => ⟨_, pm_c, ?_⟩⟩
      conv => whnf
      refine ⟨sh_int, sh_int, ?_⟩
      conv => whnf
      refine ⟨fun _ => ?_, fun _ => hK _ _ ⟨_, _, _, w, a, b, rfl, rfl, hw⟩⟩
      refine seq_k (fun env L => ∃ (x6 x8 x9 : En) (w : Str) (a' b' : Int), env = [.own p, .dat (.int n), .dat (.str e), .dat (.str lS), .dat (.list (menuS.map .str)), .own p5, x6, .dat (.str w), x8, x9] ∧ L = [(p5, OD.lst (ws.map .str)), (p, src a' b')] ∧ PyData.strOk w = true ∧ w.length = 1) ?_ (fun K hK => ?_)
      rotate_left
      · conv => whnf
        refine ⟨[(p, src a b)], _, pm_c, p, a, b, 24, rfl, rfl, by decide, by decide, fun r a b hr => ⟨_, pm_c, ?_⟩⟩
        conv => whnf
        obtain ⟨c, g1, g2⟩ := chr_of lM_ok.1 (by rw [lM_ok.2]; exact hr)
        exact ⟨sz_ok (by show lM.length ≤ 100000; rw [lM_ok.2]; decide), c, g1, hK _ _ ⟨_, _, _, _, a, b, rfl, rfl, g2, rfl⟩⟩
      rintro env L ⟨x6, x8, x9, w, a, b, rfl, rfl, hw1, hw2⟩
      refine seq_for (for_w ?_)
      conv => whnf
      refine ⟨_, rfl, by show 4 ≤ 100000; decide, ?_⟩
      conv => whnf
      refine ⟨[(p, src a b)], _, pm_c, p, a, b, 4, rfl, rfl, by decide, by decide, fun r a b hr => ⟨_, pm_c, ?_⟩⟩
      have hv : ∃ v : Nat, v ≤ 7 ∧ atI [PyData.int 0, .int 1, .int 2, .int 7] (r : Int) = some (.int v) := by
        have : r = 0 ∨ r = 1 ∨ r = 2 ∨ r = 3 := by omega
        rcases this with rfl | rfl | rfl | rfl
        · exact ⟨0, by decide, rfl⟩
        · exact ⟨1, by decide, rfl⟩
        · exact ⟨2, by decide, rfl⟩
        · exact ⟨7, by decide, rfl⟩
      obtain ⟨v, hv4, hat⟩ := hv
      conv => whnf
      refine ⟨_, hat, ?_⟩
      conv => whnf
      refine ⟨v, rfl, by omega, by omega, ?_⟩
      refine for_raw (List.range v) eN (fun _ => True) (fun j env L => ∃ (x6 x8 x9 : En) (w : Str) (a' b' : Int), env = [.own p, .dat (.int n), .dat (.str e), .dat (.str lS), .dat (.list (menuS.map .str)), .own p5, x6, .dat (.str w), x8, x9] ∧ L = [(p5, OD.lst (ws.map .str)), (p, src a' b')] ∧ PyData.strOk w = true ∧ w.length = 1 + j) ⟨_, _, _, w, a, b, rfl, rfl, hw1, hw2⟩ ?_ ?_
      · rintro j x env L hx ⟨x6, x8, x9, w, a, b, rfl, rfl, hw1, hw2⟩
        obtain ⟨hj, rfl⟩ := rg_get hx
        refine ⟨trivial, _, rfl, ?_⟩
        conv => whnf
        refine ⟨[(p, src a b)], _, pm_c, p, a, b, 26, rfl, rfl, by decide, by decide, fun r a b hr => ⟨_, pm_c, ?_⟩⟩
        conv => whnf
        obtain ⟨c, g1, g2⟩ := chr_of lS_ok.1 (by rw [lS_ok.2]; exact hr)
        refine ⟨sz_ok (by rw [lS_ok.2]; decide), c, g1, ?_⟩
        conv => whnf
        exact ⟨sz_ok (by rw [hw2, ln_chr]; omega), _, _, _, _, a, b, rfl, rfl, so_app hw1 g2, by rw [ln_app, hw2, ln_chr]; omega⟩
      · rintro env L ⟨x6, x8, x9, w, a, b, rfl, rfl, hw1, hw2⟩
        rw [List.length_range] at hw2
        exact ⟨trivial, hK _ _ ⟨_, _, _, w, a, b, rfl, rfl, hw1, by omega⟩⟩
    rintro env L ⟨x6, x8, x9, w, a, b, rfl, rfl, hw⟩
    refine seq_k (fun env L => ∃ (x6 x8 x9 : En) (w : Str) (a' b' : Int), env = [.own p, .dat (.int n), .dat (.str e), .dat (.str lS), .dat (.list (menuS.map .str)), .own p5, x6, .dat (.str w), x8, x9] ∧ L = [(p5, OD.lst (ws.map .str)), (p, src a' b')] ∧ W8 w) ?_ (fun K hK => ?_)
    rotate_left
    · conv => whnf
      refine ⟨sz_ok (by omega), ?_⟩
      conv => whnf
      refine ⟨fun hpos => ?_, fun h => ⟨fun h2 => nf h2, fun _ => hK _ _ ⟨_, _, _, w, a, b, rfl, rfl, hw⟩⟩⟩
      rw [decide_eq_true_eq] at hpos
      have he10 : e.length = 10 := by omega
      conv => whnf
      refine ⟨[(p, src a b)], _, pm_c, p, a, b, 3, rfl, rfl, by decide, by decide, fun r a b hr => ⟨_, pm_c, ?_⟩⟩
      conv => whnf
      refine ⟨sh_int, sh_int, ?_⟩
      conv => whnf
      refine ⟨fun _ => ?_, fun _ => hK _ _ ⟨_, _, _, w, a, b, rfl, rfl, hw⟩⟩
      have hwl := hw.2
      conv => whnf
      refine ⟨sz_ok (by omega), ?_⟩
      conv => whnf
      refine ⟨[(p, src a b)], _, pm_c, p, a, b, 10, rfl, rfl, by decide, by decide, fun r a b hr => ⟨_, pm_c, ?_⟩⟩
      conv => whnf
      obtain ⟨c, g1, g2⟩ := chr_of he2.1 (by rw [he10]; exact hr)
      refine ⟨sz_ok (by omega), c, g1, ?_⟩
      have l6 := ln_cut6 (x := w)
      conv => whnf
      refine ⟨sz_ok (by rw [ln_chr]; omega), ?_⟩
      conv => whnf
      refine ⟨[(p, src a b)], _, pm_c, p, a, b, 10, rfl, rfl, by decide, by decide, fun r a b hr => ⟨_, pm_c, ?_⟩⟩
      conv => whnf
      obtain ⟨c', g3, g4⟩ := chr_of he2.1 (by rw [he10]; exact hr)
      refine ⟨sz_ok (by omega), c', g3, ?_⟩
      conv => whnf
      refine ⟨sz_ok (by rw [ln_app, ln_chr, ln_chr]; omega), hK _ _ ⟨_, _, _, _, a, b, rfl, rfl, so_app (so_app (so_cut hw.1) g2) g4, ?_⟩⟩
      rw [ln_app, ln_app, ln_chr, ln_chr]
      omega
    rintro env L ⟨x6, x8, x9, w, a, b, rfl, rfl, hw⟩
    refine seq_for ?_
    refine for_l (List.range n) eN (fun _ => True) (fun j env L => ∃ (x6 x8 x9 : En) (w : Str) (a' b' : Int), env = [.own p, .dat (.int n), .dat (.str e), .dat (.str lS), .dat (.list (menuS.map .str)), .own p5, x6, .dat (.str w), x8, x9] ∧ L = [(p5, OD.lst (ws.map .str)), (p, src a' b')] ∧ W8 w)
      (fun P h => ⟨n, rfl, by omega, by omega, h⟩) ⟨_, _, _, w, a, b, rfl, rfl, hw⟩ ?_ ?_
    · rintro j x env L hx ⟨x6, x8, x9, w, a, b, rfl, rfl, hw⟩
      obtain ⟨hj, rfl⟩ := rg_get hx
      refine ⟨trivial, _, rfl, ?_⟩
      have hwl := hw.2
      conv => whnf
      refine .inr (.inl ⟨w, ws, rfl, .inr (.inr ⟨p5, 0, rfl, rfl⟩), ?_⟩)
      conv => whnf
      refine ⟨fun _ => ?_, fun _ => ⟨_, _, _, w, a, b, rfl, rfl, hw⟩⟩
      conv => whnf
      obtain ⟨c, g1, g2⟩ := chr_of lT_ok.1 (r := x) (by rw [lT_ok.2]; omega)
      refine ⟨sz_ok (by show lT.length ≤ 100000; rw [lT_ok.2]; decide), c, g1, ?_⟩
      conv => whnf
      refine ⟨sz_ok (by omega), ?_⟩
      conv => whnf
      have l1 := ln_cut1 (x := w)
      refine ⟨sz_ok (by rw [ln_chr]; omega), _, _, _, _, a, b, rfl, rfl, so_app g2 (so_cut hw.1), ?_⟩
      rw [ln_app, ln_chr]
      omega
    · rintro env L ⟨x6, x8, x9, w, a, b, rfl, rfl, hw⟩
      refine ⟨trivial, ?_⟩
      conv => whnf
      refine ⟨p5, 0, _, rfl, rfl, 0, _, .str w, rfl, rfl, by rw [List.length_map]; omega, ws ++ [w], _, _, _, _, a, b, rfl, ?_, by rw [List.length_append, h1]; rfl, fun x hx => ?_⟩
      · rw [List.map_append]
        rfl
      · rcases List.mem_append.mp hx with hx | hx
        · exact h2 x hx
        · rw [List.mem_singleton] at hx
          exact hx ▸ hw
  · rintro env L ⟨ws, x6, x7, x8, x9, a, b, rfl, rfl, h1, h2⟩
    rw [List.length_range] at h1
    refine ⟨trivial, ?_⟩
    conv => whnf
    exact ⟨p5, 0, _, rfl, rfl, hp ws a b h1 fun x hx => ⟨(h2 x hx).1, by have := (h2 x hx).2; omega⟩⟩
end Mn
namespace Mn
open PySem PySem.Spec PyProof.Rows L2
variable (G : Gp)
theorem lc_w {α : Type} {w : AI} {t : Tg} {tt : AT} {te : AE} {vs : List Nat} {env : List En} {L : List Cell} {post : En → List Cell → Prop} (xs : List α) (f : α → PyData) (kp : List Cell → Prop) (J : Nat → List PyData → List Cell → Prop) (hw : ∀ P : List PyData → (List Cell → Prop) → List Cell → Prop, P (xs.map f) kp L → w env L P) (h0 : J 0 [] L)
    (hs : ∀ i x acc L, xs[i]? = some x → J i acc L → kp L ∧ ∃ env', bindT t (f x) (wipeE env vs) = some env' ∧ tt env' L fun b L2 => (b = true → te env' L2 fun y L3 => ∃ d, y = .dat d ∧ acc.length < 100000 ∧ J (i + 1) (acc ++ [d]) L3) ∧ (b = false → J (i + 1) acc L2))
    (hd : ∀ acc L, J xs.length acc L → kp L ∧ post (.dat (.list acc)) L) : aLc w t tt te vs env L post := by
  refine hw _ ⟨J, h0, fun i d acc L h hj => ?_, fun acc L hj => hd acc L (by rwa [List.length_map] at hj)⟩
  have hi : i < xs.length := by simpa using (List.getElem?_eq_some_iff.mp h).1
  have ew : xs[i]? = some xs[i] := by simp [hi]
  rw [get_map ew] at h
  cases h
  exact hs i _ acc L ew hj
theorem len2 {ws : List Str} (h : ws.length = 2) : ∃ x y, ws = [x, y] := by
  match ws, h with
  | [x, y], _ => exact ⟨x, y, rfl⟩
theorem len3 {ws : List Str} (h : ws.length = 3) : ∃ x y z, ws = [x, y, z] := by
  match ws, h with
  | [x, y, z], _ => exact ⟨x, y, z, rfl⟩
theorem pk4 {r : Nat} (h : r < 4) : ∃ v : Nat, (v = 1 ∨ v = 2) ∧ atI [PyData.int 1, .int 1, .int 2, .int 1] (r : Int) = some (.int v) := by
  have : r = 0 ∨ r = 1 ∨ r = 2 ∨ r = 3 := by omega
  rcases this with rfl | rfl | rfl | rfl
  · exact ⟨1, .inl rfl, rfl⟩
  · exact ⟨1, .inl rfl, rfl⟩
  · exact ⟨2, .inr rfl, rfl⟩
  · exact ⟨1, .inl rfl, rfl⟩
theorem pk5 {r : Nat} (h : r < 5) : ∃ v : Nat, v ≤ 2 ∧ atI [PyData.int 0, .int 1, .int 1, .int 2, .int 2] (r : Int) = some (.int v) := by
  have : r = 0 ∨ r = 1 ∨ r = 2 ∨ r = 3 ∨ r = 4 := by omega
  rcases this with rfl | rfl | rfl | rfl | rfl
  · exact ⟨0, by decide, rfl⟩
  · exact ⟨1, by decide, rfl⟩
  · exact ⟨1, by decide, rfl⟩
  · exact ⟨2, by decide, rfl⟩
  · exact ⟨2, by decide, rfl⟩
theorem law_l_plan : LawB (C_l_plan G) (b_l_plan G) N_l_plan := by
  rintro ens L post ⟨p, a, b, rfl, rfl, hp⟩
  show b_l_plan G _ [.own p, .dat (.int 0), .no, .no, .no, .no, .no, .no, .no, .no, .no, .no, .no, .no, .no] _
  unfold b_l_plan
  refine seq_k (fun env L => ∃ (names : List Str) (a b : Int), env = [.own p, .dat (.int 0), .dat (.tuple (names.map .str)), .no, .no, .no, .no, .no, .no, .no, .no, .no, .no, .no, .no] ∧ L = [(p, src a b)] ∧ (names.length = 1 ∨ names.length = 2) ∧ ∀ x ∈ names, Wd x) ?_ (fun K hK => ?_)
  rotate_left
  · conv => whnf
    refine ⟨_, rfl, by show 4 ≤ 100000; decide, ?_⟩
    conv => whnf
    refine ⟨_, rfl, by show 4 ≤ 100000; decide, ?_⟩
    conv => whnf
    refine ⟨_, rfl, by show 2 ≤ 100000; decide, ?_⟩
    conv => whnf
    refine ⟨.list [.int 1, .int 1, .int 2, .int 1], rfl, ?_⟩
    conv => whnf
    refine ⟨_, [], pm_nil, p, a, b, 4, rfl, rfl, by decide, by decide, fun r a b hr => ⟨_, pm_nil, ?_⟩⟩
    obtain ⟨v, hv, hat⟩ := pk4 hr
    conv => whnf
    refine ⟨_, hat, ?_⟩
    conv => whnf
    refine ⟨_, [], pm_nil, p, a, b, v, "", rfl, rfl, by omega, .inl rfl, fun ws a b h1 h2 => ⟨_, pm_nil, ?_⟩⟩
    exact hK _ _ ⟨ws, a, b, rfl, rfl, by omega, h2⟩
  rintro env L ⟨names, a, b, rfl, rfl, n1, n2⟩
  refine seq_k (fun env L => ∃ (t0 t1 t2 : Str) (a b : Int), env = [.own p, .dat (.int 0), .dat (.tuple (names.map .str)), .dat (.tuple [.str t0, .str t1, .str t2]), .no, .no, .no, .no, .no, .no, .no, .no, .no, .no, .no] ∧ L = [(p, src a b)] ∧ Wd t0 ∧ Wd t1 ∧ Wd t2) ?_ (fun K hK => ?_)
  rotate_left
  · conv => whnf
    refine ⟨_, [], pm_nil, p, a, b, 3, "", rfl, rfl, by omega, .inl rfl, fun ws a b h1 h2 => ⟨_, pm_nil, ?_⟩⟩
    obtain ⟨x, y, z, rfl⟩ := len3 h1
    exact hK _ _ ⟨x, y, z, a, b, rfl, rfl, h2 x (by simp), h2 y (by simp), h2 z (by simp)⟩
  rintro env L ⟨t0, t1, t2, a, b, rfl, rfl, w0, w1, w2⟩
  refine seq_k (fun env L => ∃ (f0 f1 : Str) (a b : Int), env = [.own p, .dat (.int 0), .dat (.tuple (names.map .str)), .dat (.tuple [.str t0, .str t1, .str t2]), .dat (.tuple [.str f0, .str f1]), .no, .no, .no, .no, .no, .no, .no, .no, .no, .no] ∧ L = [(p, src a b)] ∧ Wd f0 ∧ Wd f1) ?_ (fun K hK => ?_)
  rotate_left
  · conv => whnf
    refine ⟨_, [], pm_nil, p, a, b, 2, "", rfl, rfl, by omega, .inl rfl, fun ws a b h1 h2 => ⟨_, pm_nil, ?_⟩⟩
    obtain ⟨x, y, rfl⟩ := len2 h1
    exact hK _ _ ⟨x, y, a, b, rfl, rfl, h2 x (by simp), h2 y (by simp)⟩
  rintro env L ⟨f0, f1, a, b, rfl, rfl, w3, w4⟩
  refine seq_k (fun env L => ∃ (s0 s1 : Str) (a b : Int), env = [.own p, .dat (.int 0), .dat (.tuple (names.map .str)), .dat (.tuple [.str t0, .str t1, .str t2]), .dat (.tuple [.str f0, .str f1]), .dat (.tuple [.str s0, .str s1]), .no, .no, .no, .no, .no, .no, .no, .no, .no] ∧ L = [(p, src a b)] ∧ Wd s0 ∧ Wd s1) ?_ (fun K hK => ?_)
  rotate_left
  · conv => whnf
    refine ⟨_, [], pm_nil, p, a, b, 2, "", rfl, rfl, by omega, .inl rfl, fun ws a b h1 h2 => ⟨_, pm_nil, ?_⟩⟩
    obtain ⟨x, y, rfl⟩ := len2 h1
    exact hK _ _ ⟨x, y, a, b, rfl, rfl, h2 x (by simp), h2 y (by simp)⟩
  rintro env L ⟨s0, s1, a, b, rfl, rfl, w5, w6⟩
  refine seq_k (fun env L => ∃ (s0 s1 : Str) (a b : Int), env = [.own p, .dat (.int 0), .dat (.tuple (names.map .str)), .dat (.tuple [.str t0, .str t1, .str t2]), .dat (.tuple [.str f0, .str f1]), .dat (.tuple [.str s0, .str s1]), .no, .no, .no, .no, .no, .no, .no, .no, .no] ∧ L = [(p, src a b)] ∧ Wd s0 ∧ Wd s1) ?_ (fun K hK => ?_)
  rotate_left
  · conv => whnf
    refine ⟨.str f1, rfl, ?_⟩
    conv => whnf
    refine .inr (.inl ⟨f1, [s0, s1], rfl, .inr (.inl rfl), ?_⟩)
    conv => whnf
    refine ⟨fun _ => ?_, fun _ => hK _ _ ⟨s0, s1, a, b, rfl, rfl, w5, w6⟩⟩
    conv => whnf
    refine ⟨.str s0, rfl, ?_⟩
    conv => whnf
    refine ⟨.str f1, rfl, ?_⟩
    conv => whnf
    exact ⟨_, rfl, by show 2 ≤ 100000; decide, hK _ _ ⟨s0, f1, a, b, rfl, rfl, w5, w4⟩⟩
  rintro env L ⟨s0, s1, a, b, rfl, rfl, w5, w6⟩
  have pw : Prop := True
  refine seq_k (fun env L => ∃ (ports : List (Str × List Str)) (a b : Int), env = [.own p, .dat (.int 0), .dat (.tuple (names.map .str)), .dat (.tuple [.str t0, .str t1, .str t2]), .dat (.tuple [.str f0, .str f1]), .dat (.tuple [.str s0, .str s1]), .dat (.list (ports.map ePort)), .no, .no, .no, .no, .no, .no, .no, .no] ∧ L = [(p, src a b)] ∧ ports.length = 3 ∧ ∀ p ∈ ports, Wd p.1 ∧ 0 < p.2.length ∧ p.2.length ≤ 4 ∧ ∀ x ∈ p.2, Wd x) ?_ (fun K hK => ?_)
  rotate_left
  · conv => whnf
    refine ⟨.str t0, rfl, ?_⟩
    conv => whnf
    refine ⟨_, rfl, by show 2 ≤ 100000; decide, ?_⟩
    conv => whnf
    refine ⟨.str t1, rfl, ?_⟩
    conv => whnf
    refine ⟨_, rfl, by show 2 ≤ 100000; decide, ?_⟩
    conv => whnf
    refine ⟨.str t2, rfl, ?_⟩
    conv => whnf
    refine ⟨_, [], pm_nil, p, a, b, 4, "", rfl, rfl, by omega, .inl rfl, fun ws a b h1 h2 => ⟨_, pm_nil, ?_⟩⟩
    conv => whnf
    refine ⟨_, rfl, by show 2 ≤ 100000; decide, ?_⟩
    conv => whnf
    refine ⟨_, rfl, by show 3 ≤ 100000; decide, ?_⟩
    refine hK _ _ ⟨[(t0, [f0, f1]), (t1, [s0, s1]), (t2, ws)], a, b, rfl, rfl, rfl, fun q hq => ?_⟩
    simp only [List.mem_cons, List.not_mem_nil, or_false] at hq
    rcases hq with rfl | rfl | rfl
    · refine ⟨w0, by show 0 < 2; decide, by show 2 ≤ 4; decide, fun x hx => ?_⟩
      simp only [List.mem_cons, List.not_mem_nil, or_false] at hx
      rcases hx with rfl | rfl <;> assumption
    · refine ⟨w1, by show 0 < 2; decide, by show 2 ≤ 4; decide, fun x hx => ?_⟩
      simp only [List.mem_cons, List.not_mem_nil, or_false] at hx
      rcases hx with rfl | rfl <;> assumption
    · exact ⟨w2, by show 0 < ws.length; omega, by show ws.length ≤ 4; omega, h2⟩
  rintro env L ⟨ports, a, b, rfl, rfl, q1, q2⟩
  refine seq_k (fun env L => ∃ (ports : List (Str × List Str)) (a b : Int), env = [.own p, .dat (.int 0), .dat (.tuple (names.map .str)), .dat (.tuple [.str t0, .str t1, .str t2]), .dat (.tuple [.str f0, .str f1]), .dat (.tuple [.str s0, .str s1]), .dat (.list (ports.map ePort)), .no, .no, .no, .no, .no, .no, .no, .no] ∧ L = [(p, src a b)] ∧ 0 < ports.length ∧ ports.length ≤ 4 ∧ ∀ p ∈ ports, Wd p.1 ∧ 0 < p.2.length ∧ p.2.length ≤ 4 ∧ ∀ x ∈ p.2, Wd x) ?_ (fun K hK => ?_)
  rotate_left
  · conv => whnf
    refine ⟨cmulR (by decide), ?_⟩
    conv => whnf
    refine ⟨_, rfl, by show 4 ≤ 100000; decide, ?_⟩
    conv => whnf
    refine ⟨_, [], pm_nil, p, a, b, 4, rfl, rfl, by decide, by decide, fun r a b hr => ⟨_, pm_nil, ?_⟩⟩
    obtain ⟨v, hv, hat⟩ := pk4 hr
    conv => whnf
    refine ⟨.int v, hat, ?_⟩
    refine hK _ _ ⟨ports.take v, a, b, ?_, rfl, ?_, ?_, fun q hq => q2 q (List.mem_of_mem_take hq)⟩
    · have e : cutD (ports.map ePort) none (some (v : Int)) = (ports.take v).map ePort := by rw [cutD_to (by rw [List.length_map]; omega), List.map_take]
      rw [← e]
      rfl
    · rw [List.length_take]
      omega
    · rw [List.length_take]
      omega
  clear q1 q2
  rintro env L ⟨ports, a, b, rfl, rfl, q1, q2, q3⟩
  refine seq_k (fun env L => ∃ (v : Nat) (a b : Int), env = [.own p, .dat (.int 0), .dat (.tuple (names.map .str)), .dat (.tuple [.str t0, .str t1, .str t2]), .dat (.tuple [.str f0, .str f1]), .dat (.tuple [.str s0, .str s1]), .dat (.list (ports.map ePort)), .dat (.int v), .no, .no, .no, .no, .no, .no, .no] ∧ L = [(p, src a b)] ∧ v ≤ 2) ?_ (fun K hK => ?_)
  rotate_left
  · conv => whnf
    refine ⟨cmulR (by decide), ?_⟩
    conv => whnf
    refine ⟨_, rfl, by show 5 ≤ 100000; decide, ?_⟩
    conv => whnf
    refine ⟨_, [], pm_nil, p, a, b, 5, rfl, rfl, by decide, by decide, fun r a b hr => ⟨_, pm_nil, ?_⟩⟩
    obtain ⟨v, hv, hat⟩ := pk5 hr
    conv => whnf
    exact ⟨.int v, hat, hK _ _ ⟨v, a, b, rfl, rfl, hv⟩⟩
  rintro env L ⟨v, a, b, rfl, rfl, hv⟩
  refine seq_k (fun env L => env = [.own p, .dat (.int 0), .dat (.tuple (names.map .str)), .dat (.tuple [.str t0, .str t1, .str t2]), .dat (.tuple [.str f0, .str f1]), .dat (.tuple [.str s0, .str s1]), .dat (.list (ports.map ePort)), .dat (.int v), .dat (.list [.int 0, .int 1, .int 1, .int 2, .int 2]), .no, .no, .no, .no, .no, .no] ∧ L = [(p, src a b)]) ?_ (fun K hK => ?_)
  rotate_left
  · conv => whnf
    exact ⟨_, rfl, by show 5 ≤ 100000; decide, hK _ _ ⟨rfl, rfl⟩⟩
  rintro env L ⟨rfl, rfl⟩
  refine seq_k (fun env L => env = [.own p, .dat (.int 0), .dat (.tuple (names.map .str)), .dat (.tuple [.str t0, .str t1, .str t2]), .dat (.tuple [.str f0, .str f1]), .dat (.tuple [.str s0, .str s1]), .dat (.list (ports.map ePort)), .dat (.int v), .dat (.list [.int 0, .int 1, .int 1, .int 2, .int 2]), .no, .no, .no, .no, .no, .no] ∧ L = [(p, src a b)]) ?_ (fun K hK => ?_)
  rotate_left
  · conv => whnf
    refine ⟨sh_int, sh_int, ?_⟩
    conv => whnf
    refine ⟨fun h => ?_, fun _ => ⟨fun h => nf h, fun _ => hK _ _ ⟨rfl, rfl⟩⟩⟩
    rw [eqv_int] at h
    exact nf (show false = true from h)
  rintro env L ⟨rfl, rfl⟩
  refine seq_k (fun env L => ∃ (words : List Str) (a b : Int), env = [.own p, .dat (.int 0), .dat (.tuple (names.map .str)), .dat (.tuple [.str t0, .str t1, .str t2]), .dat (.tuple [.str f0, .str f1]), .dat (.tuple [.str s0, .str s1]), .dat (.list (ports.map ePort)), .dat (.int v), .dat (.list [.int 0, .int 1, .int 1, .int 2, .int 2]), .dat (.tuple (words.map .str)), .no, .no, .no, .no, .no] ∧ L = [(p, src a b)] ∧ words.length = v + 1 ∧ ∀ x ∈ words, Wd x) ?_ (fun K hK => ?_)
  rotate_left
  · conv => whnf
    refine ⟨_, [], pm_nil, p, a, b, v + 1, digits, rfl, rfl, by omega, .inr rfl, fun ws a b h1 h2 => ⟨_, pm_nil, ?_⟩⟩
    exact hK _ _ ⟨ws, a, b, rfl, rfl, h1, h2⟩
  rintro env L ⟨words, a, b, rfl, rfl, m1, m2⟩
  refine seq_k (fun env L => ∃ (modes : List (Str × Nat)) (a b : Int), env = [.own p, .dat (.int 0), .dat (.tuple (names.map .str)), .dat (.tuple [.str t0, .str t1, .str t2]), .dat (.tuple [.str f0, .str f1]), .dat (.tuple [.str s0, .str s1]), .dat (.list (ports.map ePort)), .dat (.int v), .dat (.list [.int 0, .int 1, .int 1, .int 2, .int 2]), .dat (.tuple (words.map .str)), .dat (.list (modes.map eMode)), .no, .no, .no, .no] ∧ L = [(p, src a b)] ∧ 0 < modes.length ∧ modes.length ≤ 5 ∧ ((modes[0]?).map (·.2)).getD 0 = 0 ∧ ∀ m ∈ modes, Wd m.1 ∧ m.2 ≤ 4) ?_ (fun K hK => ?_)
  rotate_left
  · have g0 : words[0]? = some (words.getD 0 ⟨#[]⟩) := getD_some (by omega)
    conv => whnf
    refine ⟨_, atI_nat (i := 0) (get_map g0), ?_⟩
    conv => whnf
    refine ⟨_, rfl, by show 2 ≤ 100000; decide, ?_⟩
    conv => whnf
    refine ⟨_, rfl, by show 1 ≤ 100000; decide, ?_⟩
    refine lc_w (List.range v) eN (fun _ => True) (fun k acc L => ∃ (ms : List (Str × Nat)) (a b : Int), acc = ms.map eMode ∧ L = [(p, src a b)] ∧ ms.length = k ∧ ∀ m ∈ ms, Wd m.1 ∧ m.2 ≤ 4) (fun P h => ⟨v, rfl, by omega, by omega, h⟩) ⟨[], a, b, rfl, rfl, rfl, fun m hm => by cases hm⟩ ?_ ?_
    · rintro k x acc L hx ⟨ms, a, b, rfl, rfl, o1, o2⟩
      obtain ⟨hk, rfl⟩ := rg_get hx
      refine ⟨trivial, _, rfl, ?_⟩
      have gk : words[x + 1]? = some (words.getD (x + 1) ⟨#[]⟩) := getD_some (by omega)
      conv => whnf
      refine ⟨fun _ => ?_, fun h => nf h.symm⟩
      conv => whnf
      refine ⟨_, atI_nat (i := x + 1) (get_map gk), ?_⟩
      conv => whnf
      refine ⟨_, [], pm_nil, p, a, b, 5, rfl, rfl, by decide, by decide, fun r a b hr => ⟨_, pm_nil, ?_⟩⟩
      obtain ⟨v2, hv2, hat⟩ := pk5 hr
      conv => whnf
      refine ⟨.int v2, hat, ?_⟩
      conv => whnf
      refine ⟨_, rfl, by show 2 ≤ 100000; decide, ?_⟩
      refine ⟨_, rfl, by rw [List.length_map]; omega, ms ++ [(words.getD (x + 1) ⟨#[]⟩, v2)], a, b, ?_, rfl, by rw [List.length_append, o1]; rfl, fun m hm => ?_⟩
      · rw [List.map_append]
        rfl
      · rcases List.mem_append.mp hm with hm | hm
        · exact o2 m hm
        · rw [List.mem_singleton] at hm
          subst hm
          exact ⟨m2 _ (getD_mem (by omega)), by show v2 ≤ 4; omega⟩
    · rintro acc L ⟨ms, a, b, rfl, rfl, o1, o2⟩
      rw [List.length_range] at o1
      refine ⟨trivial, ?_⟩
      conv => whnf
      refine ⟨sz_ok (by rw [List.length_map]; show 1 + ms.length ≤ 100000; omega), ?_⟩
      refine hK _ _ ⟨(words.getD 0 ⟨#[]⟩, 0) :: ms, a, b, rfl, rfl, by rw [List.length_cons]; omega, by rw [List.length_cons]; omega, rfl, fun m hm => ?_⟩
      rcases List.mem_cons.mp hm with rfl | hm
      · exact ⟨m2 _ (getD_mem (by omega)), by show 0 ≤ 4; decide⟩
      · exact o2 m hm
  rintro env L ⟨modes, a, b, rfl, rfl, m3, m4, m5, m6⟩
  have ok : FrOk ⟨names, ports, modes⟩ := ⟨by show 0 < names.length; omega, by show names.length ≤ 4; omega, n2, q1, q2, q3, m3, m4, m5, m6⟩
  refine seq_k (fun env L => env = [.own p, .dat (.int 0), .dat (.tuple (names.map .str)), .dat (.tuple [.str t0, .str t1, .str t2]), .dat (.tuple [.str f0, .str f1]), .dat (.tuple [.str s0, .str s1]), .dat (.list (ports.map ePort)), .dat (.int v), .dat (.list [.int 0, .int 1, .int 1, .int 2, .int 2]), .dat (.tuple (words.map .str)), .dat (.list (modes.map eMode)), .dat (ePlan ⟨names, ports, modes⟩ []), .no, .no, .no] ∧ L = [(p, src a b)]) ?_ (fun K hK => ?_)
  rotate_left
  · conv => whnf
    refine ⟨_, rfl, by show 0 ≤ 100000; decide, ?_⟩
    conv => whnf
    exact ⟨_, rfl, by show 4 ≤ 100000; decide, hK _ _ ⟨rfl, rfl⟩⟩
  rintro env L ⟨rfl, rfl⟩
  refine seq_k (fun env L => ∃ pr, env = [.own p, .dat (.int 0), .dat (.tuple (names.map .str)), .dat (.tuple [.str t0, .str t1, .str t2]), .dat (.tuple [.str f0, .str f1]), .dat (.tuple [.str s0, .str s1]), .dat (.list (ports.map ePort)), .dat (.int v), .dat (.list [.int 0, .int 1, .int 1, .int 2, .int 2]), .dat (.tuple (words.map .str)), .dat (.list (modes.map eMode)), .dat (ePlan ⟨names, ports, modes⟩ []), .own pr, .no, .no] ∧ L = [(pr, OD.lst []), (p, src a b)]) ?_ (fun K hK => ⟨_, rfl, by decide, fun pr => hK _ _ ⟨pr, rfl, rfl⟩⟩)
  rintro env L ⟨pr, rfl, rfl⟩
  generalize hF : (⟨names, ports, modes⟩ : Fr) = F at ok ⊢
  have hcl := cells_len ok
  refine seq_for ?_
  refine for_l (cellsF F) eCel (fun _ => True) (fun i env L => ∃ (rows : List (Cel × Rw)) (x13 : En) (a b : Int), env = [.own p, .dat (.int 0), .dat (.tuple (names.map .str)), .dat (.tuple [.str t0, .str t1, .str t2]), .dat (.tuple [.str f0, .str f1]), .dat (.tuple [.str s0, .str s1]), .dat (.list (ports.map ePort)), .dat (.int v), .dat (.list [.int 0, .int 1, .int 1, .int 2, .int 2]), .dat (.tuple (words.map .str)), .dat (.list (modes.map eMode)), .dat (ePlan F []), .own pr, x13, .no] ∧ L = [(pr, OD.lst (rows.map ePair)), (p, src a b)] ∧ rows.length ≤ i ∧ ∀ q ∈ rows, CelOk F q.1 ∧ RwOk F q.1 q.2) (fun P h => ?_) ⟨[], _, a, b, rfl, rfl, Nat.le_refl _, fun q hq => by cases hq⟩ ?_ ?_
  · conv => whnf
    exact ⟨[], _, .refl _, F, [], rfl, rfl, ok, _, .refl _, wk_l h⟩
  · rintro i c env L hx ⟨rows, x13, a, b, rfl, rfl, r1, r2⟩
    have hi : i < (cellsF F).length := (List.getElem?_eq_some_iff.mp hx).1
    have hc := mem_cells.mp (List.mem_of_getElem? hx)
    refine ⟨trivial, _, rfl, ?_⟩
    conv => whnf
    refine ⟨[(p, src a b)], _, pm_c, p, a, b, 4, rfl, rfl, by decide, by decide, fun r a b hr => ⟨_, pm_c, ?_⟩⟩
    conv => whnf
    refine ⟨fun _ => ?_, fun _ => ⟨rows, _, a, b, rfl, rfl, by omega, r2⟩⟩
    conv => whnf
    refine ⟨pr, 0, _, rfl, rfl, ?_⟩
    conv => whnf
    refine ⟨[(p, src a b)], _, pm_c, p, a, b, F, [], c, rfl, rfl, ok, hc, fun r a b hr => ⟨_, pm_c, ?_⟩⟩
    conv => whnf
    refine ⟨_, rfl, by show 2 ≤ 100000; decide, 0, _, _, rfl, rfl, by rw [List.length_map]; omega, ?_⟩
    refine ⟨rows ++ [(c, r)], _, a, b, rfl, ?_, by rw [List.length_append]; show rows.length + 1 ≤ i + 1; omega, fun q hq => ?_⟩
    · rw [List.map_append]
      rfl
    · rcases List.mem_append.mp hq with hq | hq
      · exact r2 q hq
      · rw [List.mem_singleton] at hq
        subst hq
        exact ⟨hc, hr⟩
  · rintro env L ⟨rows, x13, a, b, rfl, rfl, r1, r2⟩
    refine ⟨trivial, ?_⟩
    conv => whnf
    refine ⟨_, rfl, ?_⟩
    conv => whnf
    refine ⟨_, rfl, ?_⟩
    conv => whnf
    refine ⟨_, rfl, ?_⟩
    conv => whnf
    refine ⟨pr, 0, _, rfl, rfl, ?_⟩
    conv => whnf
    exact ⟨_, rfl, by show 4 ≤ 100000; decide, hp F rows a b ok ⟨by omega, r2⟩ (by omega)⟩
end Mn
namespace Mn
open PySem PySem.Spec PyProof.Rows L2
variable (G : Gp)
theorem law_l_program : LawB (C_l_program G) (b_l_program G) N_l_program := by
  rintro ens L post ⟨F, rows, rfl, rfl, ok, hr, hp⟩
  show b_l_program G _ [.dat (ePlan F rows)] _
  unfold b_l_program
  conv => whnf
  refine ⟨_, rfl, ?_⟩
  conv => whnf
  refine ⟨_, rfl, ?_⟩
  conv => whnf
  refine ⟨_, rfl, ?_⟩
  conv => whnf
  refine ⟨_, rfl, ?_⟩
  conv => whnf
  intro q dx
  have e : (rows.map ePair).reverse = rows.reverse.map ePair := List.map_reverse.symm
  refine ⟨F, rows.reverse, q, dx, ?_, rfl, ok, ⟨by rw [List.length_reverse]; exact hr.1, fun q hq => hr.2 q (List.mem_reverse.mp hq)⟩, rfl, dx, _, _, _, _, rfl, hp⟩
  rw [← e]
theorem idle_ok {F : Fr} (ok : FrOk F) {c : Cel} (hc : CelOk F c) : RwOk F c (idleR F c) := rfOf_ok (rows := []) ok (fun q hq => by cases hq) c hc
theorem law_l_idle : LawB (C_l_idle G) (b_l_idle G) N_l_idle := by
  rintro ens L post ⟨F, rows, c, rfl, rfl, ok, hc, hp⟩
  obtain ⟨m, n, p⟩ := c
  obtain ⟨s, hs⟩ := mode_at hc.1
  have hh := ok.held_le m
  show b_l_idle G _ [.dat (ePlan F rows), .dat (.tuple [.int m, .int n, .int p]), .no, .no, .no, .no, .no] _
  unfold b_l_idle
  refine seq_k (fun env L => env = [.dat (ePlan F rows), .dat (.tuple [.int m, .int n, .int p]), .no, .dat (.int m), .dat (.int n), .dat (.int p), .no] ∧ L = []) ?_ (fun K hK => ⟨_, _, rfl, rfl, hK _ _ ⟨rfl, rfl⟩⟩)
  rintro env L ⟨rfl, rfl⟩
  refine seq_k (fun env L => env = [.dat (ePlan F rows), .dat (.tuple [.int m, .int n, .int p]), .dat (.int (F.held m)), .dat (.int m), .dat (.int n), .dat (.int p), .no] ∧ L = []) ?_ (fun K hK => ?_)
  rotate_left
  · conv => whnf
    refine ⟨.tuple (F.modes.map eMode), rfl, ?_⟩
    conv => whnf
    refine ⟨_, atI_nat (get_map hs), ?_⟩
    conv => whnf
    exact ⟨.int (F.held m), rfl, hK _ _ ⟨rfl, rfl⟩⟩
  rintro env L ⟨rfl, rfl⟩
  have hpp : ((p : Int) % 2 = 1) ↔ p % 2 = 1 := by omega
  refine seq_if ?_
  conv => whnf
  refine ⟨(by decide : (0 : Int) < 2), ?_⟩
  conv => whnf
  refine ⟨sh_int, sh_int, ?_⟩
  conv => whnf
  rw [eqv_int]
  refine ⟨fun h => ?_, fun h => ?_⟩
  · rw [decide_eq_true_eq, hpp] at h
    simp only [aSeq, aNext, aExpr, aRet, aIf, aAsg, aName, aC, aVar, aNil, aCons, aTup, aLst, aOwn, aTwo, aOp, aUn, aNary, aB, aAnd, aOr, aNot, aAndV, aNotV, aI0, aI2, aEqD, aNeD, aIsN, aAddS, aCat, aIx, aSl, aNoO, aSoO, aBetw, aLen, aIntU, aListOf, aTupOf, aFld, aProg, aFrz, aFrzD, aApp, aSetIx, aAug, aTg, aUnL, aUn2, aIsi, aNeg, aRev, aYes, aWalk, aRange, aEnT, aEnO, aFSt, aFAug, aDNew, dats, Option.map_some, List.getElem?_cons_zero, List.getElem?_cons_succ, List.set_cons_zero, List.set_cons_succ]
    refine lc_m ((List.range (F.held m)).map eN) (fun _ => True) (fun d => d) (fun P h => ⟨(F.held m : Nat), rfl, by omega, by omega, h⟩) trivial (by simp; omega) (fun i d hd => ⟨_, rfl, fun P h => h⟩) ?_
    conv => whnf
    refine ⟨_, rfl, by decide, ?_⟩
    conv => whnf
    refine ⟨_, rfl, by show 3 ≤ 100000; decide, ?_⟩
    have e : eRw (idleR F (m, n, p)) = .tuple [.int m, .tuple (((List.range (F.held m)).map eN).map fun d => d), .tuple []] := by
      unfold idleR
      rw [if_pos h, List.map_id']
      rfl
    rw [← e]
    exact hp
  · rw [decide_eq_false_iff_not, hpp] at h
    simp only [aSeq, aNext, aExpr, aRet, aIf, aAsg, aName, aC, aVar, aNil, aCons, aTup, aLst, aOwn, aTwo, aOp, aUn, aNary, aB, aAnd, aOr, aNot, aAndV, aNotV, aI0, aI2, aEqD, aNeD, aIsN, aAddS, aCat, aIx, aSl, aNoO, aSoO, aBetw, aLen, aIntU, aListOf, aTupOf, aFld, aProg, aFrz, aFrzD, aApp, aSetIx, aAug, aTg, aUnL, aUn2, aIsi, aNeg, aRev, aYes, aWalk, aRange, aEnT, aEnO, aFSt, aFAug, aDNew, dats, Option.map_some, List.getElem?_cons_zero, List.getElem?_cons_succ, List.set_cons_zero, List.set_cons_succ, oAdd, oFdiv]
    refine lc_l (List.range (F.held m + 1)) eN eN (fun k => decide (k ≠ p / 2)) (fun _ => True) (fun P h => ⟨(F.held m + 1 : Nat), rfl, by omega, by omega, h⟩) trivial (by simp; omega) (fun i k hk => ?_) ?_
    · refine ⟨_, rfl, fun P h => ?_, fun _ P h => h⟩
      conv => whnf
      refine ⟨⟨by decide, by decide⟩, ?_⟩
      conv => whnf
      refine ⟨sh_int, sh_int, ?_⟩
      have e : decide (k ≠ p / 2) = !PyData.eqv (eN k) (.int ((p : Int) / 2)) := by
        unfold eN
        rw [eqv_int, ← decide_not]
        congr 1
        apply propext
        omega
      rw [e] at h
      exact h
    conv => whnf
    refine ⟨_, rfl, by decide, ?_⟩
    conv => whnf
    refine ⟨_, rfl, by show 3 ≤ 100000; decide, ?_⟩
    have e : eRw (idleR F (m, n, p)) = .tuple [.int m, .tuple (((List.range (F.held m + 1)).filter fun k => decide (k ≠ p / 2)).map eN), .tuple []] := by
      unfold idleR
      rw [if_neg h]
      rfl
    rw [← e]
    exact hp
theorem law_l_table : LawB (C_l_table G) (b_l_table G) N_l_table := by
  rintro ens L post ⟨F, rows, rfl, rfl, ok, hr, hp⟩
  have hcl := cells_len ok
  have hrl := hr.1
  show b_l_table G _ [.dat (ePlan F rows), .no, .no, .no] _
  unfold b_l_table
  refine seq_k (fun env L => ∃ q, env = [.dat (ePlan F rows), .own q, .no, .no] ∧ L = [(q, OD.dic [])]) ?_ (fun K hK => fun q => hK _ _ ⟨q, rfl, rfl⟩)
  rintro env L ⟨q, rfl, rfl⟩
  refine seq_k (fun env L => ∃ x2 kds, env = [.dat (ePlan F rows), .own q, x2, .no] ∧ L = [(q, OD.dic kds)] ∧ kds.length ≤ 180 ∧ ∀ c, CelOk F c → ∃ r, RwOk F c r ∧ valD kds (kCel c) = some (eRw r)) ?_ (fun K hK => ?_)
  rotate_left
  · refine for_l (cellsF F) eCel (fun _ => True) (fun i env L => ∃ x2 kds, env = [.dat (ePlan F rows), .own q, x2, .no] ∧ L = [(q, OD.dic kds)] ∧ kds.length ≤ i ∧ ∀ c ∈ (cellsF F).take i, ∃ r, RwOk F c r ∧ valD kds (kCel c) = some (eRw r)) (fun P h => ?_) ⟨_, [], rfl, rfl, Nat.le_refl _, fun c hc => by rw [List.take_zero] at hc; cases hc⟩ ?_ ?_
    · conv => whnf
      exact ⟨[], _, .refl _, F, rows, rfl, rfl, ok, _, .refl _, wk_l h⟩
    · rintro i c env L hx ⟨x2, kds, rfl, rfl, h1, h2⟩
      have hi : i < (cellsF F).length := (List.getElem?_eq_some_iff.mp hx).1
      have hc := mem_cells.mp (List.mem_of_getElem? hx)
      refine ⟨trivial, _, rfl, ?_⟩
      conv => whnf
      refine ⟨[], _, .refl _, F, rows, c, rfl, rfl, ok, hc, _, .refl _, ?_⟩
      conv => whnf
      obtain ⟨m, n, k⟩ := c
      refine ⟨q, 0, kds, [(m : Int), (n : Int), (k : Int)], _, rfl, rfl, rfl, rfl, by omega, ?_⟩
      refine ⟨_, putD kds (kCel (m, n, k)) (eRw (idleR F (m, n, k))), rfl, rfl, Nat.le_trans putD_len (by omega), fun c hc2 => ?_⟩
      rw [valD_put]
      by_cases he : kCel (m, n, k) = kCel c
      · rw [if_pos he]
        have he := kCel_inj.mp he
        subst he
        exact ⟨_, idle_ok ok hc, rfl⟩
      · rw [if_neg he]
        rw [List.take_succ, hx, Option.toList_some] at hc2
        rcases List.mem_append.mp hc2 with hc2 | hc2
        · exact h2 c hc2
        · rw [List.mem_singleton] at hc2
          exact absurd (by rw [hc2]) he
    · rintro env L ⟨x2, kds, rfl, rfl, h1, h2⟩
      rw [List.take_length] at h2
      exact ⟨trivial, hK _ _ ⟨_, kds, rfl, rfl, by omega, fun c hc => h2 c (mem_cells.mpr hc)⟩⟩
  rintro env L ⟨x2, kds, rfl, rfl, h1, h2⟩
  refine seq_for ?_
  refine for_l rows ePair (fun _ => True) (fun i env L => ∃ x2 x3 kds, env = [.dat (ePlan F rows), .own q, x2, x3] ∧ L = [(q, OD.dic kds)] ∧ kds.length ≤ 180 + i ∧ ∀ c, CelOk F c → ∃ r, RwOk F c r ∧ valD kds (kCel c) = some (eRw r)) (fun P h => ?_) ⟨_, _, kds, rfl, rfl, h1, h2⟩ ?_ ?_
  · conv => whnf
    refine ⟨.list (rows.map ePair), rfl, ?_⟩
    exact wk_l h
  · rintro i z env L hx ⟨x2, x3, kds, rfl, rfl, h1, h2⟩
    have hi : i < rows.length := (List.getElem?_eq_some_iff.mp hx).1
    have hz := hr.2 z (List.mem_of_getElem? hx)
    obtain ⟨⟨m, n, k⟩, r⟩ := z
    refine ⟨trivial, _, rfl, ?_⟩
    conv => whnf
    refine ⟨q, 0, kds, [(m : Int), (n : Int), (k : Int)], _, rfl, rfl, rfl, rfl, by omega, ?_⟩
    refine ⟨_, _, putD kds (kCel (m, n, k)) (eRw r), rfl, rfl, Nat.le_trans putD_len (by omega), fun c hc2 => ?_⟩
    rw [valD_put]
    by_cases he : kCel (m, n, k) = kCel c
    · rw [if_pos he]
      have he := kCel_inj.mp he
      subst he
      exact ⟨_, hz.2, rfl⟩
    · rw [if_neg he]
      exact h2 c hc2
  · rintro env L ⟨x2, x3, kds, rfl, rfl, h1, h2⟩
    refine ⟨trivial, ?_⟩
    conv => whnf
    exact ⟨q, 0, kds, rfl, rfl, hp kds ⟨by omega, h2⟩⟩
theorem law_l_index : LawB (C_l_index G) (b_l_index G) N_l_index := by
  rintro ens L post ⟨xs, x, rfl, rfl, hl, hw, hx, hp⟩
  show b_l_index G _ [.dat (.tuple (xs.map .str)), .dat (.str x), .no] _
  unfold b_l_index
  refine seq_for ?_
  refine for_l (List.range xs.length) eN (fun _ => True) (fun i env L => ∃ x2, env = [.dat (.tuple (xs.map .str)), .dat (.str x), x2] ∧ L = [] ∧ ∀ j, j < i → xs[j]? ≠ some x) (fun P h => ?_) ⟨_, rfl, rfl, fun j hj => absurd hj (Nat.not_lt_zero j)⟩ ?_ ?_
  · refine ⟨(xs.map PyData.str).length, rfl, by omega, by rw [List.length_map]; omega, ?_⟩
    rw [List.length_map]
    exact h
  · rintro i y env L hy ⟨x2, rfl, rfl, h1⟩
    obtain ⟨hi, rfl⟩ := rg_get hy
    have ew : xs[y]? = some xs[y] := by simp [hi]
    have hwy := hw _ (List.getElem_mem hi)
    refine ⟨trivial, _, rfl, ?_⟩
    conv => whnf
    refine ⟨_, atI_nat (get_map ew), ?_⟩
    conv => whnf
    refine ⟨sh_str hwy.1, sh_str (hw x hx).1, ?_⟩
    conv => whnf
    rw [eqv_str]
    refine ⟨fun h => hp y hi, fun h => ⟨_, rfl, rfl, fun j hj he => ?_⟩⟩
    rw [decide_eq_false_iff_not] at h
    by_cases hjy : j = y
    · subst hjy
      rw [ew] at he
      exact h (Option.some.inj he)
    · exact h1 j (by omega) he
  · rintro env L ⟨x2, rfl, rfl, h1⟩
    rw [List.length_range] at h1
    obtain ⟨j, hj, hj2⟩ := List.getElem_of_mem hx
    exact absurd (by simp [hj, hj2]) (h1 j hj)
theorem cnt_le (n : Int) : ∀ l : List Int, (l.filter fun v => decide (v < n)).length + (l.filter fun v => decide (v = n)).length ≤ l.length
  | [] => Nat.le_refl _
  | v :: l => by
    have ih := cnt_le n l
    rw [List.filter_cons, List.filter_cons]
    by_cases h1 : v < n
    · have h2 : ¬ v = n := by omega
      simp only [decide_eq_true h1, decide_eq_false h2, if_true, List.length_cons]
      simp only [Bool.false_eq_true, if_false]
      omega
    · by_cases h2 : v = n
      · simp only [decide_eq_false h1, decide_eq_true h2, if_true, List.length_cons]
        simp only [Bool.false_eq_true, if_false]
        omega
      · simp only [decide_eq_false h1, decide_eq_false h2, List.length_cons]
        simp only [Bool.false_eq_true, if_false]
        omega
theorem law_l_position : LawB (C_l_position G) (b_l_position G) N_l_position := by
  rintro ens L post ⟨n, held, rfl, rfl, hl, hp⟩
  show b_l_position G _ [.dat (.int n), .dat (.tuple (held.map .int)), .no, .no] _
  unfold b_l_position
  refine seq_k (fun env L => env = [.dat (.int n), .dat (.tuple (held.map .int)), .dat (.int ((held.filter fun v => decide (v < n)).length : Nat)), .no] ∧ L = []) ?_ (fun K hK => ?_)
  rotate_left
  · simp only [aSeq, aNext, aExpr, aRet, aIf, aAsg, aName, aC, aVar, aNil, aCons, aTup, aLst, aOwn, aTwo, aOp, aUn, aNary, aB, aAnd, aOr, aNot, aAndV, aNotV, aI0, aI2, aEqD, aNeD, aIsN, aAddS, aCat, aIx, aSl, aNoO, aSoO, aBetw, aLen, aIntU, aListOf, aTupOf, aFld, aProg, aFrz, aFrzD, aApp, aSetIx, aAug, aTg, aUnL, aUn2, aIsi, aNeg, aRev, aYes, aWalk, aRange, aEnT, aEnO, aFSt, aFAug, aDNew, dats, Option.map_some, List.getElem?_cons_zero, List.getElem?_cons_succ, List.set_cons_zero, List.set_cons_succ]
    refine lc_l held .int .int (fun v => decide (v < n)) (fun _ => True) (fun P h => wk_t h) trivial (by omega) (fun i k hk => ⟨_, rfl, fun P h => h, fun _ P h => h⟩) ?_
    conv => whnf
    refine hK _ _ ⟨?_, rfl⟩
    rw [List.length_map]
  rintro env L ⟨rfl, rfl⟩
  conv => whnf
  refine ⟨cmulL (by decide), ?_⟩
  simp only [aSeq, aNext, aExpr, aRet, aIf, aAsg, aName, aC, aVar, aNil, aCons, aTup, aLst, aOwn, aTwo, aOp, aUn, aNary, aB, aAnd, aOr, aNot, aAndV, aNotV, aI0, aI2, aEqD, aNeD, aIsN, aAddS, aCat, aIx, aSl, aNoO, aSoO, aBetw, aLen, aIntU, aListOf, aTupOf, aFld, aProg, aFrz, aFrzD, aApp, aSetIx, aAug, aTg, aUnL, aUn2, aIsi, aNeg, aRev, aYes, aWalk, aRange, aEnT, aEnO, aFSt, aFAug, aDNew, dats, Option.map_some, List.getElem?_cons_zero, List.getElem?_cons_succ, List.set_cons_zero, List.set_cons_succ, oAdd]
  refine lc_l held .int .int (fun v => decide (v = n)) (fun _ => True) (fun P h => wk_t h) trivial (by omega) (fun i k hk => ⟨_, rfl, fun P h => ?_, fun _ P h => h⟩) ?_
  · conv => whnf
    refine ⟨sh_int, sh_int, ?_⟩
    rw [eqv_int]
    exact h
  have hc := cnt_le n held
  have h := hp (2 * (held.filter fun v => decide (v < n)).length + (held.filter fun v => decide (v = n)).length) (by omega)
  have e : ((2 * (held.filter fun v => decide (v < n)).length + (held.filter fun v => decide (v = n)).length : Nat) : Int) = 2 * ((held.filter fun v => decide (v < n)).length : Int) + (((held.filter fun v => decide (v = n)).map PyData.int).length : Int) := by
    rw [List.length_map]
    omega
  rw [e] at h
  exact h
end Mn
namespace Mn
open PySem PySem.Spec PyProof.Rows L2
variable (G : Gp)
theorem law_l_step : LawB (C_l_step G) (b_l_step G) N_l_step := by
  rintro ens L post ⟨F, rows, kds, p, e, rfl, rfl, ok, ht, hpl, hev, hp⟩
  obtain ⟨m, held⟩ := p
  obtain ⟨x, n⟩ := e
  obtain ⟨hm, hhl, hhb⟩ := hpl
  obtain ⟨hx, hn1, hn2⟩ := hev
  simp only at hm hhl hhb hx hn1 hn2
  have hh := ok.held_le m
  have hnn := ok.n2
  show b_l_step G _ [.dat (ePlan F rows), .dic kds, .dat (.tuple [.int m, .tuple (held.map .int)]), .dat (.tuple [.str x, .int n]), .no, .no, .no, .no, .no, .no, .no, .no, .no] _
  unfold b_l_step
  refine seq_k (fun env L => ∃ k : Nat, env = [.dat (ePlan F rows), .dic kds, .dat (.tuple [.int m, .tuple (held.map .int)]), .dat (.tuple [.str x, .int n]), .dat (.int k), .no, .no, .no, .no, .no, .no, .no, .no] ∧ L = [] ∧ k ≤ 2 * held.length) ?_ (fun K hK => ?_)
  rotate_left
  · conv => whnf
    refine ⟨.int n, rfl, ?_⟩
    conv => whnf
    refine ⟨.tuple (held.map .int), rfl, ?_⟩
    conv => whnf
    exact ⟨[], _, .refl _, n, held, rfl, rfl, by omega, fun k hk => ⟨_, .refl _, hK _ _ ⟨k, rfl, rfl, hk⟩⟩⟩
  rintro env L ⟨k, rfl, rfl, hk⟩
  refine seq_k (fun env L => ∃ j : Nat, env = [.dat (ePlan F rows), .dic kds, .dat (.tuple [.int m, .tuple (held.map .int)]), .dat (.tuple [.str x, .int n]), .dat (.int k), .dat (eCel (m, j, k)), .no, .no, .no, .no, .no, .no, .no] ∧ L = [] ∧ j < F.names.length) ?_ (fun K hK => ?_)
  rotate_left
  · conv => whnf
    refine ⟨.int m, rfl, ?_⟩
    conv => whnf
    refine ⟨.tuple (F.names.map .str), rfl, ?_⟩
    conv => whnf
    refine ⟨.str x, rfl, ?_⟩
    conv => whnf
    refine ⟨[], _, .refl _, F.names, x, rfl, rfl, by omega, ok.nw, hx, fun j hj => ⟨_, .refl _, ?_⟩⟩
    conv => whnf
    exact ⟨_, rfl, by show 3 ≤ 100000; decide, hK _ _ ⟨j, rfl, rfl, hj⟩⟩
  rintro env L ⟨j, rfl, rfl, hj⟩
  have hc : CelOk F (m, j, k) := ⟨hm, hj, by show k < 2 * F.held m + 1; omega⟩
  have ekn : kn F (m, j, k) = F.held m + 1 - k % 2 := rfl
  refine seq_k (fun env L => ∃ ks : List Int, env = [.dat (ePlan F rows), .dic kds, .dat (.tuple [.int m, .tuple (held.map .int)]), .dat (.tuple [.str x, .int n]), .dat (.int k), .dat (eCel (m, j, k)), .dat (.list (ks.map .int)), .no, .no, .no, .no, .no, .no] ∧ L = [] ∧ ks.length = kn F (m, j, k) ∧ ∀ v ∈ ks, -big ≤ v ∧ v ≤ big) ?_ (fun K hK => ?_)
  rotate_left
  · conv => whnf
    refine ⟨.tuple (held.map .int), rfl, ?_⟩
    conv => whnf
    refine ⟨.int n, rfl, ?_⟩
    conv => whnf
    refine ⟨_, rfl, by show 1 ≤ 100000; decide, ?_⟩
    conv => whnf
    refine ⟨(by decide : (0 : Int) < 2), ?_⟩
    conv => whnf
    obtain ⟨cs, hcs, hcl, hcm⟩ : ∃ cs : List Int, cutD [PyData.int n] none (some (1 - (k : Int) % 2)) = cs.map .int ∧ cs.length = 1 - k % 2 ∧ ∀ v ∈ cs, v = n := by
      by_cases h : k % 2 = 1
      · refine ⟨[], ?_, by rw [h]; rfl, fun v hv => by cases hv⟩
        rw [show (1 - (k : Int) % 2) = ((0 : Nat) : Int) from by omega, cutD_to (Nat.zero_le _)]
        rfl
      · refine ⟨[n], ?_, by show 1 = _; omega, fun v hv => List.mem_singleton.mp hv⟩
        rw [show (1 - (k : Int) % 2) = ((1 : Nat) : Int) from by omega, cutD_to (by show 1 ≤ 1; decide)]
        rfl
    refine ⟨sz_ok ?_, ?_⟩
    · show (held.map PyData.int).length + (cutD [PyData.int n] none (some (1 - (k : Int) % 2))).length ≤ 100000
      rw [hcs, List.length_map, List.length_map]
      omega
    conv => whnf
    refine ⟨held ++ cs, ?_, fun ns hp1 hp2 => ?_⟩
    · show [En.dat (.list (held.map PyData.int ++ cutD [PyData.int n] none (some (1 - (k : Int) % 2))))] = _
      rw [hcs, ← List.map_append]
    · refine hK _ _ ⟨ns, rfl, rfl, ?_, fun v hv => ?_⟩
      · rw [hp1.length_eq, List.length_append, hcl, hhl, ekn]
        omega
      · rcases List.mem_append.mp (hp1.mem_iff.mp hv) with h | h
        · exact hhb v h
        · rw [hcm v h]
          exact ⟨hn1, hn2⟩
  rintro env L ⟨ks, rfl, rfl, hk1, hk2⟩
  obtain ⟨⟨tg, ho, wr⟩, hr, hv⟩ := ht.2 _ hc
  refine seq_k (fun env L => env = [.dat (ePlan F rows), .dic kds, .dat (.tuple [.int m, .tuple (held.map .int)]), .dat (.tuple [.str x, .int n]), .dat (.int k), .dat (eCel (m, j, k)), .dat (.list (ks.map .int)), .no, .dat (.int tg), .dat (.tuple (ho.map eN)), .dat (.tuple (wr.map eWr)), .no, .no] ∧ L = []) ?_ (fun K hK => ?_)
  rotate_left
  · conv => whnf
    refine ⟨kds, [(m : Int), (j : Int), (k : Int)], _, .inl rfl, rfl, hv, ?_⟩
    exact ⟨_, _, rfl, rfl, hK _ _ ⟨rfl, rfl⟩⟩
  rintro env L ⟨rfl, rfl⟩
  have hfew := hr.few
  have hlen := hr.len
  have htg := ok.held_le tg
  simp only at hfew hlen
  have hwr : ∀ w ∈ wr, ∃ pt, F.ports[w.1]? = some pt ∧ w.2.1 ∈ pt.2 ∧ w.2.2 < ks.length := fun w hw => by
    obtain ⟨⟨pt, g1, g2⟩, g3⟩ := hr.wr w hw
    exact ⟨pt, g1, g2, by rw [hk1]; exact g3⟩
  refine seq_k (fun env L => env = [.dat (ePlan F rows), .dic kds, .dat (.tuple [.int m, .tuple (held.map .int)]), .dat (.tuple [.str x, .int n]), .dat (.int k), .dat (eCel (m, j, k)), .dat (.list (ks.map .int)), .dat (eOut (outOf F (tg, ho, wr) ks)), .dat (.int tg), .dat (.tuple (ho.map eN)), .dat (.tuple (wr.map eWr)), .no, .no] ∧ L = []) ?_ (fun K hK => ?_)
  rotate_left
  · simp only [aSeq, aNext, aExpr, aRet, aIf, aAsg, aName, aC, aVar, aNil, aCons, aTup, aLst, aOwn, aTwo, aOp, aUn, aNary, aB, aAnd, aOr, aNot, aAndV, aNotV, aI0, aI2, aEqD, aNeD, aIsN, aAddS, aCat, aIx, aSl, aNoO, aSoO, aBetw, aLen, aIntU, aListOf, aTupOf, aFld, aProg, aFrz, aFrzD, aApp, aSetIx, aAug, aTg, aUnL, aUn2, aIsi, aNeg, aRev, aYes, aWalk, aRange, aEnT, aEnO, aFSt, aFAug, aDNew, dats, Option.map_some, List.getElem?_cons_zero, List.getElem?_cons_succ, List.set_cons_zero, List.set_cons_succ]
    refine lc_l wr eWr (fun w => eTr (pName F w.1, w.2.1, ks.getD w.2.2 0)) (fun _ => true) (fun _ => True) (fun P h => wk_t h) trivial (by omega) (fun i w hw => ⟨_, rfl, fun P h => h, fun _ P h => ?_⟩) ?_
    · obtain ⟨pt, g1, g2, g3⟩ := hwr w (List.mem_of_getElem? hw)
      obtain ⟨w1, w2, w3⟩ := w
      conv => whnf
      refine ⟨.tuple (F.ports.map ePort), rfl, ?_⟩
      conv => whnf
      refine ⟨.int w1, rfl, ?_⟩
      conv => whnf
      refine ⟨_, atI_nat (get_map g1), ?_⟩
      conv => whnf
      refine ⟨.str pt.1, rfl, ?_⟩
      conv => whnf
      refine ⟨.str w2, rfl, ?_⟩
      conv => whnf
      refine ⟨.int w3, rfl, ?_⟩
      conv => whnf
      refine ⟨.int (ks.getD w3 0), atI_nat (get_map (getD_some g3)), ?_⟩
      conv => whnf
      refine ⟨_, rfl, by show 3 ≤ 100000; decide, ?_⟩
      have e2 : pName F w1 = pt.1 := pName_of g1
      rw [← e2]
      exact h
    rw [List.filter_eq_self.mpr fun _ _ => rfl]
    refine hK _ _ ⟨?_, rfl⟩
    show ([.dat (ePlan F rows), .dic kds, .dat (.tuple [.int m, .tuple (held.map .int)]), .dat (.tuple [.str x, .int n]), .dat (.int k), .dat (eCel (m, j, k)), .dat (.list (ks.map .int)), .dat (.tuple (wr.map fun w => eTr (pName F w.1, w.2.1, ks.getD w.2.2 0))), .dat (.int tg), .dat (.tuple (ho.map eN)), .dat (.tuple (wr.map eWr)), .no, .no] : List En) = _
    unfold outOf eOut
    rw [List.map_map]
    rfl
  rintro env L ⟨rfl, rfl⟩
  simp only [aSeq, aNext, aExpr, aRet, aIf, aAsg, aName, aC, aVar, aNil, aCons, aTup, aLst, aOwn, aTwo, aOp, aUn, aNary, aB, aAnd, aOr, aNot, aAndV, aNotV, aI0, aI2, aEqD, aNeD, aIsN, aAddS, aCat, aIx, aSl, aNoO, aSoO, aBetw, aLen, aIntU, aListOf, aTupOf, aFld, aProg, aFrz, aFrzD, aApp, aSetIx, aAug, aTg, aUnL, aUn2, aIsi, aNeg, aRev, aYes, aWalk, aRange, aEnT, aEnO, aFSt, aFAug, aDNew, dats, Option.map_some, List.getElem?_cons_zero, List.getElem?_cons_succ, List.set_cons_zero, List.set_cons_succ]
  refine lc_l ho eN (fun h => .int (ks.getD h 0)) (fun _ => true) (fun _ => True) (fun P h => wk_t h) trivial (by omega) (fun i h hh2 => ⟨_, rfl, fun P h => h, fun _ P hP => ?_⟩) ?_
  · have hlt := hr.lt h (List.mem_of_getElem? hh2)
    conv => whnf
    exact ⟨.int (ks.getD h 0), atI_nat (get_map (getD_some (by rw [hk1]; exact hlt))), hP⟩
  rw [List.filter_eq_self.mpr fun _ _ => rfl]
  conv => whnf
  refine ⟨_, rfl, by show 2 ≤ 100000; decide, ?_⟩
  conv => whnf
  refine ⟨_, rfl, by show 3 ≤ 100000; decide, ?_⟩
  have hb : ∀ i, i < ks.length → -big ≤ ks.getD i 0 ∧ ks.getD i 0 ≤ big := fun i hi => hk2 _ (getD_mem hi)
  have h := hp (tg, ho.map fun h => ks.getD h 0) (outOf F (tg, ho, wr) ks) (m, j, k) ⟨hr.tg, by rw [List.length_map]; exact hr.len, fun v hv => ?_⟩ ⟨by unfold outOf; rw [List.length_map]; exact hr.few, fun z hz => ?_⟩ hc
  · unfold ePl at h
    rw [List.map_map] at h
    exact h
  · obtain ⟨h, hh2, rfl⟩ := List.mem_map.mp hv
    exact hb h (by rw [hk1]; exact hr.lt h hh2)
  · obtain ⟨w, hw, rfl⟩ := List.mem_map.mp hz
    obtain ⟨pt, g1, g2, g3⟩ := hwr w hw
    exact ⟨⟨pt, List.mem_of_getElem? g1, (pName_of g1).symm, g2⟩, hb _ g3⟩
theorem law_l_run : LawB (C_l_run G) (b_l_run G) N_l_run := by
  rintro ens L post ⟨F, rows, es, rfl, rfl, ok, hr, hes, hl, hp⟩
  show b_l_run G _ [.dat (ePlan F rows), .dat (.list (es.map eEv)), .no, .no, .no, .no, .no, .no, .no] _
  unfold b_l_run
  refine seq_k (fun env L => ∃ kds, env = [.dat (ePlan F rows), .dat (.list (es.map eEv)), .dic kds, .no, .no, .no, .no, .no, .no] ∧ L = [] ∧ TabOk F kds) ?_ (fun K hK => ?_)
  rotate_left
  · conv => whnf
    exact ⟨[], _, .refl _, F, rows, rfl, rfl, ok, hr, fun kds hk => ⟨_, .refl _, hK _ _ ⟨kds, rfl, rfl, hk⟩⟩⟩
  rintro env L ⟨kds, rfl, rfl, hkd⟩
  refine seq_k (fun env L => env = [.dat (ePlan F rows), .dat (.list (es.map eEv)), .dic kds, .dat (ePl p0), .no, .no, .no, .no, .no] ∧ L = []) ?_ (fun K hK => ?_)
  rotate_left
  · conv => whnf
    refine ⟨_, rfl, by show 0 ≤ 100000; decide, ?_⟩
    conv => whnf
    exact ⟨_, rfl, by show 2 ≤ 100000; decide, hK _ _ ⟨rfl, rfl⟩⟩
  rintro env L ⟨rfl, rfl⟩
  refine seq_k (fun env L => ∃ q1, env = [.dat (ePlan F rows), .dat (.list (es.map eEv)), .dic kds, .dat (ePl p0), .own q1, .no, .no, .no, .no] ∧ L = [(q1, OD.lst [])]) ?_ (fun K hK => ⟨_, rfl, by decide, fun q1 => hK _ _ ⟨q1, rfl, rfl⟩⟩)
  rintro env L ⟨q1, rfl, rfl⟩
  refine seq_k (fun env L => ∃ q2, env = [.dat (ePlan F rows), .dat (.list (es.map eEv)), .dic kds, .dat (ePl p0), .own q1, .own q2, .no, .no, .no] ∧ L = [(q2, OD.lst []), (q1, OD.lst [])]) ?_ (fun K hK => ⟨_, rfl, by decide, fun q2 => hK _ _ ⟨q2, rfl, rfl⟩⟩)
  rintro env L ⟨q2, rfl, rfl⟩
  refine seq_for ?_
  refine for_l es eEv (fun _ => True) (fun i env L => ∃ (pl : Pl) (os : List Out) (ts : List Cel) (x6 x7 x8 : En), env = [.dat (ePlan F rows), .dat (.list (es.map eEv)), .dic kds, .dat (ePl pl), .own q1, .own q2, x6, x7, x8] ∧ L = [(q2, OD.lst (ts.map eCel)), (q1, OD.lst (os.map eOut))] ∧ PlOk F pl ∧ os.length = i ∧ ts.length = i ∧ ∀ o ∈ os, OutOk F o) (fun P h => wk_l h) ⟨p0, [], [], _, _, _, rfl, rfl, (p0_ok ok).1, rfl, rfl, fun o ho => by cases ho⟩ ?_ ?_
  · rintro i e env L hx ⟨pl, os, ts, x6, x7, x8, rfl, rfl, h1, h2, h3, h4⟩
    have hi : i < es.length := (List.getElem?_eq_some_iff.mp hx).1
    have he := hes e (List.mem_of_getElem? hx)
    refine ⟨trivial, _, rfl, ?_⟩
    conv => whnf
    refine ⟨[], _, .refl _, F, rows, kds, pl, e, rfl, rfl, ok, hkd, h1, he, fun p' o c g1 g2 g3 => ⟨_, .refl _, ?_⟩⟩
    refine ⟨_, _, rfl, rfl, ?_⟩
    conv => whnf
    refine ⟨q1, 1, _, rfl, rfl, 1, _, _, rfl, rfl, by rw [List.length_map]; omega, ?_⟩
    conv => whnf
    refine ⟨q2, 0, _, rfl, rfl, 0, _, _, rfl, rfl, by rw [List.length_map]; omega, ?_⟩
    refine ⟨p', os ++ [o], ts ++ [c], _, _, _, rfl, ?_, g1, by rw [List.length_append, h2]; rfl, by rw [List.length_append, h3]; rfl, fun o ho => ?_⟩
    · rw [List.map_append, List.map_append]
      rfl
    · rcases List.mem_append.mp ho with ho | ho
      · exact h4 o ho
      · rw [List.mem_singleton] at ho
        exact ho ▸ g2
  · rintro env L ⟨pl, os, ts, x6, x7, x8, rfl, rfl, h1, h2, h3, h4⟩
    refine ⟨trivial, ?_⟩
    conv => whnf
    refine ⟨q1, 1, _, rfl, rfl, ?_⟩
    conv => whnf
    refine ⟨q2, 0, _, rfl, rfl, ?_⟩
    conv => whnf
    exact ⟨_, rfl, by show 3 ≤ 100000; decide, hp pl os ts h2 h4⟩
theorem law_l_input : LawB (C_l_input G) (b_l_input G) N_l_input := by
  rintro ens L post ⟨p, a, b, F, rows, n, rfl, rfl, ok, hn, hp⟩
  have hn1 := ok.n1
  have hn2 := ok.n2
  show b_l_input G _ [.own p, .dat (ePlan F rows), .dat (.int n), .no, .no, .no, .no] _
  unfold b_l_input
  refine seq_k (fun env L => ∃ q1, env = [.own p, .dat (ePlan F rows), .dat (.int n), .own q1, .no, .no, .no] ∧ L = [(q1, OD.lst []), (p, src a b)]) ?_ (fun K hK => ⟨_, rfl, by decide, fun q1 => hK _ _ ⟨q1, rfl, rfl⟩⟩)
  rintro env L ⟨q1, rfl, rfl⟩
  refine seq_k (fun env L => ∃ (f : Bool) (a b : Int), env = [.own p, .dat (ePlan F rows), .dat (.int n), .own q1, .dat (.bool f), .no, .no] ∧ L = [(q1, OD.lst []), (p, src a b)]) ?_ (fun K hK => ?_)
  rotate_left
  · conv => whnf
    refine ⟨[(p, src a b)], _, pm_c, p, a, b, 4, rfl, rfl, by decide, by decide, fun r a b hr => ⟨_, pm_c, ?_⟩⟩
    conv => whnf
    exact ⟨sh_int, sh_int, hK _ _ ⟨_, a, b, rfl, rfl⟩⟩
  rintro env L ⟨f, a, b, rfl, rfl⟩
  refine seq_for ?_
  refine for_l (List.range n) eN (fun _ => True) (fun i env L => ∃ (es : List Ev) (x5 x6 : En) (a b : Int), env = [.own p, .dat (ePlan F rows), .dat (.int n), .own q1, .dat (.bool f), x5, x6] ∧ L = [(q1, OD.lst (es.map eEv)), (p, src a b)] ∧ es.length = i ∧ ∀ e ∈ es, EvOk F e) (fun P h => ⟨n, rfl, by omega, by omega, h⟩) ⟨[], _, _, a, b, rfl, rfl, rfl, fun e he => by cases he⟩ ?_ ?_
  · rintro i x env L hx ⟨es, x5, x6, a, b, rfl, rfl, h1, h2⟩
    obtain ⟨hi, rfl⟩ := rg_get hx
    refine ⟨trivial, _, rfl, ?_⟩
    refine seq_k (fun env L => ∃ (z : Int) (a b : Int), env = [.own p, .dat (ePlan F rows), .dat (.int n), .own q1, .dat (.bool f), .dat (eN x), .dat (.int z)] ∧ L = [(q1, OD.lst (es.map eEv)), (p, src a b)] ∧ -10 ≤ z ∧ z ≤ 10) ?_ (fun K hK => ?_)
    rotate_left
    · conv => whnf
      refine ⟨[(p, src a b)], _, pm_c, p, a, b, 6, rfl, rfl, by decide, by decide, fun r a b hr => ⟨_, pm_c, ?_⟩⟩
      exact hK _ _ ⟨(r : Int) - 2, a, b, rfl, rfl, by omega, by omega⟩
    rintro env L ⟨z, a, b, rfl, rfl, hz1, hz2⟩
    refine seq_k (fun env L => ∃ (z : Int) (a b : Int), env = [.own p, .dat (ePlan F rows), .dat (.int n), .own q1, .dat (.bool f), .dat (eN x), .dat (.int z)] ∧ L = [(q1, OD.lst (es.map eEv)), (p, src a b)] ∧ -big ≤ z ∧ z ≤ big) ?_ (fun K hK => ?_)
    rotate_left
    · conv => whnf
      refine ⟨fun _ => ?_, fun _ => hK _ _ ⟨z, a, b, rfl, rfl, by unfold big; omega, by unfold big; omega⟩⟩
      conv => whnf
      refine ⟨cmulR (by decide), ?_⟩
      exact hK _ _ ⟨z * 1000000007 + 13, a, b, rfl, rfl, by unfold big; omega, by unfold big; omega⟩
    rintro env L ⟨z, a, b, rfl, rfl, hz1, hz2⟩
    conv => whnf
    refine ⟨q1, 0, _, rfl, rfl, ?_⟩
    conv => whnf
    refine ⟨.tuple (F.names.map .str), rfl, ?_⟩
    conv => whnf
    refine ⟨[(p, src a b)], _, pm_c, p, a, b, F.names.map .str, _, rfl, .inr rfl, rfl, by rw [List.length_map]; omega, by rw [List.length_map]; omega, fun d hd a b => ⟨_, pm_c, ?_⟩⟩
    obtain ⟨w, hw, rfl⟩ := List.mem_map.mp hd
    conv => whnf
    refine ⟨_, rfl, by show 2 ≤ 100000; decide, 0, _, _, rfl, rfl, by rw [List.length_map]; omega, ?_⟩
    refine ⟨es ++ [(w, z)], _, _, a, b, rfl, ?_, by rw [List.length_append, h1]; rfl, fun e he => ?_⟩
    · rw [List.map_append]
      rfl
    · rcases List.mem_append.mp he with he | he
      · exact h2 e he
      · rw [List.mem_singleton] at he
        subst he
        exact ⟨hw, hz1, hz2⟩
  · rintro env L ⟨es, x5, x6, a, b, rfl, rfl, h1, h2⟩
    rw [List.length_range] at h1
    refine ⟨trivial, ?_⟩
    conv => whnf
    exact ⟨q1, 0, _, rfl, rfl, hp es a b h1 h2⟩
end Mn
namespace Mn
open PySem PySem.Spec PyProof.Rows L2
variable (G : Gp)
theorem sq_eq {x y : Str} (h : x = y) : PyData.eqv (.str x) (.str y) = true := by rw [eqv_str, decide_eq_true h]
theorem sq_ne {x y : Str} (h : x ≠ y) : PyData.eqv (.str x) (.str y) = false := by rw [eqv_str, decide_eq_false h]
theorem w_te : Str.ofString "test" ≠ Str.ofString "edit" := by decide +kernel
theorem w_ue : Str.ofString "undo" ≠ Str.ofString "edit" := by decide +kernel
theorem w_re : Str.ofString "redo" ≠ Str.ofString "edit" := by decide +kernel
theorem w_ut : Str.ofString "undo" ≠ Str.ofString "test" := by decide +kernel
theorem w_rt : Str.ofString "redo" ≠ Str.ofString "test" := by decide +kernel
theorem w_ru : Str.ofString "redo" ≠ Str.ofString "undo" := by decide +kernel
theorem w_ur : Str.ofString "undo" ≠ Str.ofString "redo" := by decide +kernel
theorem so_e : SeqAt.shaped (.str (Str.ofString "edit")) = true := sh_str (by decide +kernel)
theorem so_t : SeqAt.shaped (.str (Str.ofString "test")) = true := sh_str (by decide +kernel)
theorem so_u : SeqAt.shaped (.str (Str.ofString "undo")) = true := sh_str (by decide +kernel)
theorem so_r : SeqAt.shaped (.str (Str.ofString "redo")) = true := sh_str (by decide +kernel)
theorem tfb {b : Bool} {P : Prop} (h : b = true) (h2 : b = false) : P := by rw [h] at h2; exact nf h2.symm
theorem nx_k {D : AD} {env : List En} {L : List Cell} (h : D.nx env L) : aNext D env L := h
theorem law_l_take : LawB (C_l_take G) (b_l_take G) N_l_take := by
  rintro ens L post ⟨F, rf, a, S, x, rfl, rfl, ok, so, hx, hp⟩
  show b_l_take G _ [.own a.q, .dat (eLg x)] _
  unfold b_l_take
  cases x with
  | ed h c r =>
    obtain ⟨h1, h2, h3⟩ := hx
    refine seq_if ?_
    conv => whnf
    refine ⟨.str (Str.ofString "edit"), rfl, ?_⟩
    conv => whnf
    refine ⟨so_e, so_e, ?_⟩
    conv => whnf
    refine ⟨fun _ => ?_, fun h => tfb (sq_eq rfl) h⟩
    conv => whnf
    refine ⟨a.q, 0, a.dx, _, rfl, rfl, rfl, ?_⟩
    conv => whnf
    refine ⟨.int h, rfl, ?_⟩
    conv => whnf
    refine ⟨eCel c, rfl, ?_⟩
    conv => whnf
    refine ⟨eRw r, rfl, ?_⟩
    conv => whnf
    exact ⟨_, [], pm_nil, F, rf, a, S, h, c, r, rfl, rfl, ok, so, h1, h2, h3, fun d => ⟨_, pm_nil, hp d⟩⟩
  | te t =>
    refine seq_if ?_
    conv => whnf
    refine ⟨.str (Str.ofString "test"), rfl, ?_⟩
    conv => whnf
    refine ⟨so_t, so_e, ?_⟩
    conv => whnf
    refine ⟨fun h => tfb h (sq_ne w_te), fun _ => ?_⟩
    try unfold aNext
    dsimp only
    refine seq_if ?_
    conv => whnf
    refine ⟨.str (Str.ofString "test"), rfl, ?_⟩
    conv => whnf
    refine ⟨so_t, so_t, ?_⟩
    conv => whnf
    refine ⟨fun _ => ?_, fun h => tfb (sq_eq rfl) h⟩
    conv => whnf
    refine ⟨a.q, 0, a.dx, _, rfl, rfl, rfl, ?_⟩
    conv => whnf
    refine ⟨.list (t.1.map eEv), rfl, ?_⟩
    conv => whnf
    refine ⟨.list (t.2.map eOut), rfl, ?_⟩
    conv => whnf
    exact ⟨_, [], pm_nil, F, rf, a, S, t, rfl, rfl, ok, so, hx, fun d => ⟨_, pm_nil, hp d⟩⟩
  | tu b n =>
    cases b with
    | false =>
      refine seq_if ?_
      conv => whnf
      refine ⟨.str (Str.ofString "undo"), rfl, ?_⟩
      conv => whnf
      refine ⟨so_u, so_e, ?_⟩
      conv => whnf
      refine ⟨fun h => tfb h (sq_ne w_ue), fun _ => ?_⟩
      try unfold aNext
      dsimp only
      refine seq_if ?_
      conv => whnf
      refine ⟨.str (Str.ofString "undo"), rfl, ?_⟩
      conv => whnf
      refine ⟨so_u, so_t, ?_⟩
      conv => whnf
      refine ⟨fun h => tfb h (sq_ne w_ut), fun _ => ?_⟩
      try unfold aNext
      dsimp only
      refine seq_if ?_
      conv => whnf
      refine ⟨.str (Str.ofString "undo"), rfl, ?_⟩
      conv => whnf
      refine ⟨so_u, so_u, ?_⟩
      conv => whnf
      refine ⟨fun _ => ?_, fun h => tfb (sq_eq rfl) h⟩
      conv => whnf
      refine ⟨a.q, 0, a.dx, _, rfl, rfl, rfl, ?_⟩
      conv => whnf
      refine ⟨.int n, rfl, ?_⟩
      conv => whnf
      exact ⟨_, [], pm_nil, F, rf, a, S, n, rfl, rfl, so, hx, _, pm_nil, hp _⟩
    | true =>
      refine seq_if ?_
      conv => whnf
      refine ⟨.str (Str.ofString "redo"), rfl, ?_⟩
      conv => whnf
      refine ⟨so_r, so_e, ?_⟩
      conv => whnf
      refine ⟨fun h => tfb h (sq_ne w_re), fun _ => ?_⟩
      try unfold aNext
      dsimp only
      refine seq_if ?_
      conv => whnf
      refine ⟨.str (Str.ofString "redo"), rfl, ?_⟩
      conv => whnf
      refine ⟨so_r, so_t, ?_⟩
      conv => whnf
      refine ⟨fun h => tfb h (sq_ne w_rt), fun _ => ?_⟩
      try unfold aNext
      dsimp only
      refine seq_if ?_
      conv => whnf
      refine ⟨.str (Str.ofString "redo"), rfl, ?_⟩
      conv => whnf
      refine ⟨so_r, so_u, ?_⟩
      conv => whnf
      refine ⟨fun h => tfb h (sq_ne w_ru), fun _ => ?_⟩
      conv => whnf
      refine ⟨a.q, 0, a.dx, _, rfl, rfl, rfl, ?_⟩
      conv => whnf
      refine ⟨.int n, rfl, ?_⟩
      conv => whnf
      exact ⟨_, [], pm_nil, F, rf, a, S, n, rfl, rfl, so, hx, _, pm_nil, hp _⟩
/-! ### the log -/
theorem mdl_succ {log : List Lg} {i : Nat} {x : Lg} (h : log[i]? = some x) : mdl (log.take (i + 1)) = mdS (mdl (log.take i)) x := by
  unfold mdl
  rw [List.take_succ, h, Option.toList_some, List.foldl_append]
  rfl
theorem mdl_snoc {log : List Lg} {x : Lg} : mdl (log ++ [x]) = mdS (mdl log) x := by
  unfold mdl
  rw [List.foldl_append]
  rfl
structure MdOk (F : Fr) (m : Md) (i : Nat) : Prop where
  ed : ∀ e ∈ m.1, CelOk F e.2.1 ∧ RwOk F e.2.1 e.2.2
  ln : m.2.1.length = m.1.length
  le : m.1.length + m.2.2.length ≤ i
  te : ∀ t ∈ m.2.2, TeOk F t
theorem mdS_ok {F : Fr} {m : Md} {i : Nat} {x : Lg} (h : MdOk F m i) (hx : LgOk F m x) : MdOk F (mdS m x) (i + 1) := by
  obtain ⟨e, f, t⟩ := m
  obtain ⟨h1, h2, h3, h4⟩ := h
  simp only at h1 h2 h3 h4
  cases x with
  | ed n c r =>
    refine ⟨fun z hz => ?_, ?_, ?_, h4⟩
    · rcases List.mem_append.mp hz with hz | hz
      · exact h1 z hz
      · rw [List.mem_singleton] at hz
        subst hz
        exact hx.2
    · show (f ++ [true]).length = (e ++ [(n, c, r)]).length
      rw [List.length_append, List.length_append, h2]
      rfl
    · show (e ++ [(n, c, r)]).length + t.length ≤ i + 1
      rw [List.length_append]
      show e.length + 1 + t.length ≤ i + 1
      omega
  | te z =>
    refine ⟨h1, h2, ?_, fun y hy => ?_⟩
    · show e.length + (t ++ [z]).length ≤ i + 1
      rw [List.length_append]
      show e.length + (t.length + 1) ≤ i + 1
      omega
    · rcases List.mem_append.mp hy with hy | hy
      · exact h4 y hy
      · rw [List.mem_singleton] at hy
        subst hy
        exact hx
  | tu b n =>
    refine ⟨h1, ?_, Nat.le_succ_of_le h3, h4⟩
    show (f.set n b).length = e.length
    rw [List.length_set]
    exact h2
theorem mdl_ok {F : Fr} {log : List Lg} (h : LogOk F log) : ∀ i, i ≤ log.length → MdOk F (mdl (log.take i)) i
  | 0, _ => ⟨fun e he => absurd he (List.not_mem_nil), rfl, Nat.le_refl _, fun e he => absurd he (List.not_mem_nil)⟩
  | i + 1, hi => by
    have ew : log[i]? = some log[i] := by simp [show i < log.length from hi]
    rw [mdl_succ ew]
    exact mdS_ok (mdl_ok h i (by omega)) (h.2 i _ ew)
theorem LogOk.md {F : Fr} {log : List Lg} (h : LogOk F log) : MdOk F (mdl log) log.length := by
  have := mdl_ok h log.length (Nat.le_refl _)
  rwa [List.take_length] at this
theorem LogOk.snoc {F : Fr} {log : List Lg} {x : Lg} (h : LogOk F log) (hx : LgOk F (mdl log) x) (hl : log.length < 50) : LogOk F (log ++ [x]) := by
  refine ⟨by rw [List.length_append]; exact hl, fun i y hy => ?_⟩
  by_cases hi : i < log.length
  · rw [List.getElem?_append_left hi] at hy
    rw [List.take_append_of_le_length (by omega)]
    exact h.2 i y hy
  · have hi2 : i < (log ++ [x]).length := (List.getElem?_eq_some_iff.mp hy).1
    have e : i = log.length := by
      rw [List.length_append] at hi2
      have : i < log.length + 1 := hi2
      omega
    subst e
    rw [List.getElem?_append_right (Nat.le_refl _), Nat.sub_self] at hy
    cases hy
    rw [List.take_left]
    exact hx
theorem inB_lt {f : List Bool} {n : Nat} (h : n ∈ inB f) : n < f.length ∧ f[n]? = some true := by
  unfold inB at h
  obtain ⟨h1, h2⟩ := List.mem_filter.mp h
  have h1 := List.mem_range.mp h1
  exact ⟨h1, by rw [getD_some h1, h2]⟩
theorem inB_len (f : List Bool) : (inB f).length ≤ f.length := by
  unfold inB
  exact Nat.le_trans (List.length_filter_le _ _) (by rw [List.length_range]; exact Nat.le_refl _)
theorem ne_cel {c d : Cel} : (!PyData.eqv (eCel c) (eCel d)) = decide (c ≠ d) := by
  have h := dec_of (eqv_cel (c := c) (d := d))
  rw [h]
  by_cases e : c = d <;> simp [e]
theorem sh_cel {c : Cel} : SeqAt.shaped (eCel c) = true := sh_of (lq_cel)
theorem law_l_with : LawB (C_l_with G) (b_l_with G) N_l_with := by
  rintro ens L post ⟨F, rows, eds, ns, rfl, rfl, ok, hr, hl, hel, hed, hns, hp⟩
  show b_l_with G _ [.dat (ePlan F rows), .dat (.list (eds.map eEd)), .dat (.list (ns.map eN)), .no, .no, .no, .no, .no, .no] _
  unfold b_l_with
  refine seq_k (fun env L => env = [.dat (ePlan F rows), .dat (.list (eds.map eEd)), .dat (.list (ns.map eN)), .dat (.list (rows.map ePair)), .no, .no, .no, .no, .no] ∧ L = []) ?_ (fun K hK => ?_)
  rotate_left
  · conv => whnf
    exact ⟨.list (rows.map ePair), rfl, hK _ _ ⟨rfl, rfl⟩⟩
  rintro env L ⟨rfl, rfl⟩
  refine seq_for ?_
  refine for_l ns eN (fun _ => True) (fun i env L => ∃ (rs : List (Cel × Rw)) (x4 x5 x6 x7 : En), env = [.dat (ePlan F rows), .dat (.list (eds.map eEd)), .dat (.list (ns.map eN)), .dat (.list (rs.map ePair)), x4, x5, x6, x7, .no] ∧ L = [] ∧ rs.length ≤ rows.length + i ∧ ∀ q ∈ rs, CelOk F q.1 ∧ RwOk F q.1 q.2) (fun P h => wk_l h) ⟨rows, _, _, _, _, rfl, rfl, Nat.le_refl _, hr.2⟩ ?_ ?_
  · rintro i n env L hn ⟨rs, x4, x5, x6, x7, rfl, rfl, h1, h2⟩
    have hi : i < ns.length := (List.getElem?_eq_some_iff.mp hn).1
    have hn1 := hns n (List.mem_of_getElem? hn)
    have ew : eds[n]? = some eds[n] := by simp [hn1]
    have hz := hed _ (List.getElem_mem hn1)
    generalize eds[n] = z at ew hz
    obtain ⟨hd, c, r⟩ := z
    refine ⟨trivial, _, rfl, ?_⟩
    refine seq_k (fun env L => env = [.dat (ePlan F rows), .dat (.list (eds.map eEd)), .dat (.list (ns.map eN)), .dat (.list (rs.map ePair)), .dat (eN n), .dat (.int hd), .dat (eCel c), .dat (eRw r), .no] ∧ L = []) ?_ (fun K hK => ?_)
    rotate_left
    · conv => whnf
      refine ⟨_, atI_nat (get_map ew), ?_⟩
      exact ⟨_, _, rfl, rfl, hK _ _ ⟨rfl, rfl⟩⟩
    rintro env L ⟨rfl, rfl⟩
    simp only [aSeq, aNext, aExpr, aRet, aIf, aAsg, aName, aC, aVar, aNil, aCons, aTup, aLst, aOwn, aTwo, aOp, aUn, aNary, aB, aAnd, aOr, aNot, aAndV, aNotV, aI0, aI2, aEqD, aNeD, aIsN, aAddS, aCat, aIx, aSl, aNoO, aSoO, aBetw, aLen, aIntU, aListOf, aTupOf, aFld, aProg, aFrz, aFrzD, aApp, aSetIx, aAug, aTg, aUnL, aUn2, aIsi, aNeg, aRev, aYes, aWalk, aRange, aEnT, aEnO, aFSt, aFAug, aDNew, dats, Option.map_some, List.getElem?_cons_zero, List.getElem?_cons_succ, List.set_cons_zero, List.set_cons_succ]
    refine lc_l rs ePair ePair (fun q => decide (q.1 ≠ c)) (fun _ => True) (fun P h => wk_l h) trivial (by omega) (fun j q hq => ⟨_, rfl, fun P h => ?_, fun _ P h => h⟩) ?_
    · obtain ⟨c2, r2⟩ := q
      conv => whnf
      refine ⟨eCel c2, rfl, ?_⟩
      conv => whnf
      refine ⟨sh_cel, sh_cel, ?_⟩
      conv => whnf
      rw [ne_cel]
      exact h
    have hfl := List.length_filter_le (fun q : Cel × Rw => decide (q.1 ≠ c)) rs
    conv => whnf
    refine ⟨_, rfl, by show 2 ≤ 100000; decide, ?_⟩
    conv => whnf
    refine ⟨_, rfl, by show 1 ≤ 100000; decide, ?_⟩
    conv => whnf
    refine ⟨sz_ok (by rw [List.length_map]; show _ + 1 ≤ 100000; omega), ?_⟩
    refine ⟨(rs.filter fun q => decide (q.1 ≠ c)) ++ [(c, r)], .dat (eN n), .dat (.int hd), .dat (eCel c), .dat (eRw r), ?_, rfl, by rw [List.length_append]; show _ + 1 ≤ _; omega, fun q hq => ?_⟩
    · rw [List.map_append]
      rfl
    · rcases List.mem_append.mp hq with hq | hq
      · exact h2 q (List.mem_filter.mp hq).1
      · rw [List.mem_singleton] at hq
        subst hq
        exact hz
  · rintro env L ⟨rs, x4, x5, x6, x7, rfl, rfl, h1, h2⟩
    refine ⟨trivial, ?_⟩
    conv => whnf
    refine ⟨_, rfl, ?_⟩
    conv => whnf
    refine ⟨_, rfl, ?_⟩
    conv => whnf
    refine ⟨_, rfl, ?_⟩
    conv => whnf
    exact ⟨_, rfl, by show 4 ≤ 100000; decide, hp rs ⟨by omega, h2⟩⟩
theorem law_l_model : LawB (C_l_model G) (b_l_model G) N_l_model := by
  rintro ens L post ⟨F, l, log, rfl, rfl, hl, hp⟩
  have hll := hl.1
  show b_l_model G _ [.own l, .no, .no, .no, .no, .no] _
  unfold b_l_model
  refine seq_k (fun env L => ∃ q1, env = [.own l, .own q1, .no, .no, .no, .no] ∧ L = [(q1, OD.lst []), (l, OD.lst (log.map eLg))]) ?_ (fun K hK => ⟨_, rfl, by decide, fun q1 => hK _ _ ⟨q1, rfl, rfl⟩⟩)
  rintro env L ⟨q1, rfl, rfl⟩
  refine seq_k (fun env L => ∃ q2, env = [.own l, .own q1, .own q2, .no, .no, .no] ∧ L = [(q2, OD.lst []), (q1, OD.lst []), (l, OD.lst (log.map eLg))]) ?_ (fun K hK => ⟨_, rfl, by decide, fun q2 => hK _ _ ⟨q2, rfl, rfl⟩⟩)
  rintro env L ⟨q2, rfl, rfl⟩
  refine seq_k (fun env L => ∃ q3, env = [.own l, .own q1, .own q2, .own q3, .no, .no] ∧ L = [(q3, OD.lst []), (q2, OD.lst []), (q1, OD.lst []), (l, OD.lst (log.map eLg))]) ?_ (fun K hK => ⟨_, rfl, by decide, fun q3 => hK _ _ ⟨q3, rfl, rfl⟩⟩)
  rintro env L ⟨q3, rfl, rfl⟩
  refine seq_for ?_
  refine for_l log eLg (fun L => seqOf (.own l) L (log.map eLg)) (fun i env L => ∃ x4, env = [.own l, .own q1, .own q2, .own q3, x4, .no] ∧ L = [(q3, OD.lst ((mdl (log.take i)).2.2.map eTeL)), (q2, OD.lst ((mdl (log.take i)).2.1.map .bool)), (q1, OD.lst ((mdl (log.take i)).1.map eEd)), (l, OD.lst (log.map eLg))])
    (fun P h => ⟨_, .inr (.inr ⟨l, 3, rfl, rfl⟩), h⟩) ⟨_, rfl, rfl⟩ ?_ ?_
  · rintro i x env L hx ⟨x4, rfl, rfl⟩
    have hi : i < log.length := (List.getElem?_eq_some_iff.mp hx).1
    have hm := mdl_ok hl i (by omega)
    have hlg := hl.2 i x hx
    refine ⟨.inr (.inr ⟨l, 3, rfl, rfl⟩), _, rfl, ?_⟩
    rw [mdl_succ hx]
    obtain ⟨h1, h2, h3, h4⟩ := hm
    generalize mdl (log.take i) = m at hlg h1 h2 h3 h4 ⊢
    obtain ⟨e, f, t⟩ := m
    simp only at h1 h2 h3 h4
    refine seq_if ?_
    cases x with
    | ed h c r =>
      conv => whnf
      refine ⟨.str (Str.ofString "edit"), rfl, ?_⟩
      conv => whnf
      refine ⟨so_e, so_e, ?_⟩
      conv => whnf
      refine ⟨fun _ => ?_, fun h => tfb (sq_eq rfl) h⟩
      conv => whnf
      refine ⟨q1, 2, _, rfl, rfl, ?_⟩
      conv => whnf
      refine ⟨by show ¬ (HT.sIx 4 0 (some 1) = 0 ∧ HT.sIx 4 4 none = 4); decide, rfl, 2, _, _, rfl, rfl, by rw [List.length_map]; show e.length < 100000; omega, ?_⟩
      conv => whnf
      refine ⟨q2, 1, _, rfl, rfl, 1, _, _, rfl, rfl, by rw [List.length_map]; show f.length < 100000; omega, ?_⟩
      refine ⟨_, rfl, ?_⟩
      show _ = [(q3, OD.lst (t.map eTeL)), (q2, OD.lst ((f ++ [true]).map .bool)), (q1, OD.lst ((e ++ [(h, c, r)]).map eEd)), (l, OD.lst (log.map eLg))]
      rw [List.map_append, List.map_append]
      rfl
    | te z =>
      conv => whnf
      refine ⟨.str (Str.ofString "test"), rfl, ?_⟩
      conv => whnf
      refine ⟨so_t, so_e, ?_⟩
      conv => whnf
      refine ⟨fun h => tfb h (sq_ne w_te), fun _ => ?_⟩
      refine seq_if ?_
      conv => whnf
      refine ⟨.str (Str.ofString "test"), rfl, ?_⟩
      conv => whnf
      refine ⟨so_t, so_t, ?_⟩
      conv => whnf
      refine ⟨fun _ => ?_, fun h => tfb (sq_eq rfl) h⟩
      conv => whnf
      refine ⟨q3, 0, _, rfl, rfl, ?_⟩
      conv => whnf
      refine ⟨by show ¬ (HT.sIx 3 0 (some 1) = 0 ∧ HT.sIx 3 3 none = 3); decide, rfl, 0, _, _, rfl, rfl, by rw [List.length_map]; show t.length < 100000; omega, ?_⟩
      refine ⟨_, rfl, ?_⟩
      show _ = [(q3, OD.lst ((t ++ [z]).map eTeL)), (q2, OD.lst (f.map .bool)), (q1, OD.lst (e.map eEd)), (l, OD.lst (log.map eLg))]
      rw [List.map_append]
      rfl
    | tu b n =>
      have hfn : n < f.length := (List.getElem?_eq_some_iff.mp (show f[n]? = some (!b) from hlg)).1
      cases b with
      | false =>
        conv => whnf
        refine ⟨.str (Str.ofString "undo"), rfl, ?_⟩
        conv => whnf
        refine ⟨so_u, so_e, ?_⟩
        conv => whnf
        refine ⟨fun h => tfb h (sq_ne w_ue), fun _ => ?_⟩
        refine seq_if ?_
        conv => whnf
        refine ⟨.str (Str.ofString "undo"), rfl, ?_⟩
        conv => whnf
        refine ⟨so_u, so_t, ?_⟩
        conv => whnf
        refine ⟨fun h => tfb h (sq_ne w_ut), fun _ => ?_⟩
        conv => whnf
        refine ⟨.str (Str.ofString "undo"), rfl, ?_⟩
        conv => whnf
        refine ⟨so_u, so_r, ?_⟩
        have s4 : PyData.eqv (.str (Str.ofString "undo")) (.str (Str.ofString "redo")) = false := sq_ne w_ur
        conv => whnf
        refine ⟨.int n, rfl, ?_⟩
        conv => whnf
        refine ⟨q2, n, _, 1, n, _, rfl, rfl, rfl, rfl, ?_, ?_⟩
        · rw [List.length_map]
          exact ixN_nat hfn
        refine ⟨_, rfl, ?_⟩
        rw [s4]
        show _ = [(q3, OD.lst (t.map eTeL)), (q2, OD.lst ((f.set n false).map .bool)), (q1, OD.lst (e.map eEd)), (l, OD.lst (log.map eLg))]
        rw [List.map_set]
        rfl
      | true =>
        conv => whnf
        refine ⟨.str (Str.ofString "redo"), rfl, ?_⟩
        conv => whnf
        refine ⟨so_r, so_e, ?_⟩
        conv => whnf
        refine ⟨fun h => tfb h (sq_ne w_re), fun _ => ?_⟩
        refine seq_if ?_
        conv => whnf
        refine ⟨.str (Str.ofString "redo"), rfl, ?_⟩
        conv => whnf
        refine ⟨so_r, so_t, ?_⟩
        conv => whnf
        refine ⟨fun h => tfb h (sq_ne w_rt), fun _ => ?_⟩
        conv => whnf
        refine ⟨.str (Str.ofString "redo"), rfl, ?_⟩
        conv => whnf
        refine ⟨so_r, so_r, ?_⟩
        have s4 : PyData.eqv (.str (Str.ofString "redo")) (.str (Str.ofString "redo")) = true := sq_eq rfl
        conv => whnf
        refine ⟨.int n, rfl, ?_⟩
        conv => whnf
        refine ⟨q2, n, _, 1, n, _, rfl, rfl, rfl, rfl, ?_, ?_⟩
        · rw [List.length_map]
          exact ixN_nat hfn
        refine ⟨_, rfl, ?_⟩
        rw [s4]
        show _ = [(q3, OD.lst (t.map eTeL)), (q2, OD.lst ((f.set n true).map .bool)), (q1, OD.lst (e.map eEd)), (l, OD.lst (log.map eLg))]
        rw [List.map_set]
        rfl
  · rintro env L ⟨x4, rfl, rfl⟩
    refine ⟨.inr (.inr ⟨l, 3, rfl, rfl⟩), ?_⟩
    have hm := hl.md
    rw [List.take_length]
    generalize mdl log = m at hm hp ⊢
    obtain ⟨e, f, t⟩ := m
    obtain ⟨h1, h2, h3, h4⟩ := hm
    simp only at h1 h2 h3 h4
    simp only [aSeq, aNext, aExpr, aRet, aIf, aAsg, aName, aC, aVar, aNil, aCons, aTup, aLst, aOwn, aTwo, aOp, aUn, aNary, aB, aAnd, aOr, aNot, aAndV, aNotV, aI0, aI2, aEqD, aNeD, aIsN, aAddS, aCat, aIx, aSl, aNoO, aSoO, aBetw, aLen, aIntU, aListOf, aTupOf, aFld, aProg, aFrz, aFrzD, aApp, aSetIx, aAug, aTg, aUnL, aUn2, aIsi, aNeg, aRev, aYes, aWalk, aRange, aEnT, aEnO, aFSt, aFAug, aDNew, dats, Option.map_some, List.getElem?_cons_zero, List.getElem?_cons_succ, List.set_cons_zero, List.set_cons_succ, aDropE]
    refine ⟨q1, 2, _, rfl, rfl, ?_⟩
    refine lc_l (List.range f.length) eN eN (fun k => f.getD k false) (fun _ => True) (fun P h => ?_) trivial (by rw [List.length_range]; omega) (fun i k hk => ⟨_, rfl, fun P h => ?_, fun _ P h => h⟩) ?_
    · conv => whnf
      refine ⟨1, _, rfl, _, rfl, by omega, by rw [List.length_map]; omega, ?_⟩
      rw [List.length_map]
      exact h
    · obtain ⟨hk1, rfl⟩ := rg_get hk
      conv => whnf
      refine ⟨1, _, .bool (f.getD k false), rfl, atI_nat (get_map (getD_some hk1)), h⟩
    conv => whnf
    refine ⟨q3, 0, _, rfl, rfl, ?_⟩
    conv => whnf
    refine ⟨_, rfl, by show 3 ≤ 100000; decide, 0, _, rfl, ?_⟩
    exact hp
theorem law_l_now : LawB (C_l_now G) (b_l_now G) N_l_now := by
  rintro ens L post ⟨F, rows, l, log, rfl, rfl, ok, hr, hrl, hl, hp⟩
  show b_l_now G _ [.dat (ePlan F rows), .own l, .no, .no, .no] _
  unfold b_l_now
  conv => whnf
  refine ⟨_, [], pm_nil, F, l, log, rfl, rfl, hl, _, pm_nil, ?_⟩
  refine ⟨_, _, rfl, rfl, ?_⟩
  conv => whnf
  have hm := hl.md
  have hll := hl.1
  generalize mdl log = m at hm
  obtain ⟨e, f, t⟩ := m
  obtain ⟨h1, h2, h3, h4⟩ := hm
  simp only at h1 h2 h3 h4
  have hb := inB_len f
  exact ⟨[], _, .refl _, F, rows, e, inB f, rfl, rfl, ok, hr, by omega, by omega, h1, fun n hn => by have := (inB_lt hn).1; omega, fun rows' hr' => ⟨_, .refl _, hp rows' hr'⟩⟩
theorem ln_neg {α : Type} {xs : List α} (h : 0 < xs.length) : cutD xs none (some (-1)) = xs.take (xs.length - 1) := by
  unfold cutD
  rw [HT.sIx_none, List.drop_zero]
  congr 1
  show (if (-1 : Int) < 0 then ((-1 : Int) + (xs.length : Int)).toNat else min (-1 : Int).toNat xs.length) - 0 = xs.length - 1
  rw [if_pos (by decide)]
  omega
theorem law_l_other_row : LawB (C_l_other_row G) (b_l_other_row G) N_l_other_row := by
  rintro ens L post ⟨F, rows, r, rfl, rfl, ok, hr, hp⟩
  obtain ⟨tg, ho, wr⟩ := r
  simp only at hr
  show b_l_other_row G _ [.dat (ePlan F rows), .dat (.tuple [.int tg, .tuple (ho.map eN), .tuple (wr.map eWr)]), .no, .no, .no] _
  unfold b_l_other_row
  refine seq_k (fun env L => env = [.dat (ePlan F rows), .dat (.tuple [.int tg, .tuple (ho.map eN), .tuple (wr.map eWr)]), .dat (.int tg), .dat (.tuple (ho.map eN)), .dat (.tuple (wr.map eWr))] ∧ L = []) ?_ (fun K hK => ⟨_, _, rfl, rfl, hK _ _ ⟨rfl, rfl⟩⟩)
  rintro env L ⟨rfl, rfl⟩
  refine seq_if ?_
  conv => whnf
  refine ⟨fun h => ?_, fun h => ?_⟩
  · rw [decide_eq_true_eq, List.length_map] at h
    have h0 : 0 < wr.length := by omega
    have e1 : cutD (wr.map eWr) none (some (-1)) = (wr.take (wr.length - 1)).map eWr := by
      rw [ln_neg (by rw [List.length_map]; exact h0), List.length_map, List.map_take]
    have e2 : otherR F (tg, ho, wr) = (tg, ho, wr.take (wr.length - 1)) := by
      unfold otherR
      rw [if_pos h0]
    rw [e2] at hp
    have no : isNam ((wr.take (wr.length - 1)).map eWr) = false := by
      cases wr.take (wr.length - 1) with
      | nil => rfl
      | cons w t => rfl
    conv => whnf
    refine ⟨1, rfl, ?_⟩
    conv => whnf
    refine ⟨fun h2 => ?_, ?_, ?_⟩
    · have h3 : (if (-1 : Int) < 0 then ((-1 : Int) + ((wr.map eWr).length : Int)).toNat else min (-1 : Int).toNat (wr.map eWr).length) = (wr.map eWr).length := h2.2
      rw [if_pos (by decide), List.length_map] at h3
      omega
    · rw [e1]
      exact no
    conv => whnf
    refine ⟨_, rfl, by show 3 ≤ 100000; decide, ?_⟩
    rw [e1]
    exact hp
  · rw [decide_eq_false_iff_not, List.length_map] at h
    have h0 : ¬ 0 < wr.length := by omega
    have p1 := ok.p1
    have g0 : F.ports[0]? = some (F.ports.getD 0 (⟨#[]⟩, [])) := getD_some p1
    obtain ⟨_, g1, _⟩ := ok.pw _ (getD_mem p1)
    have g2 := getD_some (d := (⟨#[]⟩ : Str)) g1
    have e2 : otherR F (tg, ho, wr) = (tg, ho, [(0, ((F.ports.getD 0 (⟨#[]⟩, [])).2).getD 0 ⟨#[]⟩, 0)]) := by
      unfold otherR
      rw [if_neg h0]
    rw [e2] at hp
    conv => whnf
    refine ⟨.tuple (F.ports.map ePort), rfl, ?_⟩
    conv => whnf
    refine ⟨_, atI_nat (i := 0) (get_map g0), ?_⟩
    conv => whnf
    refine ⟨.tuple (((F.ports.getD 0 (⟨#[]⟩, [])).2).map .str), rfl, ?_⟩
    conv => whnf
    refine ⟨_, atI_nat (i := 0) (get_map g2), ?_⟩
    conv => whnf
    refine ⟨_, rfl, by show 3 ≤ 100000; decide, ?_⟩
    conv => whnf
    refine ⟨_, rfl, by show 1 ≤ 100000; decide, ?_⟩
    conv => whnf
    exact ⟨_, rfl, by show 3 ≤ 100000; decide, hp⟩
theorem law_l_changed : LawB (C_l_changed G) (b_l_changed G) N_l_changed := by
  rintro ens L post ⟨F, rf1, rf2, rfl, rfl, ok, h1, h2, hp⟩
  have hcl := cells_len ok
  show b_l_changed G _ [eProg F rf1, eProg F rf2, .no] _
  simp (config := {maxSteps := 3000000}) only [b_l_changed, aSeq, aRet]
  refine lc_l (cellsF F) eCel eCel (fun c => decide (rf1 c ≠ rf2 c)) (fun _ => True) (fun P h => ?_) trivial (by omega) (fun i c hc => ⟨_, rfl, fun P h => ?_, fun _ P h => h⟩) hp
  · conv => whnf
    exact ⟨[], _, .refl _, F, rf1, rfl, rfl, ok, _, .refl _, wk_l h⟩
  · have hc := mem_cells.mp (List.mem_of_getElem? hc)
    conv => whnf
    refine ⟨[], _, .refl _, F, rf1, c, rfl, rfl, ok, hc, _, .refl _, ?_⟩
    conv => whnf
    refine ⟨[], _, .refl _, F, rf2, c, rfl, rfl, ok, hc, _, .refl _, ?_⟩
    conv => whnf
    refine ⟨sh_of (lq_rw ok (h1 c hc)), sh_of (lq_rw ok (h2 c hc)), ?_⟩
    conv => whnf
    rw [ne_rw]
    exact h
end Mn
namespace Mn
open PySem PySem.Spec PyProof.Rows L2
variable (G : Gp)
theorem ne_nil {xs : List PyData} (h : (!PyData.eqv (.list xs) (.list [])) = true) : 0 < xs.length := by
  cases xs with
  | nil =>
    simp [PyData.eqv, PyData.eqvAll] at h
  | cons x t => exact Nat.succ_pos _
theorem sh_nil : SeqAt.shaped (.list []) = true := sh_of (n := 1) (lq_list fun d hd => absurd hd List.not_mem_nil)
theorem sh_nats {xs : List Nat} : SeqAt.shaped (.list (xs.map eN)) = true := sh_of (n := 1) (lq_list fun d hd => by
  obtain ⟨x, _, rfl⟩ := List.mem_map.mp hd
  exact lq_int)
theorem sh_eds {F : Fr} (ok : FrOk F) {es : List Ed} (h : ∀ e ∈ es, CelOk F e.2.1 ∧ RwOk F e.2.1 e.2.2) : SeqAt.shaped (.list (es.map eEd)) = true := sh_of (n := 5) (lq_list fun d hd => by
  obtain ⟨e, he, rfl⟩ := List.mem_map.mp hd
  refine lq_tup fun d hd => ?_
  simp only [List.mem_cons, List.not_mem_nil, or_false] at hd
  rcases hd with rfl | rfl | rfl
  · exact lq_int
  · exact lq_mono lq_cel (by decide)
  · exact lq_rw ok (h e he).2)
theorem law_l_event : LawB (C_l_event G) (b_l_event G) N_l_event := by
  rintro ens L post ⟨p, a, b, F, rows, l, log, rfl, rfl, ok, hr, hrl, hl, hp⟩
  have hcl := cells_len ok
  show b_l_event G _ [.own p, .dat (ePlan F rows), .own l, .no, .no, .no, .no, .no, .no, .no, .no, .no, .no] _
  unfold b_l_event
  have hm := hl.md
  have hll := hl.1
  generalize hmm : mdl log = m at hm hp
  obtain ⟨e, f, t⟩ := m
  obtain ⟨h1, h2, h3, h4⟩ := hm
  simp only at h1 h2 h3 h4
  have hbl := inB_len f
  refine seq_k (fun env L => env = [.own p, .dat (ePlan F rows), .own l, .no, .no, .no, .no, .dat (.list (e.map eEd)), .dat (.list ((inB f).map eN)), .dat (.list (t.map eTeL)), .no, .no, .no] ∧ L = [(p, src a b), (l, OD.lst (log.map eLg))]) ?_ (fun K hK => ?_)
  rotate_left
  · conv => whnf
    refine ⟨[(l, OD.lst (log.map eLg))], _, pm_c, F, l, log, rfl, rfl, hl, _, pm_c, ?_⟩
    rw [hmm]
    exact ⟨_, _, rfl, rfl, hK _ _ ⟨rfl, rfl⟩⟩
  rintro env L ⟨rfl, rfl⟩
  refine seq_k (fun env L => env = [.own p, .dat (ePlan F rows), .own l, .dat (.list (((List.range e.length).filter fun (k : Nat) => (true ^^ decide ((k : Int) ∈ (inB f).map fun (k : Nat) => (k : Int)))).map eN)), .no, .no, .no, .dat (.list (e.map eEd)), .dat (.list ((inB f).map eN)), .dat (.list (t.map eTeL)), .no, .no, .no] ∧ L = [(p, src a b), (l, OD.lst (log.map eLg))]) ?_ (fun K hK => ?_)
  rotate_left
  · simp only [aSeq, aNext, aExpr, aRet, aIf, aAsg, aName, aC, aVar, aNil, aCons, aTup, aLst, aOwn, aTwo, aOp, aUn, aNary, aB, aAnd, aOr, aNot, aAndV, aNotV, aI0, aI2, aEqD, aNeD, aIsN, aAddS, aCat, aIx, aSl, aNoO, aSoO, aBetw, aLen, aIntU, aListOf, aTupOf, aFld, aProg, aFrz, aFrzD, aApp, aSetIx, aAug, aTg, aUnL, aUn2, aIsi, aNeg, aRev, aYes, aWalk, aRange, aEnT, aEnO, aFSt, aFAug, aDNew, dats, Option.map_some, List.getElem?_cons_zero, List.getElem?_cons_succ, List.set_cons_zero, List.set_cons_succ]
    refine lc_l (List.range e.length) eN eN (fun (k : Nat) => (true ^^ decide ((k : Int) ∈ (inB f).map fun (k : Nat) => (k : Int)))) (fun _ => True) (fun P h => ?_) trivial (by rw [List.length_range]; omega) (fun i k hk => ⟨_, rfl, fun P h => ?_, fun _ P h => h⟩) ?_
    · refine ⟨_, rfl, by omega, by rw [List.length_map]; omega, ?_⟩
      rw [List.length_map]
      exact h
    · conv => whnf
      refine .inl ⟨(k : Int), (inB f).map fun (k : Nat) => (k : Int), rfl, .inl ?_, h⟩
      rw [List.map_map]
      rfl
    · exact hK _ _ ⟨rfl, rfl⟩
  rintro env L ⟨rfl, rfl⟩
  have hun : ∀ k ∈ ((List.range e.length).filter fun (k : Nat) => (true ^^ decide ((k : Int) ∈ (inB f).map fun (k : Nat) => (k : Int)))), k < e.length ∧ f[k]? = some false := fun k hk => by
    obtain ⟨g1, g2⟩ := List.mem_filter.mp hk
    have g1 := List.mem_range.mp g1
    refine ⟨g1, ?_⟩
    have hk2 : k < f.length := by omega
    rw [getD_some (d := false) hk2]
    congr 1
    cases hb : f.getD k false with
    | false => rfl
    | true =>
      have : (k : Int) ∈ (inB f).map fun (k : Nat) => (k : Int) := List.mem_map.mpr ⟨k, List.mem_filter.mpr ⟨List.mem_range.mpr hk2, hb⟩, rfl⟩
      rw [decide_eq_true this] at g2
      exact nf g2
  have hul : ((List.range e.length).filter fun (k : Nat) => (true ^^ decide ((k : Int) ∈ (inB f).map fun (k : Nat) => (k : Int)))).length ≤ e.length := Nat.le_trans (List.length_filter_le _ _) (by rw [List.length_range]; exact Nat.le_refl _)
  generalize ((List.range e.length).filter fun (k : Nat) => (true ^^ decide ((k : Int) ∈ (inB f).map fun (k : Nat) => (k : Int)))) = und at hun hul ⊢
  refine seq_k (fun env L => ∃ (r : Nat) (a b : Int), env = [.own p, .dat (ePlan F rows), .own l, .dat (.list (und.map eN)), .dat (.int r), .no, .no, .dat (.list (e.map eEd)), .dat (.list ((inB f).map eN)), .dat (.list (t.map eTeL)), .no, .no, .no] ∧ L = [(p, src a b), (l, OD.lst (log.map eLg))]) ?_ (fun K hK => ?_)
  rotate_left
  · conv => whnf
    exact ⟨[(p, src a b)], [(l, OD.lst (log.map eLg))], .refl _, p, a, b, 8, rfl, rfl, by decide, by decide, fun r a b hr => ⟨_, .refl _, hK _ _ ⟨r, a, b, rfl, rfl⟩⟩⟩
  rintro env L ⟨r, a, b, rfl, rfl⟩
  refine seq_k (fun env L => env = [.own p, .dat (ePlan F rows), .own l, .dat (.list (und.map eN)), .dat (.int r), .no, .no, .dat (.list (e.map eEd)), .dat (.list ((inB f).map eN)), .dat (.list (t.map eTeL)), .no, .no, .no] ∧ L = [(p, src a b), (l, OD.lst (log.map eLg))]) ?_ (fun K hK => ?_)
  rotate_left
  · conv => whnf
    refine ⟨sh_int, sh_int, ?_⟩
    conv => whnf
    refine ⟨fun _ => ?_, fun _ => ⟨fun h => nf h, fun _ => hK _ _ ⟨rfl, rfl⟩⟩⟩
    conv => whnf
    refine ⟨[], rfl, by decide, ?_⟩
    conv => whnf
    refine ⟨sh_nats, sh_nil, ?_⟩
    conv => whnf
    refine ⟨fun h => ?_, fun _ => hK _ _ ⟨rfl, rfl⟩⟩
    have hpos := ne_nil h
    conv => whnf
    refine ⟨[(p, src a b)], [(l, OD.lst (log.map eLg))], .refl _, p, a, b, (inB f).map eN, _, rfl, .inl rfl, rfl, hpos, by rw [List.length_map]; omega, fun d hd a b => ⟨_, .refl _, ?_⟩⟩
    obtain ⟨n, hn, rfl⟩ := List.mem_map.mp hd
    conv => whnf
    refine ⟨_, rfl, by show 2 ≤ 100000; decide, ?_⟩
    exact hp (.tu false n) a b (inB_lt hn).2
  rintro env L ⟨rfl, rfl⟩
  refine seq_k (fun env L => env = [.own p, .dat (ePlan F rows), .own l, .dat (.list (und.map eN)), .dat (.int r), .no, .no, .dat (.list (e.map eEd)), .dat (.list ((inB f).map eN)), .dat (.list (t.map eTeL)), .no, .no, .no] ∧ L = [(p, src a b), (l, OD.lst (log.map eLg))]) ?_ (fun K hK => ?_)
  rotate_left
  · conv => whnf
    refine ⟨sh_int, sh_int, ?_⟩
    conv => whnf
    refine ⟨fun _ => ?_, fun _ => ⟨fun h => nf h, fun _ => hK _ _ ⟨rfl, rfl⟩⟩⟩
    conv => whnf
    refine ⟨[], rfl, by decide, ?_⟩
    conv => whnf
    refine ⟨sh_nats, sh_nil, ?_⟩
    conv => whnf
    refine ⟨fun h => ?_, fun _ => hK _ _ ⟨rfl, rfl⟩⟩
    have hpos := ne_nil h
    conv => whnf
    refine ⟨[(p, src a b)], [(l, OD.lst (log.map eLg))], .refl _, p, a, b, und.map eN, _, rfl, .inl rfl, rfl, hpos, by rw [List.length_map]; omega, fun d hd a b => ⟨_, .refl _, ?_⟩⟩
    obtain ⟨n, hn, rfl⟩ := List.mem_map.mp hd
    conv => whnf
    refine ⟨_, rfl, by show 2 ≤ 100000; decide, ?_⟩
    exact hp (.tu true n) a b (hun n hn).2
  rintro env L ⟨rfl, rfl⟩
  refine seq_k (fun env L => env = [.own p, .dat (ePlan F rows), .own l, .dat (.list (und.map eN)), .dat (.int r), .no, .no, .dat (.list (e.map eEd)), .dat (.list ((inB f).map eN)), .dat (.list (t.map eTeL)), .no, .no, .no] ∧ L = [(p, src a b), (l, OD.lst (log.map eLg))]) ?_ (fun K hK => ?_)
  rotate_left
  · conv => whnf
    refine ⟨fun _ => ?_, fun _ => hK _ _ ⟨rfl, rfl⟩⟩
    refine seq_k (fun env L => ∃ (es : List Ev) (a b : Int), env = [.own p, .dat (ePlan F rows), .own l, .dat (.list (und.map eN)), .dat (.int r), .no, .no, .dat (.list (e.map eEd)), .dat (.list ((inB f).map eN)), .dat (.list (t.map eTeL)), .dat (.list (es.map eEv)), .no, .no] ∧ L = [(p, src a b), (l, OD.lst (log.map eLg))] ∧ 0 < es.length ∧ es.length ≤ 6 ∧ ∀ e ∈ es, EvOk F e) ?_ (fun K hK => ?_)
    rotate_left
    · conv => whnf
      refine ⟨[(p, src a b)], [(l, OD.lst (log.map eLg))], .refl _, p, a, b, 6, rfl, rfl, by decide, by decide, fun r a b hr => ⟨_, .refl _, ?_⟩⟩
      conv => whnf
      refine ⟨[(p, src a b)], [(l, OD.lst (log.map eLg))], .refl _, p, a, b, F, rows, 1 + r, ?_, rfl, ok, by omega, fun es a b g1 g2 => ⟨_, .refl _, hK _ _ ⟨es, a, b, rfl, rfl, by omega, by omega, g2⟩⟩⟩
      rw [Int.natCast_add]
      rfl
    rintro env L ⟨es, a, b, rfl, rfl, e1, e2, e3⟩
    refine seq_k (fun env L => ∃ (os : List Out) (a b : Int), env = [.own p, .dat (ePlan F rows), .own l, .dat (.list (und.map eN)), .dat (.int r), .no, .no, .dat (.list (e.map eEd)), .dat (.list ((inB f).map eN)), .dat (.list (t.map eTeL)), .dat (.list (es.map eEv)), .dat (.list (os.map eOut)), .no] ∧ L = [(p, src a b), (l, OD.lst (log.map eLg))] ∧ os.length = es.length ∧ ∀ o ∈ os, OutOk F o) ?_ (fun K hK => ?_)
    rotate_left
    · conv => whnf
      refine ⟨[(l, OD.lst (log.map eLg))], _, pm_c, F, rows, l, log, rfl, rfl, ok, hr, hrl, hl, fun rows' hr' => ⟨_, pm_c, ?_⟩⟩
      conv => whnf
      refine ⟨_, rfl, by show 2 ≤ 100000; decide, ?_⟩
      conv => whnf
      refine ⟨[(p, src a b)], [(l, OD.lst (log.map eLg))], .refl _, p, a, b, [ePlan F rows, ePlan F rows'], _, rfl, .inl rfl, rfl, by show 0 < 2; decide, by show 2 ≤ 100000; decide, fun d hd a b => ⟨_, .refl _, ?_⟩⟩
      have hd2 : ∃ rows2, d = ePlan F rows2 ∧ RowsOk F rows2 := by
        simp only [List.mem_cons, List.not_mem_nil, or_false] at hd
        rcases hd with rfl | rfl
        · exact ⟨_, rfl, hr⟩
        · exact ⟨_, rfl, hr'⟩
      obtain ⟨rows2, rfl, hr2⟩ := hd2
      conv => whnf
      refine ⟨[], _, .refl _, F, rows2, es, rfl, rfl, ok, hr2, e3, by omega, fun p' os ts g1 g2 => ⟨_, .refl _, ?_⟩⟩
      conv => whnf
      exact ⟨.list (os.map eOut), rfl, hK _ _ ⟨os, a, b, rfl, rfl, g1, g2⟩⟩
    rintro env L ⟨os, a, b, rfl, rfl, o1, o2⟩
    conv => whnf
    refine ⟨_, rfl, by show 3 ≤ 100000; decide, ?_⟩
    exact hp (.te (es, os)) a b ⟨e1, by show es.length ≤ 100; omega, o1, e3, o2⟩
  rintro env L ⟨rfl, rfl⟩
  refine seq_k (fun env L => ∃ (c : Cel) (a b : Int), env = [.own p, .dat (ePlan F rows), .own l, .dat (.list (und.map eN)), .dat (.int r), .dat (eCel c), .no, .dat (.list (e.map eEd)), .dat (.list ((inB f).map eN)), .dat (.list (t.map eTeL)), .no, .no, .no] ∧ L = [(p, src a b), (l, OD.lst (log.map eLg))] ∧ CelOk F c) ?_ (fun K hK => ?_)
  rotate_left
  · conv => whnf
    refine ⟨[], _, .refl _, F, rows, rfl, rfl, ok, _, .refl _, ?_⟩
    conv => whnf
    refine ⟨[(p, src a b)], [(l, OD.lst (log.map eLg))], .refl _, p, a, b, (cellsF F).map eCel, _, rfl, .inl rfl, rfl, by rw [List.length_map]; have := cells_pos ok; omega, by rw [List.length_map]; omega, fun d hd a b => ⟨_, .refl _, ?_⟩⟩
    obtain ⟨c, hc, rfl⟩ := List.mem_map.mp hd
    exact hK _ _ ⟨c, a, b, rfl, rfl, mem_cells.mp hc⟩
  rintro env L ⟨c, a, b, rfl, rfl, hc⟩
  refine seq_k (fun env L => ∃ (c : Cel) (a b : Int), env = [.own p, .dat (ePlan F rows), .own l, .dat (.list (und.map eN)), .dat (.int r), .dat (eCel c), .no, .dat (.list (e.map eEd)), .dat (.list ((inB f).map eN)), .dat (.list (t.map eTeL)), .no, .no, .no] ∧ L = [(p, src a b), (l, OD.lst (log.map eLg))] ∧ CelOk F c) ?_ (fun K hK => ?_)
  rotate_left
  · conv => whnf
    refine ⟨[], rfl, by decide, ?_⟩
    conv => whnf
    refine ⟨sh_eds ok h1, sh_nil, ?_⟩
    conv => whnf
    refine ⟨fun h => ?_, fun _ => ⟨fun h => nf h, fun _ => hK _ _ ⟨c, a, b, rfl, rfl, hc⟩⟩⟩
    have hpos := ne_nil h
    conv => whnf
    refine ⟨[(p, src a b)], [(l, OD.lst (log.map eLg))], .refl _, p, a, b, 3, rfl, rfl, by decide, by decide, fun r a b hr => ⟨_, .refl _, ?_⟩⟩
    conv => whnf
    refine ⟨sh_int, sh_int, ?_⟩
    conv => whnf
    refine ⟨fun _ => ?_, fun _ => hK _ _ ⟨c, a, b, rfl, rfl, hc⟩⟩
    conv => whnf
    refine ⟨[(p, src a b)], [(l, OD.lst (log.map eLg))], .refl _, p, a, b, e.map eEd, _, rfl, .inl rfl, rfl, hpos, by rw [List.length_map]; omega, fun d hd a b => ⟨_, .refl _, ?_⟩⟩
    obtain ⟨⟨z1, z2, z3⟩, hz, rfl⟩ := List.mem_map.mp hd
    conv => whnf
    exact ⟨eCel z2, rfl, hK _ _ ⟨z2, a, b, rfl, rfl, (h1 _ hz).1⟩⟩
  clear hc
  rintro env L ⟨c, a, b, rfl, rfl, hc⟩
  refine seq_k (fun env L => ∃ (w : Rw) (a b : Int), env = [.own p, .dat (ePlan F rows), .own l, .dat (.list (und.map eN)), .dat (.int r), .dat (eCel c), .dat (eRw w), .dat (.list (e.map eEd)), .dat (.list ((inB f).map eN)), .dat (.list (t.map eTeL)), .no, .no, .no] ∧ L = [(p, src a b), (l, OD.lst (log.map eLg))] ∧ RwOk F c w) ?_ (fun K hK => ?_)
  rotate_left
  · conv => whnf
    exact ⟨[(p, src a b)], [(l, OD.lst (log.map eLg))], .refl _, p, a, b, F, rows, c, rfl, rfl, ok, hc, fun w a b hw => ⟨_, .refl _, hK _ _ ⟨w, a, b, rfl, rfl, hw⟩⟩⟩
  rintro env L ⟨w, a, b, rfl, rfl, hw⟩
  refine seq_k (fun env L => ∃ (w : Rw) (a b : Int), env = [.own p, .dat (ePlan F rows), .own l, .dat (.list (und.map eN)), .dat (.int r), .dat (eCel c), .dat (eRw w), .dat (.list (e.map eEd)), .dat (.list ((inB f).map eN)), .dat (.list (t.map eTeL)), .no, .no, .no] ∧ L = [(p, src a b), (l, OD.lst (log.map eLg))] ∧ RwOk F c w) ?_ (fun K hK => ?_)
  rotate_left
  · conv => whnf
    refine ⟨[(p, src a b)], [(l, OD.lst (log.map eLg))], .refl _, p, a, b, 4, rfl, rfl, by decide, by decide, fun r a b hr4 => ⟨_, .refl _, ?_⟩⟩
    conv => whnf
    refine ⟨sh_int, sh_int, ?_⟩
    conv => whnf
    refine ⟨fun _ => ?_, fun _ => hK _ _ ⟨w, a, b, rfl, rfl, hw⟩⟩
    conv => whnf
    refine ⟨[], _, .refl _, F, rows, rfl, rfl, ok, hr, fun kds hk => ⟨_, .refl _, ?_⟩⟩
    obtain ⟨w2, hw2, hv⟩ := hk.2 c hc
    obtain ⟨m, n, k⟩ := c
    exact ⟨kds, [(m : Int), (n : Int), (k : Int)], _, .inl rfl, rfl, hv, hK _ _ ⟨w2, a, b, rfl, rfl, hw2⟩⟩
  clear hw
  rintro env L ⟨w, a, b, rfl, rfl, hw⟩
  conv => whnf
  refine ⟨[(p, src a b)], [(l, OD.lst (log.map eLg))], .refl _, p, a, b, 3, rfl, rfl, by decide, by decide, fun r a b hr => ⟨_, .refl _, ?_⟩⟩
  conv => whnf
  refine ⟨_, rfl, by show 4 ≤ 100000; decide, ?_⟩
  exact hp (.ed r c w) a b ⟨by omega, hc, hw⟩
/-! ### the shop and the log -/
theorem shlog_go {F : Fr} {S : Sh} {log : List Lg} {x : Lg} (h : ShLog F S log) (hx : LgOk F (mdl log) x) (hl : log.length < 40) : ShLog F (shGo S x) (log ++ [x]) := by
  have hm := h.lo.md
  obtain ⟨m1, m2, m3, m4⟩ := mdS_ok hm hx
  have hmd := h.md
  have hev := h.ev
  have hso := h.ok
  have hmd2 : ((shGo S x).eds, (shGo S x).frc, (shGo S x).tes) = mdl (log ++ [x]) := by
    rw [mdl_snoc, ← hmd]
    cases x <;> rfl
  rw [← mdl_snoc, ← hmd2] at m1 m2 m3 m4
  have hev2 : (shGo S x).evs.length = (log ++ [x]).length := by
    rw [List.length_append, ← hev]
    cases x <;> exact List.length_append
  have hll : (log ++ [x]).length = log.length + 1 := List.length_append
  simp only at m1 m2 m3 m4
  refine ⟨⟨by omega, by omega, m2, by omega, ?_, m1, m4, ?_⟩, h.lo.snoc hx (by omega), hev2, hmd2⟩
  · have n5 := hso.n5
    cases x with
    | ed n c r => exact n5
    | te t =>
      show (S.las ++ [none]).length = (S.tes ++ [t]).length
      rw [List.length_append, List.length_append, n5]
      rfl
    | tu b n => exact n5
  · intro y hy
    cases x with
    | ed n c r => exact hso.la y hy
    | te t =>
      rcases List.mem_append.mp hy with hy | hy
      · exact hso.la y hy
      · rw [List.mem_singleton] at hy
        intro ps b e
        rw [hy] at e
        cases e
    | tu b n => exact hso.la y hy
theorem pm_b {x l : Cell} {S : List Cell} : (x :: (S ++ [l])).Perm ([x, l] ++ S) := List.Perm.cons _ List.perm_append_comm
theorem pm_d {x l : Cell} {S : List Cell} : (x :: (S ++ [l])).Perm (S ++ [x, l]) := List.perm_middle.symm
theorem law_l_busy : LawB (C_l_busy G) (b_l_busy G) N_l_busy := by
  rintro ens L post ⟨p, sa, sb, F, rows, rf, a, S, l, log, n, rfl, rfl, ok, hr, hrl, hs, hn, hp⟩
  show b_l_busy G _ [.own p, .dat (ePlan F rows), .own a.q, .own l, .dat (.int n), .no, .no] _
  unfold b_l_busy
  refine seq_for ?_
  refine for_l (List.range n) eN (fun _ => True) (fun i env L => ∃ (S' : Sh) (log' : List Lg) (las' : List La) (x5 x6 : En) (sa sb : Int), env = [.own p, .dat (ePlan F rows), .own a.q, .own l, .dat (.int n), x5, x6] ∧ L = (p, src sa sb) :: (shC G F rf a S' ++ [(l, OD.lst (log'.map eLg))]) ∧ ShLog F S' log' ∧ S'.las = S.las ++ las' ∧ (∀ l ∈ las', l = none) ∧ (∃ ts, S'.tes = S.tes ++ ts) ∧ log'.length = log.length + i)
    (fun P h => ⟨n, rfl, by omega, by omega, h⟩) ⟨S, log, [], _, _, sa, sb, rfl, rfl, hs, (List.append_nil _).symm, fun l hl => absurd hl List.not_mem_nil, ⟨[], (List.append_nil _).symm⟩, rfl⟩ ?_ ?_
  · rintro i x env L hx ⟨S', log', las', x5, x6, sa, sb, rfl, rfl, g1, g2, g3, ⟨ts, g4⟩, g5⟩
    obtain ⟨hi, rfl⟩ := rg_get hx
    refine ⟨trivial, _, rfl, ?_⟩
    refine seq_k (fun env L => ∃ (x : Lg) (x5 : En) (sa sb : Int), env = [.own p, .dat (ePlan F rows), .own a.q, .own l, .dat (.int n), x5, .dat (eLg x)] ∧ L = (p, src sa sb) :: (shC G F rf a S' ++ [(l, OD.lst (log'.map eLg))]) ∧ LgOk F (mdl log') x) ?_ (fun K hK => ?_)
    rotate_left
    · conv => whnf
      exact ⟨_, _, pm_b, p, sa, sb, F, rows, l, log', rfl, rfl, ok, hr, hrl, g1.lo, fun y sa sb hy => ⟨_, pm_b, hK _ _ ⟨y, _, sa, sb, rfl, rfl, hy⟩⟩⟩
    rintro env L ⟨y, x5, sa, sb, rfl, rfl, hy⟩
    conv => whnf
    refine ⟨_, _, pm_d, F, rf, a, S', y, rfl, rfl, ok, g1.ok, by rw [g1.md]; exact hy, fun d => ⟨_, pm_d, ?_⟩⟩
    conv => whnf
    refine ⟨l, 7, _, rfl, rfl, 7, _, _, rfl, rfl, by rw [List.length_map]; omega, ?_⟩
    have key : ∃ la2 : List La, (shGo S' y).las = S'.las ++ la2 ∧ (∀ l ∈ la2, l = none) ∧ ∃ ts, (shGo S' y).tes = S'.tes ++ ts := by
      cases y with
      | ed n c r => exact ⟨[], (List.append_nil _).symm, fun l hl => absurd hl List.not_mem_nil, [], (List.append_nil _).symm⟩
      | te t => exact ⟨[none], rfl, fun l hl => List.mem_singleton.mp hl, [t], rfl⟩
      | tu b n => exact ⟨[], (List.append_nil _).symm, fun l hl => absurd hl List.not_mem_nil, [], (List.append_nil _).symm⟩
    obtain ⟨la2, k1, k2, ts2, k3⟩ := key
    refine ⟨shGo S' y, log' ++ [y], las' ++ la2, _, _, sa, sb, rfl, ?_, shlog_go g1 hy (by omega), ?_, ?_, ⟨ts ++ ts2, ?_⟩, by rw [List.length_append, g5]; rfl⟩
    · rw [List.map_append]
      rfl
    · rw [k1, g2, List.append_assoc]
    · intro z hz
      rcases List.mem_append.mp hz with hz | hz
      · exact g3 z hz
      · exact k2 z hz
    · rw [k3, g4, List.append_assoc]
  · rintro env L ⟨S', log', las', x5, x6, sa, sb, rfl, rfl, g1, g2, g3, g4, g5⟩
    rw [List.length_range] at g5
    exact ⟨trivial, hp sa sb S' log' las' g1 g2 g3 g4 g5⟩
theorem law_l_shop : LawB (C_l_shop G) (b_l_shop G) N_l_shop := by
  rintro ens L post ⟨p, sa, sb, F, rows, n, rfl, rfl, ok, hr, hrl, hn, hp⟩
  have hrf : RfOk F (rfOf F rows.reverse) := rfOf_ok ok fun q hq => hr.2 q (List.mem_reverse.mp hq)
  show b_l_shop G _ [.own p, .dat (ePlan F rows), .dat (.int n), .no, .no] _
  unfold b_l_shop
  refine seq_k (fun env L => ∃ a : Sa, env = [.own p, .dat (ePlan F rows), .dat (.int n), .own a.q, .no] ∧ L = (p, src sa sb) :: shC G F (rfOf F rows.reverse) a ⟨[], [], [], [], [], 0⟩) ?_ (fun K hK => ?_)
  rotate_left
  · conv => whnf
    refine ⟨[], _, .refl _, F, rows, rfl, rfl, ok, hr, _, .refl _, ?_⟩
    conv => whnf
    intro q dx
    refine ⟨[(q, OD.obj G.CW dx [])], [(p, src sa sb)], .refl _, F, _, q, dx, rfl, rfl, fun a h1 h2 => ⟨rfl, (p, src sa sb) :: shC G F (rfOf F rows.reverse) a ⟨[], [], [], [], [], 0⟩, ?_, ?_⟩⟩
    · subst h1 h2
      exact (List.reverse_perm _).symm
    · subst h1 h2
      exact hK _ _ ⟨a, rfl, rfl⟩
  rintro env L ⟨a, rfl, rfl⟩
  refine seq_k (fun env L => ∃ l, env = [.own p, .dat (ePlan F rows), .dat (.int n), .own a.q, .own l] ∧ L = (l, OD.lst []) :: (p, src sa sb) :: shC G F (rfOf F rows.reverse) a ⟨[], [], [], [], [], 0⟩) ?_ (fun K hK => ⟨_, rfl, by decide, fun l => hK _ _ ⟨l, rfl, rfl⟩⟩)
  rintro env L ⟨l, rfl, rfl⟩
  conv => whnf
  refine ⟨(p, src sa sb) :: (shC G F (rfOf F rows.reverse) a ⟨[], [], [], [], [], 0⟩ ++ [(l, OD.lst [])]), [], pm_c.trans pm_nil, p, sa, sb, F, rows, _, a, ⟨[], [], [], [], [], 0⟩, l, [], n, rfl, rfl, ok, hr, hrl, ⟨⟨by decide, by decide, rfl, by decide, rfl, fun e he => absurd he List.not_mem_nil, fun e he => absurd he List.not_mem_nil, fun e he => absurd he List.not_mem_nil⟩, ⟨by decide, fun i x hx => by cases hx⟩, rfl, rfl⟩, by show 0 + n ≤ 40; omega, fun sa sb S' log' las' g1 g2 g3 g4 g5 => ⟨_, pm_nil, ?_⟩⟩
  conv => whnf
  refine hp sa sb _ a S' l log' hrf g1 (fun z hz => g3 z ?_) (by rw [g5]; show 0 + n ≤ 20; omega)
  rw [g2] at hz
  exact hz
end Mn
namespace Mn
open PySem PySem.Spec PyProof.Rows L2
variable (G : Gp)
/-! ### the plain law -/
theorem lastR_some {c : Cel} : ∀ {rows : List (Cel × Rw)}, c ∈ rows.map (·.1) → ∃ r, lastR rows c = some r
  | (d, q) :: l, h => by
    rw [lastR]
    cases hl : lastR l c with
    | some r => exact ⟨r, rfl⟩
    | none =>
      rw [List.map_cons] at h
      rcases List.mem_cons.mp h with h | h
      · exact ⟨q, by simp only; rw [if_pos h.symm]⟩
      · obtain ⟨r, hr⟩ := lastR_some h
        rw [hr] at hl
        cases hl
theorem rfOf_get {F : Fr} {rows : List (Cel × Rw)} {c : Cel} (h : rows.map (·.1) = cellsF F) (hc : CelOk F c) : (c, rfOf F rows c) ∈ rows := by
  obtain ⟨r, hr⟩ := lastR_some (rows := rows) (c := c) (by rw [h]; exact mem_cells.mpr hc)
  unfold rfOf
  rw [hr]
  exact lastR_mem hr
theorem run_same {F : Fr} {B R : Cel → Rw} : ∀ {es : List Ev} {p : Pl}, (∀ c ∈ runT F B p es, R c = B c) → runO F R p es = runO F B p es
  | [], _, _ => rfl
  | e :: es, p, h => by
    rw [runO, runO]
    have h1 : R (celOf F p e) = B (celOf F p e) := h _ (by rw [runT]; exact List.mem_cons_self)
    rw [h1, run_same (es := es) fun c hc => h c (by rw [runT]; exact List.mem_cons_of_mem _ hc)]
theorem run_len {F : Fr} {B M : Cel → Rw} (hB : RfOk F B) (hM : ∀ c, CelOk F c → (M c).1 = (B c).1 ∧ (M c).2.1 = (B c).2.1) : ∀ {es : List Ev} {p : Pl}, PlAs F p → (∀ e ∈ es, EvOk F e) → runO F M p es = runO F B p es → ∀ c ∈ runT F B p es, (M c).2.2.length = (B c).2.2.length
  | [], _, _, _, _, c, hc => by cases hc
  | e :: es, p, hp, he, h, c, hc => by
    have he1 := he e List.mem_cons_self
    have hc0 := cel_ok hp.1 he1
    rw [runO, runO] at h
    obtain ⟨a1, a2⟩ := List.cons.inj h
    obtain ⟨b1, b2⟩ := hM _ hc0
    have e2 : plOf (M (celOf F p e)) (cand p.2 e.2) = plOf (B (celOf F p e)) (cand p.2 e.2) := by
      unfold plOf
      rw [b1, b2]
    rw [e2] at a2
    rw [runT] at hc
    rcases List.mem_cons.mp hc with hc | hc
    · subst hc
      have := congrArg List.length a1
      unfold outOf at this
      rwa [List.length_map, List.length_map] at this
    · exact run_len hB hM (pl_ok hp he1 (hB _ hc0)) (fun e h => he e (List.mem_cons_of_mem _ h)) a2 c hc
theorem mem_chg {F : Fr} {A B : Cel → Rw} {c : Cel} : c ∈ chgF F A B ↔ CelOk F c ∧ A c ≠ B c := by
  unfold chgF
  rw [List.mem_filter, mem_cells, decide_eq_true_eq]
theorem other_len {F : Fr} (r : Rw) : (otherR F r).2.2.length ≠ r.2.2.length := by
  unfold otherR
  split
  · rename_i h
    show (r.2.2.take (r.2.2.length - 1)).length ≠ _
    rw [List.length_take]
    omega
  · rename_i h
    show 1 ≠ _
    omega
theorem other_ne {F : Fr} (r : Rw) : otherR F r ≠ r := fun h => other_len (F := F) r (by rw [h])
theorem other_same {F : Fr} (r : Rw) : (otherR F r).1 = r.1 ∧ (otherR F r).2.1 = r.2.1 := by
  unfold otherR
  split <;> exact ⟨rfl, rfl⟩
theorem other_ok {F : Fr} (ok : FrOk F) {c : Cel} {r : Rw} (hc : CelOk F c) (h : RwOk F c r) : RwOk F c (otherR F r) := by
  unfold otherR
  split
  · refine ⟨h.tg, h.asc, h.lt, h.len, ?_, fun w hw => h.wr w (List.mem_of_mem_take hw)⟩
    have := h.few
    show (r.2.2.take (r.2.2.length - 1)).length ≤ 4
    rw [List.length_take]
    omega
  · refine ⟨h.tg, h.asc, h.lt, h.len, by show 1 ≤ 4; decide, fun w hw => ?_⟩
    rw [List.mem_singleton] at hw
    subst hw
    have g0 : F.ports[0]? = some (F.ports.getD 0 (⟨#[]⟩, [])) := getD_some ok.p1
    obtain ⟨_, g1, _⟩ := ok.pw _ (getD_mem ok.p1)
    exact ⟨⟨_, g0, getD_mem g1⟩, kn_pos hc⟩
/-- the row of the made program -/
def madeR (F : Fr) (B N : Cel → Rw) (c : Cel) : Rw := if c ∈ chgF F B N then otherR F (B c) else B c
theorem made_ok {F : Fr} (ok : FrOk F) {B N : Cel → Rw} (hB : RfOk F B) {c : Cel} (hc : CelOk F c) : RwOk F c (madeR F B N c) := by
  unfold madeR
  split
  · exact other_ok ok hc (hB c hc)
  · exact hB c hc
theorem made_same {F : Fr} {B N : Cel → Rw} {c : Cel} : (madeR F B N c).1 = (B c).1 ∧ (madeR F B N c).2.1 = (B c).2.1 := by
  unfold madeR
  split
  · exact other_same _
  · exact ⟨rfl, rfl⟩
theorem made_chg {F : Fr} {B N M : Cel → Rw} (h : ∀ c, CelOk F c → M c = madeR F B N c) : chgF F B M = chgF F B N := by
  unfold chgF
  refine List.filter_congr fun c hc => ?_
  have hc := mem_cells.mp hc
  rw [h c hc]
  unfold madeR
  by_cases hb : B c = N c
  · have : c ∉ chgF F B N := fun h => (mem_chg.mp h).2 hb
    rw [if_neg this]
    simp [hb]
  · have : c ∈ chgF F B N := mem_chg.mpr ⟨hc, hb⟩
    rw [if_pos this]
    have h2 : B c ≠ otherR F (B c) := fun h => other_ne _ h.symm
    simp [hb, h2]
theorem made_ne {F : Fr} (ok : FrOk F) {B N M : Cel → Rw} (hB : RfOk F B) (h : ∀ c, CelOk F c → M c = madeR F B N c) {es : List Ev} (he : ∀ e ∈ es, EvOk F e) {c : Cel} (hc : c ∈ runT F B p0 es) (hn : N c ≠ B c) : runO F M p0 es ≠ runO F B p0 es := fun heq => by
  obtain ⟨_, _, r3⟩ := run_ok hB (p0_ok ok) he
  have hcc := r3 c hc
  have h1 := run_len hB (fun c hc => by rw [h c hc]; exact made_same) (p0_ok ok) he heq c hc
  rw [h c hcc] at h1
  unfold madeR at h1
  rw [if_pos (mem_chg.mpr ⟨hcc, fun e => hn e.symm⟩)] at h1
  exact other_len _ h1
theorem stal_iff {F : Fr} {B N : Cel → Rw} {t : Te} {b : Bool} : stal N (laOf F B t b) = true ↔ ∃ c ∈ runT F B p0 t.1, N c ≠ B c := by
  show ((runT F B p0 t.1).map fun c => (c, B c)).any (fun q => decide (N q.1 ≠ q.2)) = true ↔ _
  rw [List.any_map, List.any_eq_true]
  constructor
  · rintro ⟨c, h1, h2⟩
    exact ⟨c, h1, of_decide_eq_true h2⟩
  · rintro ⟨c, h1, h2⟩
    exact ⟨c, h1, decide_eq_true h2⟩
theorem in_cel {c : Cel} {cs : List Cel} : ((cs.map eCel).any fun z => PyData.eqv z (eCel c)) = decide (c ∈ cs) := by
  apply dec_of
  rw [List.any_map, List.any_eq_true]
  constructor
  · rintro ⟨d, h1, h2⟩
    exact (eqv_cel.mp h2) ▸ h1
  · intro h
    exact ⟨c, h, eqv_cel.mpr rfl⟩
theorem sh_cels {cs : List Cel} : SeqAt.shaped (.list (cs.map eCel)) = true := sh_of (n := 2) (lq_list fun d hd => by
  obtain ⟨c, _, rfl⟩ := List.mem_map.mp hd
  exact lq_cel)
theorem sh_outs {F : Fr} (ok : FrOk F) {os : List Out} (h : ∀ o ∈ os, OutOk F o) : SeqAt.shaped (.list (os.map eOut)) = true := sh_of (n := 3) (lq_list fun d hd => by
  obtain ⟨o, ho, rfl⟩ := List.mem_map.mp hd
  exact lq_out ok (h o ho))
theorem eqv_lst {α : Type} {f : α → PyData} (h : ∀ x y, PyData.eqv (f x) (f y) = true ↔ x = y) {xs ys : List α} : PyData.eqv (.list (xs.map f)) (.list (ys.map f)) = true ↔ xs = ys := by
  rw [← eqvAll_iff h]
  simp only [PyData.eqv]
theorem eqv_outs {xs ys : List Out} : PyData.eqv (.list (xs.map eOut)) (.list (ys.map eOut)) = true ↔ xs = ys := eqv_lst fun x y => eqv_out
theorem eqv_cels {xs ys : List Cel} : PyData.eqv (.list (xs.map eCel)) (.list (ys.map eCel)) = true ↔ xs = ys := eqv_lst fun x y => eqv_cel
end Mn
namespace Mn
open PySem PySem.Spec PyProof.Rows L2
variable (G : Gp)
theorem pm_s {x y : Cell} {l : List Cell} : (y :: x :: l).Perm ([x] ++ (y :: l)) := List.Perm.swap x y l
theorem law_law : LawB (C_law G) (b_law G) N_law := by
  rintro ens L post ⟨ns, rfl, rfl, hp⟩
  show b_law G _ [.scr ns, .no, .no, .no, .no, .no, .no, .no, .no, .no, .no, .no, .no, .no, .no, .no, .no, .no] _
  unfold b_law
  refine seq_k (fun env L => ∃ p a b, env = [.scr ns, .own p, .no, .no, .no, .no, .no, .no, .no, .no, .no, .no, .no, .no, .no, .no, .no, .no] ∧ L = [(p, src a b)]) ?_ (fun K hK => ?_)
  rotate_left
  · conv => whnf
    refine ⟨[], _, .refl _, ns, rfl, rfl, fun i => ⟨_, .refl _, ?_⟩⟩
    conv => whnf
    exact ⟨[], _, .refl _, i, rfl, rfl, fun p a b => ⟨_, .refl _, hK _ _ ⟨p, a, b, rfl, rfl⟩⟩⟩
  rintro env L ⟨p, sa, sb, rfl, rfl⟩
  refine seq_k (fun env L => ∃ F rows sa sb, env = [.scr ns, .own p, .dat (ePlan F rows), .no, .no, .no, .no, .no, .no, .no, .no, .no, .no, .no, .no, .no, .no, .no] ∧ L = [(p, src sa sb)] ∧ FrOk F ∧ RowsOk F rows ∧ rows.length ≤ 1000) ?_ (fun K hK => ?_)
  rotate_left
  · conv => whnf
    exact ⟨_, [], pm_nil, p, sa, sb, rfl, rfl, fun F rows a b h1 h2 h3 => ⟨_, pm_nil, hK _ _ ⟨F, rows, a, b, rfl, rfl, h1, h2, h3⟩⟩⟩
  rintro env L ⟨F, rows, sa, sb, rfl, rfl, ok, hr, hrl⟩
  have hcl := cells_len ok
  refine seq_k (fun env L => ∃ (sa sb : Int) (rf : Cel → Rw) (a : Sa) (S : Sh) (l : Addr) (log : List Lg), env = [.scr ns, .own p, .dat (ePlan F rows), .no, .no, .no, .no, .no, .no, .own a.q, .own l, .no, .no, .no, .no, .no, .no, .no] ∧ L = (p, src sa sb) :: (shC G F rf a S ++ [(l, OD.lst (log.map eLg))]) ∧ RfOk F rf ∧ ShLog F S log ∧ (∀ l ∈ S.las, l = none) ∧ log.length ≤ 20) ?_ (fun K hK => ?_)
  rotate_left
  · conv => whnf
    refine ⟨_, [], pm_nil, p, sa, sb, 10, rfl, rfl, by decide, by decide, fun r sa sb hr10 => ⟨_, pm_nil, ?_⟩⟩
    conv => whnf
    refine ⟨_, [], pm_nil, p, sa, sb, F, rows, 4 + r, ?_, rfl, ok, hr, hrl, by omega, fun sa sb rf a S l log g1 g2 g3 g4 => ⟨_, pm_nil, ?_⟩⟩
    · rw [Int.natCast_add]
      rfl
    exact ⟨_, _, rfl, hK _ _ ⟨sa, sb, rf, a, S, l, log, rfl, rfl, g1, g2, g3, g4⟩⟩
  rintro env L ⟨sa, sb, rf, a, S, l, log, rfl, rfl, hrf, hs, hno, hlog⟩
  refine seq_k (fun env L => ∃ S1 : Sh, env = [.scr ns, .own p, .dat (ePlan F rows), .no, .no, .no, .no, .no, .no, .own a.q, .own l, .no, .no, .no, .no, .no, .no, .no] ∧ L = (p, src sa sb) :: (shC G F rf a S1 ++ [(l, OD.lst (log.map eLg))]) ∧ ShLog F S1 log ∧ ∀ (n : Nat) (t : Te), S1.tes[n]? = some t → ∃ b, S1.las[n]? = some (laOf F (rfS F rf S1) t b)) ?_ (fun K hK => ?_)
  rotate_left
  · conv => whnf
    refine ⟨a.q, 1, a.dx, _, rfl, rfl, rfl, ?_⟩
    conv => whnf
    refine ⟨_, _, pm_d, F, rf, a, S, rfl, rfl, ok, hrf, hs.ok, hno, fun d las r g1 g2 => ⟨_, pm_d, hK _ _ ⟨{ S with las := las, runs := r }, rfl, rfl, ⟨⟨hs.ok.n1, hs.ok.n2, hs.ok.n3, hs.ok.n4, g1, hs.ok.ed, hs.ok.te, ?_⟩, hs.lo, hs.ev, hs.md⟩, g2⟩⟩⟩
    intro y hy ps b e q hq
    obtain ⟨n, hn, hn2⟩ := List.getElem_of_mem hy
    have hn3 : n < S.tes.length := by
      have : n < las.length := hn
      omega
    have ew : S.tes[n]? = some S.tes[n] := by simp [hn3]
    obtain ⟨b2, h2⟩ := g2 n _ ew
    have h3 : las[n]? = some y := by
      rw [← hn2]
      simp
    rw [h3] at h2
    have h2 := Option.some.inj h2
    rw [e] at h2
    unfold laOf at h2
    cases h2
    obtain ⟨c, hc, rfl⟩ := List.mem_map.mp hq
    have hBB := rfS_ok ok hrf hs.ok
    obtain ⟨_, _, r3⟩ := run_ok hBB (p0_ok ok) (hs.ok.te _ (List.getElem_mem hn3)).2.2.2.1
    exact ⟨r3 c hc, hBB c (r3 c hc)⟩
  clear hs hno
  rintro env L ⟨S1, rfl, rfl, hs, hla⟩
  have hB := rfS_ok ok hrf hs.ok
  generalize hBe : rfS F rf S1 = B at hla hB
  refine seq_k (fun env L => env = [.scr ns, .own p, .dat (ePlan F rows), eProg F B, .no, .no, .no, .no, .no, .own a.q, .own l, .no, .no, .no, .no, .no, .no, .no] ∧ L = (p, src sa sb) :: (shC G F rf a S1 ++ [(l, OD.lst (log.map eLg))])) ?_ (fun K hK => ?_)
  rotate_left
  · conv => whnf
    refine ⟨a.q, 1, a.dx, _, rfl, rfl, rfl, ?_⟩
    conv => whnf
    refine ⟨_, _, pm_d, F, rf, a, S1, rfl, rfl, ok, hrf, hs.ok, _, pm_d, ?_⟩
    rw [hBe]
    exact hK _ _ ⟨rfl, rfl⟩
  rintro env L ⟨rfl, rfl⟩
  refine seq_k (fun env L => env = [.scr ns, .own p, .dat (ePlan F rows), eProg F B, .dat (.list (S1.tes.map eTeL)), .no, .no, .no, .no, .own a.q, .own l, .no, .no, .no, .no, .no, .no, .no] ∧ L = (p, src sa sb) :: (shC G F rf a S1 ++ [(l, OD.lst (log.map eLg))])) ?_ (fun K hK => ?_)
  rotate_left
  · conv => whnf
    refine ⟨a.q, 1, a.dx, _, rfl, rfl, rfl, ?_⟩
    conv => whnf
    exact ⟨_, _, pm_d, F, rf, a, S1, rfl, rfl, hs.ok, _, pm_d, hK _ _ ⟨rfl, rfl⟩⟩
  rintro env L ⟨rfl, rfl⟩
  refine seq_k (fun env L => ∃ (sa sb : Int) (S2 : Sh) (log2 : List Lg) (las2 : List La) (ts : List Te), env = [.scr ns, .own p, .dat (ePlan F rows), eProg F B, .dat (.list (S1.tes.map eTeL)), .no, .no, .no, .no, .own a.q, .own l, .no, .no, .no, .no, .no, .no, .no] ∧ L = (p, src sa sb) :: (shC G F rf a S2 ++ [(l, OD.lst (log2.map eLg))]) ∧ ShLog F S2 log2 ∧ S2.las = S1.las ++ las2 ∧ S2.tes = S1.tes ++ ts) ?_ (fun K hK => ?_)
  rotate_left
  · conv => whnf
    refine ⟨[(p, src sa sb)], _, .refl _, p, sa, sb, 4, rfl, rfl, by decide, by decide, fun r sa sb hr4 => ⟨_, .refl _, ?_⟩⟩
    conv => whnf
    refine ⟨_, [], pm_nil, p, sa, sb, F, rows, rf, a, S1, l, log, 1 + r, ?_, rfl, ok, hr, hrl, hs, by omega, fun sa sb S2 log2 las2 g1 g2 g3 g4 g5 => ⟨_, pm_nil, ?_⟩⟩
    · rw [Int.natCast_add]
      rfl
    obtain ⟨ts, g4⟩ := g4
    exact hK _ _ ⟨sa, sb, S2, log2, las2, ts, rfl, rfl, g1, g2, g4⟩
  rintro env L ⟨sa, sb, S2, log2, las2, ts, rfl, rfl, hs2, hlas, htes⟩
  have hN := rfS_ok ok hrf hs2.ok
  generalize hNe : rfS F rf S2 = N at hN
  refine seq_k (fun env L => env = [.scr ns, .own p, .dat (ePlan F rows), eProg F B, .dat (.list (S1.tes.map eTeL)), eProg F N, .no, .no, .no, .own a.q, .own l, .no, .no, .no, .no, .no, .no, .no] ∧ L = (p, src sa sb) :: (shC G F rf a S2 ++ [(l, OD.lst (log2.map eLg))])) ?_ (fun K hK => ?_)
  rotate_left
  · conv => whnf
    refine ⟨a.q, 1, a.dx, _, rfl, rfl, rfl, ?_⟩
    conv => whnf
    refine ⟨_, _, pm_d, F, rf, a, S2, rfl, rfl, ok, hrf, hs2.ok, _, pm_d, ?_⟩
    rw [hNe]
    exact hK _ _ ⟨rfl, rfl⟩
  rintro env L ⟨rfl, rfl⟩
  refine seq_k (fun env L => env = [.scr ns, .own p, .dat (ePlan F rows), eProg F B, .dat (.list (S1.tes.map eTeL)), eProg F N, .dat (.list ((chgF F B N).map eCel)), .no, .no, .own a.q, .own l, .no, .no, .no, .no, .no, .no, .no] ∧ L = (p, src sa sb) :: (shC G F rf a S2 ++ [(l, OD.lst (log2.map eLg))])) ?_ (fun K hK => ?_)
  rotate_left
  · conv => whnf
    exact ⟨[], _, .refl _, F, B, N, rfl, rfl, ok, hB, hN, _, .refl _, hK _ _ ⟨rfl, rfl⟩⟩
  rintro env L ⟨rfl, rfl⟩
  have hstl : ∀ k : Nat, k ∈ ((List.range S2.tes.length).filter fun n => stal N (S2.las.getD n none)) ↔ k < S2.tes.length ∧ stal N (S2.las.getD k none) = true := fun k => by rw [List.mem_filter, List.mem_range]
  refine seq_k (fun env L => ∃ stl : List Nat, env = [.scr ns, .own p, .dat (ePlan F rows), eProg F B, .dat (.list (S1.tes.map eTeL)), eProg F N, .dat (.list ((chgF F B N).map eCel)), .dat (.list (stl.map eN)), .no, .own a.q, .own l, .no, .no, .no, .no, .no, .no, .no] ∧ L = (p, src sa sb) :: (shC G F rf a S2 ++ [(l, OD.lst (log2.map eLg))]) ∧ ∀ k : Nat, k ∈ stl ↔ k < S2.tes.length ∧ stal N (S2.las.getD k none) = true) ?_ (fun K hK => ?_)
  rotate_left
  · conv => whnf
    refine ⟨a.q, 1, a.dx, _, rfl, rfl, rfl, ?_⟩
    conv => whnf
    refine ⟨_, _, pm_d, F, rf, a, S2, rfl, rfl, ok, hrf, hs2.ok, _, pm_d, ?_⟩
    rw [hNe]
    exact hK _ _ ⟨_, rfl, rfl, hstl⟩
  clear hstl
  rintro env L ⟨stl, rfl, rfl, hstl⟩
  generalize shC G F rf a S2 ++ [(l, OD.lst (log2.map eLg))] = X
  have key : ∀ (k : Nat) (t : Te), S1.tes[k]? = some t → (k ∈ stl ↔ ∃ c ∈ runT F B p0 t.1, N c ≠ B c) := fun k t hk => by
    obtain ⟨b, hb⟩ := hla k t hk
    have hkl : k < S1.las.length := (List.getElem?_eq_some_iff.mp hb).1
    have hkt : k < S1.tes.length := (List.getElem?_eq_some_iff.mp hk).1
    have e : S2.las.getD k none = laOf F B t b := by
      rw [List.getD_eq_getElem?_getD, hlas, List.getElem?_append_left hkl, hb]
      rfl
    rw [hstl, e, stal_iff]
    constructor
    · exact fun h => h.2
    · exact fun h => ⟨by rw [htes, List.length_append]; omega, h⟩
  have n4 := hs.ok.n4
  refine seq_for ?_
  refine for_l (List.range S1.tes.length) eN (fun _ => True) (fun i env L => ∃ (x8 x11 x12 x13 x14 x15 x16 x17 : En) (sa sb : Int), env = [.scr ns, .own p, .dat (ePlan F rows), eProg F B, .dat (.list (S1.tes.map eTeL)), eProg F N, .dat (.list ((chgF F B N).map eCel)), .dat (.list (stl.map eN)), x8, .own a.q, .own l, x11, x12, x13, x14, x15, x16, x17] ∧ L = (p, src sa sb) :: X) (fun P h => ?_) ⟨_, _, _, _, _, _, _, _, sa, sb, rfl, rfl⟩ ?_ ?_
  · refine ⟨_, rfl, by omega, by rw [List.length_map]; omega, ?_⟩
    rw [List.length_map]
    exact h
  · rintro i k env L hk ⟨x8, x11, x12, x13, x14, x15, x16, x17, sa, sb, rfl, rfl⟩
    obtain ⟨hi, rfl⟩ := rg_get hk
    have ew : S1.tes[k]? = some S1.tes[k] := by simp [hi]
    have hte := hs.ok.te _ (List.getElem_mem hi)
    have hky := key k _ ew
    generalize S1.tes[k] = t at ew hte hky
    obtain ⟨es, os⟩ := t
    obtain ⟨t1, t2, t3, t4, t5⟩ := hte
    simp only at t1 t2 t3 t4 t5 hky
    obtain ⟨r1, r2, r3⟩ := run_ok hB (p0_ok ok) t4
    refine ⟨trivial, _, rfl, ?_⟩
    refine seq_k (fun env L => env = [.scr ns, .own p, .dat (ePlan F rows), eProg F B, .dat (.list (S1.tes.map eTeL)), eProg F N, .dat (.list ((chgF F B N).map eCel)), .dat (.list (stl.map eN)), .dat (eN k), .own a.q, .own l, .dat (.list (es.map eEv)), x12, x13, x14, x15, x16, x17] ∧ L = (p, src sa sb) :: X) ?_ (fun K hK => ?_)
    rotate_left
    · conv => whnf
      refine ⟨_, atI_nat (get_map ew), ?_⟩
      conv => whnf
      exact ⟨.list (es.map eEv), rfl, hK _ _ ⟨rfl, rfl⟩⟩
    rintro env L ⟨rfl, rfl⟩
    refine seq_k (fun env L => env = [.scr ns, .own p, .dat (ePlan F rows), eProg F B, .dat (.list (S1.tes.map eTeL)), eProg F N, .dat (.list ((chgF F B N).map eCel)), .dat (.list (stl.map eN)), .dat (eN k), .own a.q, .own l, .dat (.list (es.map eEv)), .dat (.list ((runO F B p0 es).map eOut)), x13, x14, x15, x16, x17] ∧ L = (p, src sa sb) :: X) ?_ (fun K hK => ?_)
    rotate_left
    · conv => whnf
      refine ⟨[], _, .refl _, F, B, es, _, rfl, .inl rfl, rfl, ok, hB, t4, by omega, _, .refl _, ?_⟩
      conv => whnf
      exact ⟨.list ((runO F B p0 es).map eOut), rfl, hK _ _ ⟨rfl, rfl⟩⟩
    rintro env L ⟨rfl, rfl⟩
    refine seq_if ?_
    conv => whnf
    refine .inl ⟨(k : Int), stl.map fun (k : Nat) => (k : Int), rfl, .inl ?_, ?_⟩
    · rw [List.map_map]
      rfl
    have hin : (k : Int) ∈ (stl.map fun (k : Nat) => (k : Int)) ↔ k ∈ stl := by
      rw [List.mem_map]
      constructor
      · rintro ⟨n, h1, h2⟩
        have : n = k := by omega
        exact this ▸ h1
      · exact fun h => ⟨k, h, rfl⟩
    rw [Bool.false_xor]
    conv => whnf
    refine ⟨fun h => ?_, fun h => ?_⟩
    · rw [decide_eq_true_eq, hin, hky] at h
      obtain ⟨c0, hc0, hc1⟩ := h
      refine seq_k (fun env L => ∃ pr, env = [.scr ns, .own p, .dat (ePlan F rows), eProg F B, .dat (.list (S1.tes.map eTeL)), eProg F N, .dat (.list ((chgF F B N).map eCel)), .dat (.list (stl.map eN)), .dat (eN k), .own a.q, .own l, .dat (.list (es.map eEv)), .dat (.list ((runO F B p0 es).map eOut)), .own pr, x14, x15, x16, x17] ∧ L = (pr, OD.lst []) :: (p, src sa sb) :: X) ?_ (fun K hK => ⟨_, rfl, by decide, fun pr => hK _ _ ⟨pr, rfl, rfl⟩⟩)
      rintro env L ⟨pr, rfl, rfl⟩
      refine seq_k (fun env L => ∃ (rws : List (Cel × Rw)) (x14 x17 : En), env = [.scr ns, .own p, .dat (ePlan F rows), eProg F B, .dat (.list (S1.tes.map eTeL)), eProg F N, .dat (.list ((chgF F B N).map eCel)), .dat (.list (stl.map eN)), .dat (eN k), .own a.q, .own l, .dat (.list (es.map eEv)), .dat (.list ((runO F B p0 es).map eOut)), .own pr, x14, x15, x16, x17] ∧ L = (pr, OD.lst (rws.map ePair)) :: (p, src sa sb) :: X ∧ rws.map (·.1) = cellsF F ∧ ∀ q ∈ rws, CelOk F q.1 ∧ q.2 = madeR F B N q.1) ?_ (fun K hK => ?_)
      rotate_left
      · refine for_l (cellsF F) eCel (fun _ => True) (fun i env L => ∃ (rws : List (Cel × Rw)) (x14 x17 : En), env = [.scr ns, .own p, .dat (ePlan F rows), eProg F B, .dat (.list (S1.tes.map eTeL)), eProg F N, .dat (.list ((chgF F B N).map eCel)), .dat (.list (stl.map eN)), .dat (eN k), .own a.q, .own l, .dat (.list (es.map eEv)), .dat (.list ((runO F B p0 es).map eOut)), .own pr, x14, x15, x16, x17] ∧ L = (pr, OD.lst (rws.map ePair)) :: (p, src sa sb) :: X ∧ rws.map (·.1) = (cellsF F).take i ∧ ∀ q ∈ rws, CelOk F q.1 ∧ q.2 = madeR F B N q.1) (fun P h => ?_) ⟨[], _, _, rfl, rfl, rfl, fun q hq => absurd hq List.not_mem_nil⟩ ?_ ?_
        · conv => whnf
          exact ⟨[], _, .refl _, F, B, rfl, rfl, ok, _, .refl _, wk_l h⟩
        · rintro i c env L hx ⟨rws, x14, x17, rfl, rfl, g1, g2⟩
          have hc := mem_cells.mp (List.mem_of_getElem? hx)
          have hlr : rws.length < 100000 := by
            have := congrArg List.length g1
            rw [List.length_map, List.length_take] at this
            omega
          refine ⟨trivial, _, rfl, ?_⟩
          refine seq_k (fun env L => env = [.scr ns, .own p, .dat (ePlan F rows), eProg F B, .dat (.list (S1.tes.map eTeL)), eProg F N, .dat (.list ((chgF F B N).map eCel)), .dat (.list (stl.map eN)), .dat (eN k), .own a.q, .own l, .dat (.list (es.map eEv)), .dat (.list ((runO F B p0 es).map eOut)), .own pr, .dat (eCel c), x15, x16, .dat (eRw (B c))] ∧ L = (pr, OD.lst (rws.map ePair)) :: (p, src sa sb) :: X) ?_ (fun K hK => ?_)
          rotate_left
          · conv => whnf
            exact ⟨[], _, .refl _, F, B, c, rfl, rfl, ok, hc, _, .refl _, hK _ _ ⟨rfl, rfl⟩⟩
          rintro env L ⟨rfl, rfl⟩
          refine seq_k (fun env L => env = [.scr ns, .own p, .dat (ePlan F rows), eProg F B, .dat (.list (S1.tes.map eTeL)), eProg F N, .dat (.list ((chgF F B N).map eCel)), .dat (.list (stl.map eN)), .dat (eN k), .own a.q, .own l, .dat (.list (es.map eEv)), .dat (.list ((runO F B p0 es).map eOut)), .own pr, .dat (eCel c), x15, x16, .dat (eRw (madeR F B N c))] ∧ L = (pr, OD.lst (rws.map ePair)) :: (p, src sa sb) :: X) ?_ (fun K hK => ?_)
          rotate_left
          · conv => whnf
            refine .inr (.inr ⟨eCel c, (chgF F B N).map eCel, rfl, rfl, sh_cel, sh_cels, ?_⟩)
            rw [Bool.false_xor, in_cel]
            conv => whnf
            refine ⟨fun h => ?_, fun h => ?_⟩
            · rw [decide_eq_true_eq] at h
              conv => whnf
              refine ⟨[], _, .refl _, F, rows, B c, rfl, rfl, ok, (hB c hc).few, _, .refl _, hK _ _ ⟨?_, rfl⟩⟩
              unfold madeR
              rw [if_pos h]
              rfl
            · rw [decide_eq_false_iff_not] at h
              refine hK _ _ ⟨?_, rfl⟩
              unfold madeR
              rw [if_neg h]
          rintro env L ⟨rfl, rfl⟩
          conv => whnf
          refine ⟨pr, 0, _, rfl, rfl, ?_⟩
          conv => whnf
          refine ⟨_, rfl, by show 2 ≤ 100000; decide, 0, _, _, rfl, rfl, by rw [List.length_map]; exact hlr, ?_⟩
          refine ⟨rws ++ [(c, madeR F B N c)], _, _, rfl, ?_, ?_, fun q hq => ?_⟩
          · rw [List.map_append]
            rfl
          · rw [List.map_append, g1, List.take_succ, hx]
            rfl
          · rcases List.mem_append.mp hq with hq | hq
            · exact g2 q hq
            · rw [List.mem_singleton] at hq
              subst hq
              exact ⟨hc, rfl⟩
        · rintro env L ⟨rws, x14, x17, rfl, rfl, g1, g2⟩
          rw [List.take_length] at g1
          exact ⟨trivial, hK _ _ ⟨rws, _, _, rfl, rfl, g1, g2⟩⟩
      rintro env L ⟨rws, x14, x17, rfl, rfl, g1, g2⟩
      have hM : ∀ c, CelOk F c → rfOf F rws c = madeR F B N c := fun c hc => (g2 _ (rfOf_get g1 hc)).2
      have hlr : rws.length ≤ 3000 := by
        have := congrArg List.length g1
        rw [List.length_map] at this
        omega
      have hrw : RowsOk F rws := ⟨hlr, fun q hq => ⟨(g2 q hq).1, by rw [(g2 q hq).2]; exact made_ok ok hB (g2 q hq).1⟩⟩
      refine seq_k (fun env L => env = [.scr ns, .own p, .dat (ePlan F rows), eProg F B, .dat (.list (S1.tes.map eTeL)), eProg F N, .dat (.list ((chgF F B N).map eCel)), .dat (.list (stl.map eN)), .dat (eN k), .own a.q, .own l, .dat (.list (es.map eEv)), .dat (.list ((runO F B p0 es).map eOut)), .own pr, x14, eProg F (rfOf F rws), x16, x17] ∧ L = (p, src sa sb) :: X) ?_ (fun K hK => ?_)
      rotate_left
      · conv => whnf
        refine ⟨_, rfl, ?_⟩
        conv => whnf
        refine ⟨_, rfl, ?_⟩
        conv => whnf
        refine ⟨_, rfl, ?_⟩
        conv => whnf
        refine ⟨pr, 0, _, rfl, rfl, ?_⟩
        conv => whnf
        intro q dx
        exact ⟨F, rws, q, dx, rfl, rfl, ok, hrw, rfl, dx, _, _, _, _, rfl, hK _ _ ⟨rfl, rfl⟩⟩
      rintro env L ⟨rfl, rfl⟩
      have hMo : RfOk F (rfOf F rws) := rfOf_ok ok hrw.2
      obtain ⟨_, m2, _⟩ := run_ok hMo (p0_ok ok) t4
      have hne := made_ne ok hB hM t4 hc0 hc1
      refine seq_if ?_
      conv => whnf
      refine ⟨[], _, .refl _, F, B, rfOf F rws, rfl, rfl, ok, hB, hMo, _, .refl _, ?_⟩
      rw [made_chg hM]
      conv => whnf
      refine ⟨sh_cels, sh_cels, ?_⟩
      conv => whnf
      refine ⟨fun h => ?_, fun _ => ?_⟩
      · rw [eqv_cels.mpr rfl] at h
        exact nf h
      conv => whnf
      refine ⟨[], _, .refl _, F, rfOf F rws, es, _, rfl, .inl rfl, rfl, ok, hMo, t4, by omega, _, .refl _, ?_⟩
      conv => whnf
      refine ⟨.list ((runO F (rfOf F rws) p0 es).map eOut), rfl, ?_⟩
      conv => whnf
      refine ⟨sh_outs ok m2, sh_outs ok r2, ?_⟩
      conv => whnf
      refine ⟨fun h => absurd (eqv_outs.mp h) hne, fun _ => ?_⟩
      exact ⟨_, _, _, _, _, _, _, _, sa, sb, rfl, rfl⟩
    · rw [decide_eq_false_iff_not, hin, hky] at h
      have hsame : ∀ c ∈ runT F B p0 es, N c = B c := fun c hc => Classical.byContradiction fun hn => h ⟨c, hc, hn⟩
      refine seq_k (fun env L => env = [.scr ns, .own p, .dat (ePlan F rows), eProg F B, .dat (.list (S1.tes.map eTeL)), eProg F N, .dat (.list ((chgF F B N).map eCel)), .dat (.list (stl.map eN)), .dat (eN k), .own a.q, .own l, .dat (.list (es.map eEv)), .dat (.list ((runO F B p0 es).map eOut)), x13, x14, x15, .dat (.list ((runT F B p0 es).map eCel)), x17] ∧ L = (p, src sa sb) :: X) ?_ (fun K hK => ?_)
      rotate_left
      · conv => whnf
        refine ⟨[], _, .refl _, F, B, es, _, rfl, .inl rfl, rfl, ok, hB, t4, by omega, _, .refl _, ?_⟩
        conv => whnf
        exact ⟨.list ((runT F B p0 es).map eCel), rfl, hK _ _ ⟨rfl, rfl⟩⟩
      rintro env L ⟨rfl, rfl⟩
      refine seq_k (fun env L => ∃ pr, env = [.scr ns, .own p, .dat (ePlan F rows), eProg F B, .dat (.list (S1.tes.map eTeL)), eProg F N, .dat (.list ((chgF F B N).map eCel)), .dat (.list (stl.map eN)), .dat (eN k), .own a.q, .own l, .dat (.list (es.map eEv)), .dat (.list ((runO F B p0 es).map eOut)), .own pr, x14, x15, .dat (.list ((runT F B p0 es).map eCel)), x17] ∧ L = (pr, OD.lst []) :: (p, src sa sb) :: X) ?_ (fun K hK => ⟨_, rfl, by decide, fun pr => hK _ _ ⟨pr, rfl, rfl⟩⟩)
      rintro env L ⟨pr, rfl, rfl⟩
      refine seq_k (fun env L => ∃ (rws : List (Cel × Rw)) (x14 x17 : En) (sa sb : Int), env = [.scr ns, .own p, .dat (ePlan F rows), eProg F B, .dat (.list (S1.tes.map eTeL)), eProg F N, .dat (.list ((chgF F B N).map eCel)), .dat (.list (stl.map eN)), .dat (eN k), .own a.q, .own l, .dat (.list (es.map eEv)), .dat (.list ((runO F B p0 es).map eOut)), .own pr, x14, x15, .dat (.list ((runT F B p0 es).map eCel)), x17] ∧ L = (pr, OD.lst (rws.map ePair)) :: (p, src sa sb) :: X ∧ rws.map (·.1) = cellsF F ∧ ∀ q ∈ rws, CelOk F q.1 ∧ RwOk F q.1 q.2 ∧ (q.1 ∈ runT F B p0 es → q.2 = N q.1)) ?_ (fun K hK => ?_)
      rotate_left
      · refine for_l (cellsF F) eCel (fun _ => True) (fun i env L => ∃ (rws : List (Cel × Rw)) (x14 x17 : En) (sa sb : Int), env = [.scr ns, .own p, .dat (ePlan F rows), eProg F B, .dat (.list (S1.tes.map eTeL)), eProg F N, .dat (.list ((chgF F B N).map eCel)), .dat (.list (stl.map eN)), .dat (eN k), .own a.q, .own l, .dat (.list (es.map eEv)), .dat (.list ((runO F B p0 es).map eOut)), .own pr, x14, x15, .dat (.list ((runT F B p0 es).map eCel)), x17] ∧ L = (pr, OD.lst (rws.map ePair)) :: (p, src sa sb) :: X ∧ rws.map (·.1) = (cellsF F).take i ∧ ∀ q ∈ rws, CelOk F q.1 ∧ RwOk F q.1 q.2 ∧ (q.1 ∈ runT F B p0 es → q.2 = N q.1)) (fun P h => ?_) ⟨[], _, _, sa, sb, rfl, rfl, rfl, fun q hq => absurd hq List.not_mem_nil⟩ ?_ ?_
        · conv => whnf
          exact ⟨[], _, .refl _, F, B, rfl, rfl, ok, _, .refl _, wk_l h⟩
        · rintro i c env L hx ⟨rws, x14, x17, sa, sb, rfl, rfl, g1, g2⟩
          have hc := mem_cells.mp (List.mem_of_getElem? hx)
          have hlr : rws.length < 100000 := by
            have := congrArg List.length g1
            rw [List.length_map, List.length_take] at this
            omega
          refine ⟨trivial, _, rfl, ?_⟩
          refine seq_k (fun env L => env = [.scr ns, .own p, .dat (ePlan F rows), eProg F B, .dat (.list (S1.tes.map eTeL)), eProg F N, .dat (.list ((chgF F B N).map eCel)), .dat (.list (stl.map eN)), .dat (eN k), .own a.q, .own l, .dat (.list (es.map eEv)), .dat (.list ((runO F B p0 es).map eOut)), .own pr, .dat (eCel c), x15, .dat (.list ((runT F B p0 es).map eCel)), .dat (eRw (N c))] ∧ L = (pr, OD.lst (rws.map ePair)) :: (p, src sa sb) :: X) ?_ (fun K hK => ?_)
          rotate_left
          · conv => whnf
            exact ⟨[], _, .refl _, F, N, c, rfl, rfl, ok, hc, _, .refl _, hK _ _ ⟨rfl, rfl⟩⟩
          rintro env L ⟨rfl, rfl⟩
          refine seq_k (fun env L => ∃ (w : Rw) (sa sb : Int), env = [.scr ns, .own p, .dat (ePlan F rows), eProg F B, .dat (.list (S1.tes.map eTeL)), eProg F N, .dat (.list ((chgF F B N).map eCel)), .dat (.list (stl.map eN)), .dat (eN k), .own a.q, .own l, .dat (.list (es.map eEv)), .dat (.list ((runO F B p0 es).map eOut)), .own pr, .dat (eCel c), x15, .dat (.list ((runT F B p0 es).map eCel)), .dat (eRw w)] ∧ L = (pr, OD.lst (rws.map ePair)) :: (p, src sa sb) :: X ∧ RwOk F c w ∧ (c ∈ runT F B p0 es → w = N c)) ?_ (fun K hK => ?_)
          rotate_left
          · conv => whnf
            refine .inr (.inr ⟨eCel c, (runT F B p0 es).map eCel, rfl, rfl, sh_cel, sh_cels, ?_⟩)
            rw [Bool.true_xor, in_cel]
            conv => whnf
            refine ⟨fun h => ?_, fun h => ?_⟩
            · have h : c ∉ runT F B p0 es := by simpa using h
              conv => whnf
              exact ⟨[(p, src sa sb)], _, pm_s, p, sa, sb, F, rows, c, rfl, rfl, ok, hc, fun w sa sb hw => ⟨_, pm_s, hK _ _ ⟨w, sa, sb, rfl, rfl, hw, fun hz => absurd hz h⟩⟩⟩
            · exact hK _ _ ⟨N c, sa, sb, rfl, rfl, hN c hc, fun _ => rfl⟩
          rintro env L ⟨w, sa, sb, rfl, rfl, w1, w2⟩
          conv => whnf
          refine ⟨pr, 0, _, rfl, rfl, ?_⟩
          conv => whnf
          refine ⟨_, rfl, by show 2 ≤ 100000; decide, 0, _, _, rfl, rfl, by rw [List.length_map]; exact hlr, ?_⟩
          refine ⟨rws ++ [(c, w)], _, _, sa, sb, rfl, ?_, ?_, fun q hq => ?_⟩
          · rw [List.map_append]
            rfl
          · rw [List.map_append, g1, List.take_succ, hx]
            rfl
          · rcases List.mem_append.mp hq with hq | hq
            · exact g2 q hq
            · rw [List.mem_singleton] at hq
              subst hq
              exact ⟨hc, w1, w2⟩
        · rintro env L ⟨rws, x14, x17, sa, sb, rfl, rfl, g1, g2⟩
          rw [List.take_length] at g1
          exact ⟨trivial, hK _ _ ⟨rws, _, _, sa, sb, rfl, rfl, g1, g2⟩⟩
      rintro env L ⟨rws, x14, x17, sa, sb, rfl, rfl, g1, g2⟩
      have hlr : rws.length ≤ 3000 := by
        have := congrArg List.length g1
        rw [List.length_map] at this
        omega
      have hrw : RowsOk F rws := ⟨hlr, fun q hq => ⟨(g2 q hq).1, (g2 q hq).2.1⟩⟩
      have hMo : RfOk F (rfOf F rws) := rfOf_ok ok hrw.2
      have hs1 : runO F (rfOf F rws) p0 es = runO F B p0 es := run_same fun c hc => by
        rw [← hsame c hc]
        exact (g2 _ (rfOf_get g1 (r3 c hc))).2.2 hc
      have hs2 : runO F N p0 es = runO F B p0 es := run_same hsame
      refine seq_if ?_
      conv => whnf
      refine ⟨_, rfl, ?_⟩
      conv => whnf
      refine ⟨_, rfl, ?_⟩
      conv => whnf
      refine ⟨_, rfl, ?_⟩
      conv => whnf
      refine ⟨pr, 0, _, rfl, rfl, ?_⟩
      conv => whnf
      intro q dx
      refine ⟨F, rws, q, dx, rfl, rfl, ok, hrw, rfl, dx, _, _, _, _, rfl, ?_⟩
      conv => whnf
      refine ⟨[], _, .refl _, F, rfOf F rws, es, _, rfl, .inl rfl, rfl, ok, hMo, t4, by omega, _, .refl _, ?_⟩
      rw [hs1]
      conv => whnf
      refine ⟨.list ((runO F B p0 es).map eOut), rfl, ?_⟩
      conv => whnf
      refine ⟨sh_outs ok r2, sh_outs ok r2, ?_⟩
      conv => whnf
      refine ⟨fun h => ?_, fun _ => ?_⟩
      · rw [eqv_outs.mpr rfl] at h
        exact nf h
      conv => whnf
      refine ⟨[], _, .refl _, F, N, es, _, rfl, .inl rfl, rfl, ok, hN, t4, by omega, _, .refl _, ?_⟩
      rw [hs2]
      conv => whnf
      refine ⟨.list ((runO F B p0 es).map eOut), rfl, ?_⟩
      conv => whnf
      refine ⟨sh_outs ok r2, sh_outs ok r2, ?_⟩
      conv => whnf
      refine ⟨fun h => ?_, fun _ => ?_⟩
      · rw [eqv_outs.mpr rfl] at h
        exact nf h
      exact ⟨_, _, _, _, _, _, _, _, sa, sb, rfl, rfl⟩
  · rintro env L ⟨x8, x11, x12, x13, x14, x15, x16, x17, sa, sb, rfl, rfl⟩
    exact ⟨trivial, hp _⟩
end Mn
namespace Mn
open PySem PySem.Spec PyProof.Rows L2
/-! ### one datum a def -/
def d_cells_of : He.DefD := ⟨("cells_of", none), "cells_of", "cells_of", defArgs s_cells_of, defBody s_cells_of, defScope s_cells_of, [], []⟩
def d_idle : He.DefD := ⟨("idle", none), "idle", "idle", defArgs s_idle, defBody s_idle, defScope s_idle, [], []⟩
def d_Program__init : He.DefD := ⟨("Program", some "__init__"), "__init__", "Program.__init__", defArgs s_Program__init, defBody s_Program__init, defScope s_Program__init, [], []⟩
def d_cells : He.DefD := ⟨("cells", none), "cells", "cells", defArgs s_cells, defBody s_cells, defScope s_cells, [], []⟩
def d_row_at : He.DefD := ⟨("row_at", none), "row_at", "row_at", defArgs s_row_at, defBody s_row_at, defScope s_row_at, [], []⟩
def d_frozen : He.DefD := ⟨("frozen", none), "frozen", "frozen", defArgs s_frozen, defBody s_frozen, defScope s_frozen, [], []⟩
def d_with_rows : He.DefD := ⟨("with_rows", none), "with_rows", "with_rows", defArgs s_with_rows, defBody s_with_rows, defScope s_with_rows, [], []⟩
def d_position_of : He.DefD := ⟨("position_of", none), "position_of", "position_of", defArgs s_position_of, defBody s_position_of, defScope s_position_of, [], []⟩
def d_candidates : He.DefD := ⟨("candidates", none), "candidates", "candidates", defArgs s_candidates, defBody s_candidates, defScope s_candidates, [], []⟩
def d_step : He.DefD := ⟨("step", none), "step", "step", defArgs s_step, defBody s_step, defScope s_step, [], []⟩
def d_run : He.DefD := ⟨("run", none), "run", "run", defArgs s_run, defBody s_run, defScope s_run, [], []⟩
def d_is_index : He.DefD := ⟨("is_index", none), "is_index", "is_index", defArgs s_is_index, defBody s_is_index, defScope s_is_index, [], []⟩
def d_is_cell : He.DefD := ⟨("is_cell", none), "is_cell", "is_cell", defArgs s_is_cell, defBody s_is_cell, defScope s_is_cell, [], []⟩
def d_is_write : He.DefD := ⟨("is_write", none), "is_write", "is_write", defArgs s_is_write, defBody s_is_write, defScope s_is_write, [], []⟩
def d_are_holds : He.DefD := ⟨("are_holds", none), "are_holds", "are_holds", defArgs s_are_holds, defBody s_are_holds, defScope s_are_holds, [], []⟩
def d_is_row : He.DefD := ⟨("is_row", none), "is_row", "is_row", defArgs s_is_row, defBody s_is_row, defScope s_is_row, [], []⟩
def d_is_integer : He.DefD := ⟨("is_integer", none), "is_integer", "is_integer", defArgs s_is_integer, defBody s_is_integer, defScope s_is_integer, [], []⟩
def d_is_event : He.DefD := ⟨("is_event", none), "is_event", "is_event", defArgs s_is_event, defBody s_is_event, defScope s_is_event, [], []⟩
def d_is_triple : He.DefD := ⟨("is_triple", none), "is_triple", "is_triple", defArgs s_is_triple, defBody s_is_triple, defScope s_is_triple, [], []⟩
def d_is_output : He.DefD := ⟨("is_output", none), "is_output", "is_output", defArgs s_is_output, defBody s_is_output, defScope s_is_output, [], []⟩
def d_Workshop__init : He.DefD := ⟨("Workshop", some "__init__"), "__init__", "Workshop.__init__", defArgs s_Workshop__init, defBody s_Workshop__init, defScope s_Workshop__init, [], []⟩
def d_Workshop_tests : He.DefD := ⟨("Workshop", some "tests"), "tests", "Workshop.tests", defArgs s_Workshop_tests, defBody s_Workshop_tests, defScope s_Workshop_tests, [], []⟩
def d_Workshop_take : He.DefD := ⟨("Workshop", some "_take"), "_take", "Workshop._take", defArgs s_Workshop_take, defBody s_Workshop_take, defScope s_Workshop_take, [], []⟩
def d_Workshop_edit : He.DefD := ⟨("Workshop", some "edit"), "edit", "Workshop.edit", defArgs s_Workshop_edit, defBody s_Workshop_edit, defScope s_Workshop_edit, [], []⟩
def d_Workshop_turn : He.DefD := ⟨("Workshop", some "_turn"), "_turn", "Workshop._turn", defArgs s_Workshop_turn, defBody s_Workshop_turn, defScope s_Workshop_turn, [], []⟩
def d_Workshop_undo : He.DefD := ⟨("Workshop", some "undo"), "undo", "Workshop.undo", defArgs s_Workshop_undo, defBody s_Workshop_undo, defScope s_Workshop_undo, [], []⟩
def d_Workshop_redo : He.DefD := ⟨("Workshop", some "redo"), "redo", "Workshop.redo", defArgs s_Workshop_redo, defBody s_Workshop_redo, defScope s_Workshop_redo, [], []⟩
def d_Workshop_test : He.DefD := ⟨("Workshop", some "test"), "test", "Workshop.test", defArgs s_Workshop_test, defBody s_Workshop_test, defScope s_Workshop_test, [], []⟩
def d_Workshop_program_with : He.DefD := ⟨("Workshop", some "program_with"), "program_with", "Workshop.program_with", defArgs s_Workshop_program_with, defBody s_Workshop_program_with, defScope s_Workshop_program_with, [], []⟩
def d_Workshop_program : He.DefD := ⟨("Workshop", some "program"), "program", "Workshop.program", defArgs s_Workshop_program, defBody s_Workshop_program, defScope s_Workshop_program, [], []⟩
def d_Workshop_is_stale : He.DefD := ⟨("Workshop", some "_is_stale"), "_is_stale", "Workshop._is_stale", defArgs s_Workshop_is_stale, defBody s_Workshop_is_stale, defScope s_Workshop_is_stale, [], []⟩
def d_Workshop_stale : He.DefD := ⟨("Workshop", some "stale"), "stale", "Workshop.stale", defArgs s_Workshop_stale, defBody s_Workshop_stale, defScope s_Workshop_stale, [], []⟩
def d_Workshop_verdicts : He.DefD := ⟨("Workshop", some "verdicts"), "verdicts", "Workshop.verdicts", defArgs s_Workshop_verdicts, defBody s_Workshop_verdicts, defScope s_Workshop_verdicts, [], []⟩
def d_l_cell : He.DefD := ⟨("_law_cell", none), "_law_cell", "_law_cell", defArgs s_l_cell, defBody s_l_cell, defScope s_l_cell, [], []⟩
def d_l_source : He.DefD := ⟨("_law_source", none), "_law_source", "_law_source", defArgs s_l_source, defBody s_l_source, defScope s_l_source, [], []⟩
def d_l_pick : He.DefD := ⟨("_law_pick", none), "_law_pick", "_law_pick", defArgs s_l_pick, defBody s_l_pick, defScope s_l_pick, [], []⟩
def d_l_worded : He.DefD := ⟨("_law_worded", none), "_law_worded", "_law_worded", defArgs s_l_worded, defBody s_l_worded, defScope s_l_worded, [], []⟩
def d_l_cells : He.DefD := ⟨("_law_cells", none), "_law_cells", "_law_cells", defArgs s_l_cells, defBody s_l_cells, defScope s_l_cells, [], []⟩
def d_l_known : He.DefD := ⟨("_law_known", none), "_law_known", "_law_known", defArgs s_l_known, defBody s_l_known, defScope s_l_known, [], []⟩
def d_l_some : He.DefD := ⟨("_law_some", none), "_law_some", "_law_some", defArgs s_l_some, defBody s_l_some, defScope s_l_some, [], []⟩
def d_l_writes : He.DefD := ⟨("_law_writes", none), "_law_writes", "_law_writes", defArgs s_l_writes, defBody s_l_writes, defScope s_l_writes, [], []⟩
def d_l_drawn_row : He.DefD := ⟨("_law_drawn_row", none), "_law_drawn_row", "_law_drawn_row", defArgs s_l_drawn_row, defBody s_l_drawn_row, defScope s_l_drawn_row, [], []⟩
def d_l_named : He.DefD := ⟨("_law_named", none), "_law_named", "_law_named", defArgs s_l_named, defBody s_l_named, defScope s_l_named, [], []⟩
def d_l_plan : He.DefD := ⟨("_law_plan", none), "_law_plan", "_law_plan", defArgs s_l_plan, defBody s_l_plan, defScope s_l_plan, [], []⟩
def d_l_program : He.DefD := ⟨("_law_program", none), "_law_program", "_law_program", defArgs s_l_program, defBody s_l_program, defScope s_l_program, [], []⟩
def d_l_idle : He.DefD := ⟨("_law_idle", none), "_law_idle", "_law_idle", defArgs s_l_idle, defBody s_l_idle, defScope s_l_idle, [], []⟩
def d_l_table : He.DefD := ⟨("_law_table", none), "_law_table", "_law_table", defArgs s_l_table, defBody s_l_table, defScope s_l_table, [], []⟩
def d_l_index : He.DefD := ⟨("_law_index", none), "_law_index", "_law_index", defArgs s_l_index, defBody s_l_index, defScope s_l_index, [], []⟩
def d_l_position : He.DefD := ⟨("_law_position", none), "_law_position", "_law_position", defArgs s_l_position, defBody s_l_position, defScope s_l_position, [], []⟩
def d_l_step : He.DefD := ⟨("_law_step", none), "_law_step", "_law_step", defArgs s_l_step, defBody s_l_step, defScope s_l_step, [], []⟩
def d_l_run : He.DefD := ⟨("_law_run", none), "_law_run", "_law_run", defArgs s_l_run, defBody s_l_run, defScope s_l_run, [], []⟩
def d_l_input : He.DefD := ⟨("_law_input", none), "_law_input", "_law_input", defArgs s_l_input, defBody s_l_input, defScope s_l_input, [], []⟩
def d_l_shop : He.DefD := ⟨("_law_shop", none), "_law_shop", "_law_shop", defArgs s_l_shop, defBody s_l_shop, defScope s_l_shop, [], []⟩
def d_l_model : He.DefD := ⟨("_law_model", none), "_law_model", "_law_model", defArgs s_l_model, defBody s_l_model, defScope s_l_model, [], []⟩
def d_l_with : He.DefD := ⟨("_law_with", none), "_law_with", "_law_with", defArgs s_l_with, defBody s_l_with, defScope s_l_with, [], []⟩
def d_l_now : He.DefD := ⟨("_law_now", none), "_law_now", "_law_now", defArgs s_l_now, defBody s_l_now, defScope s_l_now, [], []⟩
def d_l_event : He.DefD := ⟨("_law_event", none), "_law_event", "_law_event", defArgs s_l_event, defBody s_l_event, defScope s_l_event, [], []⟩
def d_l_take : He.DefD := ⟨("_law_take", none), "_law_take", "_law_take", defArgs s_l_take, defBody s_l_take, defScope s_l_take, [], []⟩
def d_l_busy : He.DefD := ⟨("_law_busy", none), "_law_busy", "_law_busy", defArgs s_l_busy, defBody s_l_busy, defScope s_l_busy, [], []⟩
def d_l_other_row : He.DefD := ⟨("_law_other_row", none), "_law_other_row", "_law_other_row", defArgs s_l_other_row, defBody s_l_other_row, defScope s_l_other_row, [], []⟩
def d_l_changed : He.DefD := ⟨("_law_changed", none), "_law_changed", "_law_changed", defArgs s_l_changed, defBody s_l_changed, defScope s_l_changed, [], []⟩
def d_law : He.DefD := ⟨("law", none), "law", "law", defArgs s_law, defBody s_law, defScope s_law, [], []⟩
def fn : List He.DefD := [d_cells_of, d_idle, d_Program__init, d_cells, d_row_at, d_frozen, d_with_rows, d_position_of, d_candidates, d_step, d_run, d_is_index, d_is_cell, d_is_write, d_are_holds, d_is_row, d_is_integer, d_is_event, d_is_triple, d_is_output, d_Workshop__init, d_Workshop_tests, d_Workshop_take, d_Workshop_edit, d_Workshop_turn, d_Workshop_undo, d_Workshop_redo, d_Workshop_test] ++ [d_Workshop_program_with, d_Workshop_program, d_Workshop_is_stale, d_Workshop_stale, d_Workshop_verdicts, d_l_cell, d_l_source, d_l_pick, d_l_worded, d_l_cells, d_l_known, d_l_some, d_l_writes, d_l_drawn_row, d_l_named, d_l_plan, d_l_program, d_l_idle, d_l_table, d_l_index, d_l_position, d_l_step, d_l_run, d_l_input, d_l_shop, d_l_model, d_l_with, d_l_now, d_l_event, d_l_take, d_l_busy, d_l_other_row, d_l_changed, d_law]
def fa0 : List He.Fa := [.glo "cells_of", .glo "idle", .glo "cells", .glo "row_at", .glo "frozen", .glo "with_rows", .glo "position_of", .glo "candidates", .glo "step", .glo "run", .glo "is_index", .glo "is_cell", .glo "is_write", .glo "are_holds", .glo "is_row", .glo "is_integer", .glo "is_event", .glo "is_triple", .glo "is_output", .glo "_law_cell", .glo "_law_source", .glo "_law_pick", .glo "_law_worded", .glo "_law_cells", .glo "_law_known", .glo "_law_some", .glo "_law_writes", .glo "_law_drawn_row", .glo "_law_named", .glo "_law_plan"]
def fa1 : List He.Fa := [.glo "_law_source", .glo "_law_pick", .glo "_law_worded", .glo "_law_cells", .glo "_law_known", .glo "_law_some", .glo "_law_writes", .glo "_law_drawn_row", .glo "_law_named", .glo "_law_plan", .glo "_law_program", .glo "_law_idle", .glo "_law_table", .glo "_law_index", .glo "_law_position", .glo "_law_step", .glo "_law_run", .glo "_law_input", .glo "_law_shop", .glo "_law_model", .glo "_law_with", .glo "_law_now", .glo "_law_event", .glo "_law_take", .glo "_law_busy", .glo "_law_other_row", .glo "_law_changed", .glo "law", .glo "Program", .glo "Workshop"]
def fa2 : List He.Fa := [.glo "_law_with", .glo "_law_now", .glo "_law_event", .glo "_law_take", .glo "_law_busy", .glo "_law_other_row", .glo "_law_changed", .glo "law", .glo "Program", .glo "Workshop", .free "len", .free "range", .free "enumerate", .free "isinstance", .free "tuple", .free "list", .free "int", .free "bool", .free "zip", .free "sorted", .free "abs", .free "all", .free "any", .int "MOST_EVENTS" 100, .int "BEYOND" (10 ^ 30), .cls "Program", .mkr "Program", .noat "Program" "names", .noat "Program" "ports", .noat "Program" "modes"]
def fa3 : List He.Fa := [.free "abs", .free "all", .free "any", .int "MOST_EVENTS" 100, .int "BEYOND" (10 ^ 30), .cls "Program", .mkr "Program", .noat "Program" "names", .noat "Program" "ports", .noat "Program" "modes", .noat "Program" "table", .cls "Workshop", .mkr "Workshop", .noat "Workshop" "_base", .noat "Workshop" "_events", .noat "Workshop" "_edits", .noat "Workshop" "_in_force", .noat "Workshop" "_tests", .noat "Workshop" "_last", .noat "Workshop" "_runs", .meth "Workshop" "tests", .meth "Workshop" "_take", .meth "Workshop" "edit", .meth "Workshop" "_turn", .meth "Workshop" "undo", .meth "Workshop" "redo", .meth "Workshop" "test", .meth "Workshop" "program_with"]
def fa4 : List He.Fa := [.meth "Workshop" "tests", .meth "Workshop" "_take", .meth "Workshop" "edit", .meth "Workshop" "_turn", .meth "Workshop" "undo", .meth "Workshop" "redo", .meth "Workshop" "test", .meth "Workshop" "program_with", .meth "Workshop" "program", .meth "Workshop" "_is_stale", .meth "Workshop" "stale", .meth "Workshop" "verdicts"]
def fa : List He.Fa := fa0 ++ fa1 ++ fa2 ++ fa3 ++ fa4
def tf : List He.Defn := [("are_holds", none), ("is_row", none), ("is_triple", none), ("is_output", none), ("Workshop", some "test"), ("Workshop", some "_is_stale")]
def loose0 : List PySem.Str := [Str.ofString "_wall", Str.ofString "MissError", Str.ofString "BadEdit", Str.ofString "BadTest", Str.ofString "WorkshopFull", Str.ofString "Numbered", Str.ofString "UnknownEdit", Str.ofString "cells_of", Str.ofString "idle", Str.ofString "Program", Str.ofString "cells", Str.ofString "row_at", Str.ofString "frozen", Str.ofString "with_rows", Str.ofString "position_of", Str.ofString "candidates", Str.ofString "step", Str.ofString "run", Str.ofString "is_index", Str.ofString "is_cell", Str.ofString "is_write", Str.ofString "are_holds", Str.ofString "is_row", Str.ofString "MOST_EVENTS", Str.ofString "BEYOND", Str.ofString "is_integer", Str.ofString "is_event", Str.ofString "is_triple", Str.ofString "is_output", Str.ofString "Workshop", Str.ofString "_law_cell", Str.ofString "_law_source", Str.ofString "_law_pick", Str.ofString "_law_worded", Str.ofString "_law_cells", Str.ofString "_law_known"]
def loose1 : List PySem.Str := [Str.ofString "is_write", Str.ofString "are_holds", Str.ofString "is_row", Str.ofString "MOST_EVENTS", Str.ofString "BEYOND", Str.ofString "is_integer", Str.ofString "is_event", Str.ofString "is_triple", Str.ofString "is_output", Str.ofString "Workshop", Str.ofString "_law_cell", Str.ofString "_law_source", Str.ofString "_law_pick", Str.ofString "_law_worded", Str.ofString "_law_cells", Str.ofString "_law_known", Str.ofString "_law_some", Str.ofString "_law_writes", Str.ofString "_law_drawn_row", Str.ofString "_law_named", Str.ofString "_law_plan", Str.ofString "_law_program", Str.ofString "_law_idle", Str.ofString "_law_table", Str.ofString "_law_index", Str.ofString "_law_position", Str.ofString "_law_step", Str.ofString "_law_run", Str.ofString "_law_input", Str.ofString "_law_shop", Str.ofString "_law_model", Str.ofString "_law_with", Str.ofString "_law_now", Str.ofString "_law_event", Str.ofString "_law_take", Str.ofString "_law_busy"]
def loose2 : List PySem.Str := [Str.ofString "_law_plan", Str.ofString "_law_program", Str.ofString "_law_idle", Str.ofString "_law_table", Str.ofString "_law_index", Str.ofString "_law_position", Str.ofString "_law_step", Str.ofString "_law_run", Str.ofString "_law_input", Str.ofString "_law_shop", Str.ofString "_law_model", Str.ofString "_law_with", Str.ofString "_law_now", Str.ofString "_law_event", Str.ofString "_law_take", Str.ofString "_law_busy", Str.ofString "_law_other_row", Str.ofString "_law_changed"]
def loose : List PySem.Str := loose0 ++ loose1 ++ loose2
/-! ### the property's getter -/
def pAd (K : PySem.W.Frag) : Addr := He.ma K (He.ga K "Workshop") "in_force"
def gAd (K : PySem.W.Frag) : Addr := match PySem.W.recIn K (pAd K) "property" with
  | some (.ref g :: _) => g
  | _ => 0
def okG (K : PySem.W.Frag) : Bool := decide (PySem.W.findIn K (.ref (He.ga K "Workshop")) "in_force" = some (some (.ref (pAd K)))) && (decide (PySem.W.specialIn K (.ref (pAd K)) "__get__" = some (some (.builtin "property.__get__"))) &&
  (decide (PySem.W.takesIn K (.ref (pAd K)) = some true) && ((match PySem.W.recIn K (pAd K) "property" with
    | some (.ref _ :: _) => true
    | _ => false) && (PySem.W.keepIn K (.ref (gAd K)) && (match K.lookup (gAd K) with
      | some ⟨_, _, .func fd, _⟩ => PySem.W.codeIn K fd.code "Workshop.in_force" && (He.dflB K fd.defaults [] && He.kwdB K fd.kwdefaults [])
      | _ => false)))))
def fnG (K : PySem.W.Frag) : He.FnW := match K.lookup (gAd K) with
  | some ⟨_, _, .func fd, _⟩ => some (fd.name, fd.qualname, fd.params, fd.body, fd.scope, fd.globals, fd.closure, fd.builtins)
  | _ => none
def vaG : He.FnW := some ("in_force", "Workshop.in_force", defArgs s_in_force, .stmts (defBody s_in_force), defScope s_in_force, mainGlobals, [], builtinsNs)
structure SaysG (K : PySem.W.Frag) : Prop where
  ok : okG K = true
  fn : fnG K = vaG
abbrev AlG : Type := He.AlX × (Bool × He.FnW)
abbrev exT : PySem.W.Frag → Bool := fun _ => true
def obsG (g : Addr → Option Obj) : AlG := (He.obsX 6 fa fn [] tf exT g, (okG (He.frT g (He.asD g 6)), fnG (He.frT g (He.asD g 6))))
def valG (w : World) : AlG := (He.valX fn [] w, (true, vaG))
theorem saysG_of {h : Heap} {w : World} (e : obsG h.get? = valG w) : ∃ K : PySem.W.Frag, K.In h ∧ (He.SaysX fa fn [] tf exT w h K ∧ SaysG K) := by
  unfold obsG valG at e
  obtain ⟨e1, e2⟩ := Prod.mk.inj e
  obtain ⟨e3, e4⟩ := Prod.mk.inj e2
  exact ⟨He.frT h.get? (He.asD h.get? 6), He.frT_in, He.saysX_of e1, ⟨e3, e4⟩⟩
def hk : PySem.W.Hook where
  α := AlG
  obs := fun s => obsG s.heap.get?
  val := fun w => valG w
  says := fun w h => ∃ K : PySem.W.Frag, K.In h ∧ (He.SaysX fa fn [] tf exT w h K ∧ SaysG K)
  of := fun _ _ e => saysG_of e
  keeps := fun _ _ _ ⟨K, hK, c, d⟩ k => ⟨K, PySem.W.Frag.In.keeps hK k, ⟨c.t, c.more, c.hd, c.out, fun p hp => k _ _ (c.empty p hp)⟩, d⟩
abbrev R0 : PySem.W.OpenRow := PySem.W.OpenLaw.row PySem.Challenge.rw_missesnone_k26_whole_nobody_can_tell_wit
def ob (s : PySem.W.SharedT) : AlG := obsG (HandSHeadRun.getT s)
theorem ob_eq (s : PySem.W.SharedT) : ob s = hk.obs s.abs := by
  have e : HandSHeadRun.getT s = s.abs.heap.get? := funext (HandSHeadRun.getT_eq s)
  show obsG (HandSHeadRun.getT s) = obsG s.abs.heap.get?
  rw [e]
end Mn
namespace Mn
open PySem PySem.Spec PyProof.Rows L2
theorem run (w : World) : HandSHeadRun.RunEq R0 (PySem.W.view R0.prog [62]) hk ob 20000 loose w := by
  intro os
  kernel_rfl
end Mn
namespace Mn
open PySem PySem.Spec PyProof.Rows L2
/-! ### the laws at every def -/
structure Hev (w : World) (K : PySem.W.Frag) (mg : Str → Option Value) (base h : Heap) : Prop where
  X : K.In base
  g : base.Ns mainGlobals mg
  c : He.SaysX fa fn [] tf exT w h K
  d : SaysG K
  tb : ∀ p ∈ tf, GxR.TabB base mg (He.cT K p).1 (He.cT K p).2
abbrev S0 (w : World) (K : PySem.W.Frag) (mg : Str → Option Value) (base : Heap) : Sx := ⟨PySem.Challenge.pw_missesnone_k26_whole_nobody_can_tell_wit, w, K, mg, base⟩
abbrev G0 (K : PySem.W.Frag) : Gp := ⟨tf.map fun p => (He.cT K p).2, He.ga K "Program", He.ga K "Workshop"⟩
section
variable {w : World} {K : PySem.W.Frag} {mg : Str → Option Value} {base h : Heap}
theorem bi_of (e : Hev w K mg base h) : Bi (S0 w K mg base) := ⟨He.free_ok e.X e.g (e.c.t.d.fact 70 (f := .free "len") rfl), He.free_ok e.X e.g (e.c.t.d.fact 71 (f := .free "range") rfl), He.free_ok e.X e.g (e.c.t.d.fact 72 (f := .free "enumerate") rfl), He.free_ok e.X e.g (e.c.t.d.fact 73 (f := .free "isinstance") rfl), He.free_ok e.X e.g (e.c.t.d.fact 74 (f := .free "tuple") rfl), He.free_ok e.X e.g (e.c.t.d.fact 75 (f := .free "list") rfl), He.free_ok e.X e.g (e.c.t.d.fact 76 (f := .free "int") rfl), He.free_ok e.X e.g (e.c.t.d.fact 77 (f := .free "bool") rfl), He.free_ok e.X e.g (e.c.t.d.fact 78 (f := .free "zip") rfl), He.free_ok e.X e.g (e.c.t.d.fact 79 (f := .free "sorted") rfl), He.free_ok e.X e.g (e.c.t.d.fact 80 (f := .free "abs") rfl), He.free_ok e.X e.g (e.c.t.d.fact 81 (f := .free "all") rfl), He.free_ok e.X e.g (e.c.t.d.fact 82 (f := .free "any") rfl)⟩
theorem kp_of (e : Hev w K mg base h) : Kp (S0 w K mg base) (G0 K) := ⟨He.cls_ok (e.c.t.d.fact 85 (f := .cls "Program") rfl), He.noat_ok (e.c.t.d.fact 87 (f := .noat "Program" "names") rfl), He.noat_ok (e.c.t.d.fact 88 (f := .noat "Program" "ports") rfl), He.noat_ok (e.c.t.d.fact 89 (f := .noat "Program" "modes") rfl), He.noat_ok (e.c.t.d.fact 100 (f := .noat "Program" "table") rfl)⟩
theorem kw_of (e : Hev w K mg base h) : Kw (S0 w K mg base) (G0 K) := ⟨He.cls_ok (e.c.t.d.fact 101 (f := .cls "Workshop") rfl), He.noat_ok (e.c.t.d.fact 103 (f := .noat "Workshop" "_base") rfl), He.noat_ok (e.c.t.d.fact 104 (f := .noat "Workshop" "_events") rfl), He.noat_ok (e.c.t.d.fact 105 (f := .noat "Workshop" "_edits") rfl), He.noat_ok (e.c.t.d.fact 106 (f := .noat "Workshop" "_in_force") rfl), He.noat_ok (e.c.t.d.fact 107 (f := .noat "Workshop" "_tests") rfl), He.noat_ok (e.c.t.d.fact 108 (f := .noat "Workshop" "_last") rfl), He.noat_ok (e.c.t.d.fact 109 (f := .noat "Workshop" "_runs") rfl)⟩
theorem hI_MOST_EVENTS_of (e : Hev w K mg base h) : ∃ t, (S0 w K mg base).mg "MOST_EVENTS" = some (.int 100 t) := He.int_ok e.X e.g (e.c.t.d.fact 83 (f := .int "MOST_EVENTS" 100) rfl)
theorem hI_BEYOND_of (e : Hev w K mg base h) : ∃ t, (S0 w K mg base).mg "BEYOND" = some (.int (10 ^ 30) t) := He.int_ok e.X e.g (e.c.t.d.fact 84 (f := .int "BEYOND" (10 ^ 30)) rfl)
theorem tf_ {b : Bool} {P : Prop} (h : b = true) (h2 : b = false) : P := Bool.noConfusion (h.symm.trans h2)
theorem law_frozen0 (G : Gp) (C : AC) : LawB (C_froz 0) (b_frozen G C) N_frozen := by
  rintro ens L post ⟨d, rfl, rfl, hd, hp⟩
  show b_frozen G C _ [.dat d, .no] _
  unfold b_frozen
  refine seq_if ?_
  conv => whnf
  refine ⟨fun h => Mn.tf_ h hd, fun _ => ?_⟩
  cases d with
  | list ds => exact nf (show false = true from hd.symm)
  | tuple ds => exact nf (show false = true from hd.symm)
  | _ => exact hp
theorem frz_none (e : Hev w K mg base h) : Dn (S0 w K mg base) (G0 K) 0 "frozen" ["value"] (fun _ _ _ => False) := by
  obtain ⟨fd, F⟩ := e.c.t.d.def_ 5 (d := d_frozen) rfl
  exact ⟨He.ga K "frozen", fd, ⟨fun vs H Q E ⟨_, _, _, _, _, _, _, hc, _⟩ => hc.elim, fun A outer s H args us vs Q E _ _ _ _ ⟨_, _, _, _, _, _, _, hc, _⟩ => hc.elim⟩, He.glo_ok e.X e.g (e.c.t.d.fact 4 (f := .glo "frozen") rfl), F.kp, F.bindsN fun _ _ _ _ _ _ us hl => match us, hl with | [_], _ => rfl⟩
theorem frz_zero (e : Hev w K mg base h) : Dn (S0 w K mg base) (G0 K) 1 "frozen" ["value"] (C_froz 0) := by
  have D := frz_none e
  obtain ⟨fd, F⟩ := e.c.t.d.def_ 5 (d := d_frozen) rfl
  exact ⟨He.ga K "frozen", fd, fn_a (ps := ["value"]) (C := C_froz 0) F (C8.fnScope_by (by decide +kernel)) (by intro ens L post h; repeat (first | exact congrArg List.length h.1 | (obtain ⟨_, h⟩ := h))) (fun cdv A outer s H E hr hc => w_frozen (bi_of e) (kp_of e) (kw_of e) hr D) (law_frozen0 (G0 K) _), He.glo_ok e.X e.g (e.c.t.d.fact 4 (f := .glo "frozen") rfl), F.kp, F.bindsN fun _ _ _ _ _ _ us hl => match us, hl with | [_], _ => rfl⟩
theorem frz_succ (e : Hev w K mg base h) (n : Nat) (D : Dn (S0 w K mg base) (G0 K) (n + 1) "frozen" ["value"] (C_froz n)) : Dn (S0 w K mg base) (G0 K) (n + 2) "frozen" ["value"] (C_froz (n + 1)) := by
  obtain ⟨fd, F⟩ := e.c.t.d.def_ 5 (d := d_frozen) rfl
  exact ⟨He.ga K "frozen", fd, fn_a (ps := ["value"]) (C := C_froz (n + 1)) F (C8.fnScope_by (by decide +kernel)) (by intro ens L post h; repeat (first | exact congrArg List.length h.1 | (obtain ⟨_, h⟩ := h))) (fun cdv A outer s H E hr hc => w_frozen (bi_of e) (kp_of e) (kw_of e) hr D) (law_frozen (G0 K) n), He.glo_ok e.X e.g (e.c.t.d.fact 4 (f := .glo "frozen") rfl), F.kp, F.bindsN fun _ _ _ _ _ _ us hl => match us, hl with | [_], _ => rfl⟩
theorem D_frozen_of (e : Hev w K mg base h) : Dn (S0 w K mg base) (G0 K) 7 "frozen" ["value"] (C_frozen (G0 K)) := frz_succ e 5 (frz_succ e 4 (frz_succ e 3 (frz_succ e 2 (frz_succ e 1 (frz_succ e 0 (frz_zero e))))))
theorem get_ok {K : PySem.W.Frag} (s : SaysG K) : PropOf K (He.ga K "Workshop") "in_force" (pAd K) (gAd K) ∧ ∃ fd, FunD K "in_force" "Workshop.in_force" (defArgs s_in_force) (defBody s_in_force) (defScope s_in_force) [] [] (gAd K) fd := by
  have o := s.ok
  have f := s.fn
  unfold okG at o
  simp only [Bool.and_eq_true, decide_eq_true_eq] at o
  obtain ⟨o1, o2, o3, o4, o5, o6⟩ := o
  refine ⟨⟨o1, o2, o3, ?_⟩, ?_⟩
  · unfold gAd
    split at o4
    · rename_i g rest hq
      rw [hq]
      exact ⟨rest, rfl⟩
    · cases o4
  · unfold fnG at f
    cases hq : K.lookup (gAd K) with
    | none =>
      rw [hq] at o6
      cases o6
    | some ob =>
      obtain ⟨b1, b2, b3, b4⟩ := ob
      rw [hq] at o6 f
      cases b3 with
      | func fd =>
        obtain ⟨n1, n2, n3, n4, n5, n6, n7, n8, n9, n10, n11, n12, n13, n14, n15⟩ := fd
        simp only [Bool.and_eq_true] at o6
        unfold vaG at f
        simp only [Option.some.injEq, Prod.mk.injEq] at f
        obtain ⟨rfl, rfl, rfl, rfl, rfl, rfl, rfl, rfl⟩ := f
        exact ⟨_, ⟨b1, b2, n8, n9, n10, n11, n12, n13, n14, b4, rfl, hq, o6.1, He.dflB_ok o6.2.1, He.kwdB_ok o6.2.2⟩, o5⟩
      | _ => cases o6
theorem D_cells_of_of (e : Hev w K mg base h) : Dn (S0 w K mg base) (G0 K) 1 "cells_of" ["names", "modes"] (C_cells_of (G0 K)) := by
  obtain ⟨fd, F⟩ := e.c.t.d.def_ 0 (d := d_cells_of) rfl
  exact ⟨He.ga K "cells_of", fd, fn_a (ps := ["names", "modes"]) (C := C_cells_of (G0 K)) F (C8.fnScope_by (by decide +kernel)) (by intro ens L post h; repeat (first | exact congrArg List.length h.1 | (obtain ⟨_, h⟩ := h))) (fun cdv A outer s H E hr hc => w_cells_of (bi_of e) (kp_of e) (kw_of e) hr) (law_cells_of (G0 K)), He.glo_ok e.X e.g (e.c.t.d.fact 0 (f := .glo "cells_of") rfl), F.kp, F.bindsN fun _ _ _ _ _ _ us hl => match us, hl with | [_, _], _ => rfl⟩
theorem D_idle_of (e : Hev w K mg base h) : Dn (S0 w K mg base) (G0 K) 1 "idle" ["modes", "cell"] (C_idle (G0 K)) := by
  obtain ⟨fd, F⟩ := e.c.t.d.def_ 1 (d := d_idle) rfl
  exact ⟨He.ga K "idle", fd, fn_a (ps := ["modes", "cell"]) (C := C_idle (G0 K)) F (C8.fnScope_by (by decide +kernel)) (by intro ens L post h; repeat (first | exact congrArg List.length h.1 | (obtain ⟨_, h⟩ := h))) (fun cdv A outer s H E hr hc => w_idle (bi_of e) (kp_of e) (kw_of e) hr) (law_idle (G0 K)), He.glo_ok e.X e.g (e.c.t.d.fact 1 (f := .glo "idle") rfl), F.kp, F.bindsN fun _ _ _ _ _ _ us hl => match us, hl with | [_, _], _ => rfl⟩
theorem D_Program_init_of (e : Hev w K mg base h) : Dk (S0 w K mg base) (G0 K) (G0 K).CP 8 "Program" ["self", "names", "ports", "modes", "rows"] (C_Program_init (G0 K)) := by
  obtain ⟨fd, F⟩ := e.c.t.d.def_ 2 (d := d_Program__init) rfl
  exact ⟨He.ma K (He.ga K "Program") "__init__", fd, fn_a (ps := ["self", "names", "ports", "modes", "rows"]) (C := C_Program_init (G0 K)) F (C8.fnScope_by (by decide +kernel)) (by intro ens L post h; repeat (first | exact congrArg List.length h.1 | (obtain ⟨_, h⟩ := h))) (fun cdv A outer s H E hr hc => w_Program_init (bi_of e) (kp_of e) (kw_of e) hr (D_cells_of_of e) (D_frozen_of e) (D_idle_of e)) (law_Program_init (G0 K)), He.mkr_ok (e.c.t.d.fact 86 (f := .mkr "Program") rfl), He.glo_ok e.X e.g (e.c.t.d.fact 58 (f := .glo "Program") rfl), F.bindsN fun _ _ _ _ _ _ us hl => match us, hl with | [_, _, _, _, _], _ => rfl⟩
theorem D_cells_of (e : Hev w K mg base h) : Dn (S0 w K mg base) (G0 K) 2 "cells" ["program"] (C_cells (G0 K)) := by
  obtain ⟨fd, F⟩ := e.c.t.d.def_ 3 (d := d_cells) rfl
  exact ⟨He.ga K "cells", fd, fn_a (ps := ["program"]) (C := C_cells (G0 K)) F (C8.fnScope_by (by decide +kernel)) (by intro ens L post h; repeat (first | exact congrArg List.length h.1 | (obtain ⟨_, h⟩ := h))) (fun cdv A outer s H E hr hc => w_cells (bi_of e) (kp_of e) (kw_of e) hr (D_cells_of_of e)) (law_cells (G0 K)), He.glo_ok e.X e.g (e.c.t.d.fact 2 (f := .glo "cells") rfl), F.kp, F.bindsN fun _ _ _ _ _ _ us hl => match us, hl with | [_], _ => rfl⟩
theorem D_row_at_of (e : Hev w K mg base h) : Dn (S0 w K mg base) (G0 K) 1 "row_at" ["program", "cell"] (C_row_at (G0 K)) := by
  obtain ⟨fd, F⟩ := e.c.t.d.def_ 4 (d := d_row_at) rfl
  exact ⟨He.ga K "row_at", fd, fn_a (ps := ["program", "cell"]) (C := C_row_at (G0 K)) F (C8.fnScope_by (by decide +kernel)) (by intro ens L post h; repeat (first | exact congrArg List.length h.1 | (obtain ⟨_, h⟩ := h))) (fun cdv A outer s H E hr hc => w_row_at (bi_of e) (kp_of e) (kw_of e) hr) (law_row_at (G0 K)), He.glo_ok e.X e.g (e.c.t.d.fact 3 (f := .glo "row_at") rfl), F.kp, F.bindsN fun _ _ _ _ _ _ us hl => match us, hl with | [_, _], _ => rfl⟩
theorem D_with_rows_of (e : Hev w K mg base h) : Dn (S0 w K mg base) (G0 K) 10 "with_rows" ["program", "rows"] (C_with_rows (G0 K)) := by
  obtain ⟨fd, F⟩ := e.c.t.d.def_ 6 (d := d_with_rows) rfl
  exact ⟨He.ga K "with_rows", fd, fn_a (ps := ["program", "rows"]) (C := C_with_rows (G0 K)) F (C8.fnScope_by (by decide +kernel)) (by intro ens L post h; repeat (first | exact congrArg List.length h.1 | (obtain ⟨_, h⟩ := h))) (fun cdv A outer s H E hr hc => w_with_rows (bi_of e) (kp_of e) (kw_of e) hr (D_Program_init_of e) (D_cells_of e) (D_frozen_of e)) (law_with_rows (G0 K)), He.glo_ok e.X e.g (e.c.t.d.fact 5 (f := .glo "with_rows") rfl), F.kp, F.bindsN fun _ _ _ _ _ _ us hl => match us, hl with | [_, _], _ => rfl⟩
theorem D_position_of_of (e : Hev w K mg base h) : Dn (S0 w K mg base) (G0 K) 1 "position_of" ["number", "held"] (C_position_of (G0 K)) := by
  obtain ⟨fd, F⟩ := e.c.t.d.def_ 7 (d := d_position_of) rfl
  exact ⟨He.ga K "position_of", fd, fn_a (ps := ["number", "held"]) (C := C_position_of (G0 K)) F (C8.fnScope_by (by decide +kernel)) (by intro ens L post h; repeat (first | exact congrArg List.length h.1 | (obtain ⟨_, h⟩ := h))) (fun cdv A outer s H E hr hc => w_position_of (bi_of e) (kp_of e) (kw_of e) hr) (law_position_of (G0 K)), He.glo_ok e.X e.g (e.c.t.d.fact 6 (f := .glo "position_of") rfl), F.kp, F.bindsN fun _ _ _ _ _ _ us hl => match us, hl with | [_, _], _ => rfl⟩
theorem D_candidates_of (e : Hev w K mg base h) : Dn (S0 w K mg base) (G0 K) 1 "candidates" ["held", "number"] (C_candidates (G0 K)) := by
  obtain ⟨fd, F⟩ := e.c.t.d.def_ 8 (d := d_candidates) rfl
  exact ⟨He.ga K "candidates", fd, fn_a (ps := ["held", "number"]) (C := C_candidates (G0 K)) F (C8.fnScope_by (by decide +kernel)) (by intro ens L post h; repeat (first | exact congrArg List.length h.1 | (obtain ⟨_, h⟩ := h))) (fun cdv A outer s H E hr hc => w_candidates (bi_of e) (kp_of e) (kw_of e) hr) (law_candidates (G0 K)), He.glo_ok e.X e.g (e.c.t.d.fact 7 (f := .glo "candidates") rfl), F.kp, F.bindsN fun _ _ _ _ _ _ us hl => match us, hl with | [_, _], _ => rfl⟩
theorem D_step_of (e : Hev w K mg base h) : Dn (S0 w K mg base) (G0 K) 2 "step" ["program", "place", "event"] (C_step (G0 K)) := by
  obtain ⟨fd, F⟩ := e.c.t.d.def_ 9 (d := d_step) rfl
  exact ⟨He.ga K "step", fd, fn_a (ps := ["program", "place", "event"]) (C := C_step (G0 K)) F (C8.fnScope_by (by decide +kernel)) (by intro ens L post h; repeat (first | exact congrArg List.length h.1 | (obtain ⟨_, h⟩ := h))) (fun cdv A outer s H E hr hc => w_step (bi_of e) (kp_of e) (kw_of e) hr (D_candidates_of e) (D_position_of_of e) (D_row_at_of e)) (law_step (G0 K)), He.glo_ok e.X e.g (e.c.t.d.fact 8 (f := .glo "step") rfl), F.kp, F.bindsN fun _ _ _ _ _ _ us hl => match us, hl with | [_, _, _], _ => rfl⟩
theorem D_run_of (e : Hev w K mg base h) : Dn (S0 w K mg base) (G0 K) 3 "run" ["program", "events"] (C_run (G0 K)) := by
  obtain ⟨fd, F⟩ := e.c.t.d.def_ 10 (d := d_run) rfl
  exact ⟨He.ga K "run", fd, fn_a (ps := ["program", "events"]) (C := C_run (G0 K)) F (C8.fnScope_by (by decide +kernel)) (by intro ens L post h; repeat (first | exact congrArg List.length h.1 | (obtain ⟨_, h⟩ := h))) (fun cdv A outer s H E hr hc => w_run (bi_of e) (kp_of e) (kw_of e) hr (D_step_of e)) (law_run (G0 K)), He.glo_ok e.X e.g (e.c.t.d.fact 9 (f := .glo "run") rfl), F.kp, F.bindsN fun _ _ _ _ _ _ us hl => match us, hl with | [_, _], _ => rfl⟩
theorem D_is_index_of (e : Hev w K mg base h) : Dn (S0 w K mg base) (G0 K) 1 "is_index" ["value", "size"] (C_is_index (G0 K)) := by
  obtain ⟨fd, F⟩ := e.c.t.d.def_ 11 (d := d_is_index) rfl
  exact ⟨He.ga K "is_index", fd, fn_a (ps := ["value", "size"]) (C := C_is_index (G0 K)) F (C8.fnScope_by (by decide +kernel)) (by intro ens L post h; repeat (first | exact congrArg List.length h.1 | (obtain ⟨_, h⟩ := h))) (fun cdv A outer s H E hr hc => w_is_index (bi_of e) (kp_of e) (kw_of e) hr) (law_is_index (G0 K)), He.glo_ok e.X e.g (e.c.t.d.fact 10 (f := .glo "is_index") rfl), F.kp, F.bindsN fun _ _ _ _ _ _ us hl => match us, hl with | [_, _], _ => rfl⟩
theorem D_is_cell_of (e : Hev w K mg base h) : Dn (S0 w K mg base) (G0 K) 2 "is_cell" ["program", "cell"] (C_is_cell (G0 K)) := by
  obtain ⟨fd, F⟩ := e.c.t.d.def_ 12 (d := d_is_cell) rfl
  exact ⟨He.ga K "is_cell", fd, fn_a (ps := ["program", "cell"]) (C := C_is_cell (G0 K)) F (C8.fnScope_by (by decide +kernel)) (by intro ens L post h; repeat (first | exact congrArg List.length h.1 | (obtain ⟨_, h⟩ := h))) (fun cdv A outer s H E hr hc => w_is_cell (bi_of e) (kp_of e) (kw_of e) hr (D_is_index_of e)) (law_is_cell (G0 K)), He.glo_ok e.X e.g (e.c.t.d.fact 11 (f := .glo "is_cell") rfl), F.kp, F.bindsN fun _ _ _ _ _ _ us hl => match us, hl with | [_, _], _ => rfl⟩
theorem D_is_write_of (e : Hev w K mg base h) : Dn (S0 w K mg base) (G0 K) 2 "is_write" ["program", "known", "write"] (C_is_write (G0 K)) := by
  obtain ⟨fd, F⟩ := e.c.t.d.def_ 13 (d := d_is_write) rfl
  exact ⟨He.ga K "is_write", fd, fn_a (ps := ["program", "known", "write"]) (C := C_is_write (G0 K)) F (C8.fnScope_by (by decide +kernel)) (by intro ens L post h; repeat (first | exact congrArg List.length h.1 | (obtain ⟨_, h⟩ := h))) (fun cdv A outer s H E hr hc => w_is_write (bi_of e) (kp_of e) (kw_of e) hr (D_is_index_of e)) (law_is_write (G0 K)), He.glo_ok e.X e.g (e.c.t.d.fact 12 (f := .glo "is_write") rfl), F.kp, F.bindsN fun _ _ _ _ _ _ us hl => match us, hl with | [_, _, _], _ => rfl⟩
theorem D_are_holds_of (e : Hev w K mg base h) : Dn (S0 w K mg base) (G0 K) 3 "are_holds" ["holds", "known", "count"] (C_are_holds (G0 K)) := by
  obtain ⟨fd, F⟩ := e.c.t.d.def_ 14 (d := d_are_holds) rfl
  exact ⟨He.ga K "are_holds", fd, fn_a (ps := ["holds", "known", "count"]) (C := C_are_holds (G0 K)) F (C8.fnScope_by (by decide +kernel)) (by intro ens L post h; repeat (first | exact congrArg List.length h.1 | (obtain ⟨_, h⟩ := h))) (fun cdv A outer s H E hr hc => by
    obtain ⟨c, ec, hc2⟩ := hc
    have hcd : cdv = .ref (He.cT K ("are_holds", none)).1 := by
      rw [ec]
      exact congrArg Value.ref (hc2 ("are_holds", none) rfl).symm
    exact w_are_holds (bi_of e) (kp_of e) (kw_of e) hr (D_is_index_of e) (List.mem_map_of_mem (f := fun p => (He.cT K p).2) (List.Mem.head _)) (e.tb _ (List.Mem.head _)) hcd) (law_are_holds (G0 K)), He.glo_ok e.X e.g (e.c.t.d.fact 13 (f := .glo "are_holds") rfl), F.kp, F.bindsN fun _ _ _ _ _ _ us hl => match us, hl with | [_, _, _], _ => rfl⟩
theorem D_is_row_of (e : Hev w K mg base h) : Dn (S0 w K mg base) (G0 K) 5 "is_row" ["program", "cell", "row"] (C_is_row (G0 K)) := by
  obtain ⟨fd, F⟩ := e.c.t.d.def_ 15 (d := d_is_row) rfl
  exact ⟨He.ga K "is_row", fd, fn_a (ps := ["program", "cell", "row"]) (C := C_is_row (G0 K)) F (C8.fnScope_by (by decide +kernel)) (by intro ens L post h; repeat (first | exact congrArg List.length h.1 | (obtain ⟨_, h⟩ := h))) (fun cdv A outer s H E hr hc => by
    obtain ⟨c, ec, hc2⟩ := hc
    have hcd : cdv = .ref (He.cT K ("is_row", none)).1 := by
      rw [ec]
      exact congrArg Value.ref (hc2 ("is_row", none) rfl).symm
    exact w_is_row (bi_of e) (kp_of e) (kw_of e) hr (D_are_holds_of e) (D_is_index_of e) (D_is_write_of e) (List.mem_map_of_mem (f := fun p => (He.cT K p).2) (List.Mem.tail _ (List.Mem.head _))) (e.tb _ (List.Mem.tail _ (List.Mem.head _))) hcd) (law_is_row (G0 K)), He.glo_ok e.X e.g (e.c.t.d.fact 14 (f := .glo "is_row") rfl), F.kp, F.bindsN fun _ _ _ _ _ _ us hl => match us, hl with | [_, _, _], _ => rfl⟩
theorem D_is_integer_of (e : Hev w K mg base h) : Dn (S0 w K mg base) (G0 K) 1 "is_integer" ["value"] (C_is_integer (G0 K)) := by
  obtain ⟨fd, F⟩ := e.c.t.d.def_ 16 (d := d_is_integer) rfl
  exact ⟨He.ga K "is_integer", fd, fn_a (ps := ["value"]) (C := C_is_integer (G0 K)) F (C8.fnScope_by (by decide +kernel)) (by intro ens L post h; repeat (first | exact congrArg List.length h.1 | (obtain ⟨_, h⟩ := h))) (fun cdv A outer s H E hr hc => w_is_integer (bi_of e) (kp_of e) (kw_of e) hr (hI_BEYOND_of e)) (law_is_integer (G0 K)), He.glo_ok e.X e.g (e.c.t.d.fact 15 (f := .glo "is_integer") rfl), F.kp, F.bindsN fun _ _ _ _ _ _ us hl => match us, hl with | [_], _ => rfl⟩
theorem D_is_event_of (e : Hev w K mg base h) : Dn (S0 w K mg base) (G0 K) 2 "is_event" ["program", "value"] (C_is_event (G0 K)) := by
  obtain ⟨fd, F⟩ := e.c.t.d.def_ 17 (d := d_is_event) rfl
  exact ⟨He.ga K "is_event", fd, fn_a (ps := ["program", "value"]) (C := C_is_event (G0 K)) F (C8.fnScope_by (by decide +kernel)) (by intro ens L post h; repeat (first | exact congrArg List.length h.1 | (obtain ⟨_, h⟩ := h))) (fun cdv A outer s H E hr hc => w_is_event (bi_of e) (kp_of e) (kw_of e) hr (D_is_integer_of e)) (law_is_event (G0 K)), He.glo_ok e.X e.g (e.c.t.d.fact 16 (f := .glo "is_event") rfl), F.kp, F.bindsN fun _ _ _ _ _ _ us hl => match us, hl with | [_, _], _ => rfl⟩
theorem D_is_triple_of (e : Hev w K mg base h) : Dn (S0 w K mg base) (G0 K) 3 "is_triple" ["program", "value"] (C_is_triple (G0 K)) := by
  obtain ⟨fd, F⟩ := e.c.t.d.def_ 18 (d := d_is_triple) rfl
  exact ⟨He.ga K "is_triple", fd, fn_a (ps := ["program", "value"]) (C := C_is_triple (G0 K)) F (C8.fnScope_by (by decide +kernel)) (by intro ens L post h; repeat (first | exact congrArg List.length h.1 | (obtain ⟨_, h⟩ := h))) (fun cdv A outer s H E hr hc => by
    obtain ⟨c, ec, hc2⟩ := hc
    have hcd : cdv = .ref (He.cT K ("is_triple", none)).1 := by
      rw [ec]
      exact congrArg Value.ref (hc2 ("is_triple", none) rfl).symm
    exact w_is_triple (bi_of e) (kp_of e) (kw_of e) hr (D_is_integer_of e) (List.mem_map_of_mem (f := fun p => (He.cT K p).2) (List.Mem.tail _ (List.Mem.tail _ (List.Mem.head _)))) (e.tb _ (List.Mem.tail _ (List.Mem.tail _ (List.Mem.head _)))) hcd) (law_is_triple (G0 K)), He.glo_ok e.X e.g (e.c.t.d.fact 17 (f := .glo "is_triple") rfl), F.kp, F.bindsN fun _ _ _ _ _ _ us hl => match us, hl with | [_, _], _ => rfl⟩
theorem D_is_output_of (e : Hev w K mg base h) : Dn (S0 w K mg base) (G0 K) 5 "is_output" ["program", "value"] (C_is_output (G0 K)) := by
  obtain ⟨fd, F⟩ := e.c.t.d.def_ 19 (d := d_is_output) rfl
  exact ⟨He.ga K "is_output", fd, fn_a (ps := ["program", "value"]) (C := C_is_output (G0 K)) F (C8.fnScope_by (by decide +kernel)) (by intro ens L post h; repeat (first | exact congrArg List.length h.1 | (obtain ⟨_, h⟩ := h))) (fun cdv A outer s H E hr hc => by
    obtain ⟨c, ec, hc2⟩ := hc
    have hcd : cdv = .ref (He.cT K ("is_output", none)).1 := by
      rw [ec]
      exact congrArg Value.ref (hc2 ("is_output", none) rfl).symm
    exact w_is_output (bi_of e) (kp_of e) (kw_of e) hr (D_is_triple_of e) (List.mem_map_of_mem (f := fun p => (He.cT K p).2) (List.Mem.tail _ (List.Mem.tail _ (List.Mem.tail _ (List.Mem.head _))))) (e.tb _ (List.Mem.tail _ (List.Mem.tail _ (List.Mem.tail _ (List.Mem.head _))))) hcd) (law_is_output (G0 K)), He.glo_ok e.X e.g (e.c.t.d.fact 18 (f := .glo "is_output") rfl), F.kp, F.bindsN fun _ _ _ _ _ _ us hl => match us, hl with | [_, _], _ => rfl⟩
theorem D_Workshop_init_of (e : Hev w K mg base h) : Dk (S0 w K mg base) (G0 K) (G0 K).CW 1 "Workshop" ["self", "base"] (C_Workshop_init (G0 K)) := by
  obtain ⟨fd, F⟩ := e.c.t.d.def_ 20 (d := d_Workshop__init) rfl
  exact ⟨He.ma K (He.ga K "Workshop") "__init__", fd, fn_a (ps := ["self", "base"]) (C := C_Workshop_init (G0 K)) F (C8.fnScope_by (by decide +kernel)) (by intro ens L post h; repeat (first | exact congrArg List.length h.1 | (obtain ⟨_, h⟩ := h))) (fun cdv A outer s H E hr hc => w_Workshop_init (bi_of e) (kp_of e) (kw_of e) hr) (law_Workshop_init (G0 K)), He.mkr_ok (e.c.t.d.fact 102 (f := .mkr "Workshop") rfl), He.glo_ok e.X e.g (e.c.t.d.fact 59 (f := .glo "Workshop") rfl), F.bindsN fun _ _ _ _ _ _ us hl => match us, hl with | [_, _], _ => rfl⟩
theorem D_in_force_of (e : Hev w K mg base h) : Dpr (S0 w K mg base) (G0 K) (G0 K).CW 1 "in_force" (C_in_force (G0 K)) := by
  obtain ⟨hP, fd, F⟩ := get_ok e.d
  have hps : ["self"] = ["self"] := rfl
  exact ⟨pAd K, gAd K, fd, hP, fn_a (ps := ["self"]) (C := C_in_force (G0 K)) F (C8.fnScope_by (by decide +kernel)) (by intro ens L post h; repeat (first | exact congrArg List.length h.1 | (obtain ⟨_, h⟩ := h))) (fun cdv A outer s H E hr hc => w_in_force (bi_of e) (kp_of e) (kw_of e) hr) (law_in_force (G0 K)), F.bindsN fun _ _ _ _ _ _ us hl => match us, hl with | [_], _ => rfl⟩
theorem D_Workshop_tests_of (e : Hev w K mg base h) : Dm (S0 w K mg base) (G0 K) (G0 K).CW 1 "tests" ["self"] (C_Workshop_tests (G0 K)) := by
  obtain ⟨fd, F⟩ := e.c.t.d.def_ 21 (d := d_Workshop_tests) rfl
  exact ⟨He.ma K (He.ga K "Workshop") "tests", fd, fn_a (ps := ["self"]) (C := C_Workshop_tests (G0 K)) F (C8.fnScope_by (by decide +kernel)) (by intro ens L post h; repeat (first | exact congrArg List.length h.1 | (obtain ⟨_, h⟩ := h))) (fun cdv A outer s H E hr hc => w_Workshop_tests (bi_of e) (kp_of e) (kw_of e) hr) (law_Workshop_tests (G0 K)), He.meth_ok (e.c.t.d.fact 110 (f := .meth "Workshop" "tests") rfl), F.bindsN fun _ _ _ _ _ _ us hl => match us, hl with | [_], _ => rfl⟩
theorem D_Workshop_take_of (e : Hev w K mg base h) : Dm (S0 w K mg base) (G0 K) (G0 K).CW 1 "_take" ["self", "event"] (C_Workshop_take (G0 K)) := by
  obtain ⟨fd, F⟩ := e.c.t.d.def_ 22 (d := d_Workshop_take) rfl
  exact ⟨He.ma K (He.ga K "Workshop") "_take", fd, fn_a (ps := ["self", "event"]) (C := C_Workshop_take (G0 K)) F (C8.fnScope_by (by decide +kernel)) (by intro ens L post h; repeat (first | exact congrArg List.length h.1 | (obtain ⟨_, h⟩ := h))) (fun cdv A outer s H E hr hc => w_Workshop_take (bi_of e) (kp_of e) (kw_of e) hr (hI_MOST_EVENTS_of e)) (law_Workshop_take (G0 K)), He.meth_ok (e.c.t.d.fact 111 (f := .meth "Workshop" "_take") rfl), F.bindsN fun _ _ _ _ _ _ us hl => match us, hl with | [_, _], _ => rfl⟩
theorem D_Workshop_edit_of (e : Hev w K mg base h) : Dm (S0 w K mg base) (G0 K) (G0 K).CW 8 "edit" ["self", "hand", "cell", "row"] (C_Workshop_edit (G0 K)) := by
  obtain ⟨fd, F⟩ := e.c.t.d.def_ 23 (d := d_Workshop_edit) rfl
  exact ⟨He.ma K (He.ga K "Workshop") "edit", fd, fn_a (ps := ["self", "hand", "cell", "row"]) (C := C_Workshop_edit (G0 K)) F (C8.fnScope_by (by decide +kernel)) (by intro ens L post h; repeat (first | exact congrArg List.length h.1 | (obtain ⟨_, h⟩ := h))) (fun cdv A outer s H E hr hc => w_Workshop_edit (bi_of e) (kp_of e) (kw_of e) hr (D_Workshop_take_of e) (D_frozen_of e) (D_is_cell_of e) (D_is_index_of e) (D_is_row_of e)) (law_Workshop_edit (G0 K)), He.meth_ok (e.c.t.d.fact 112 (f := .meth "Workshop" "edit") rfl), F.bindsN fun _ _ _ _ _ _ us hl => match us, hl with | [_, _, _, _], _ => rfl⟩
theorem D_Workshop_turn_of (e : Hev w K mg base h) : Dm (S0 w K mg base) (G0 K) (G0 K).CW 2 "_turn" ["self", "word", "number", "force"] (C_Workshop_turn (G0 K)) := by
  obtain ⟨fd, F⟩ := e.c.t.d.def_ 24 (d := d_Workshop_turn) rfl
  exact ⟨He.ma K (He.ga K "Workshop") "_turn", fd, fn_a (ps := ["self", "word", "number", "force"]) (C := C_Workshop_turn (G0 K)) F (C8.fnScope_by (by decide +kernel)) (by intro ens L post h; repeat (first | exact congrArg List.length h.1 | (obtain ⟨_, h⟩ := h))) (fun cdv A outer s H E hr hc => w_Workshop_turn (bi_of e) (kp_of e) (kw_of e) hr (D_Workshop_take_of e) (D_is_index_of e)) (law_Workshop_turn (G0 K)), He.meth_ok (e.c.t.d.fact 113 (f := .meth "Workshop" "_turn") rfl), F.bindsN fun _ _ _ _ _ _ us hl => match us, hl with | [_, _, _, _], _ => rfl⟩
theorem D_Workshop_undo_of (e : Hev w K mg base h) : Dm (S0 w K mg base) (G0 K) (G0 K).CW 3 "undo" ["self", "number"] (C_Workshop_undo (G0 K)) := by
  obtain ⟨fd, F⟩ := e.c.t.d.def_ 25 (d := d_Workshop_undo) rfl
  exact ⟨He.ma K (He.ga K "Workshop") "undo", fd, fn_a (ps := ["self", "number"]) (C := C_Workshop_undo (G0 K)) F (C8.fnScope_by (by decide +kernel)) (by intro ens L post h; repeat (first | exact congrArg List.length h.1 | (obtain ⟨_, h⟩ := h))) (fun cdv A outer s H E hr hc => w_Workshop_undo (bi_of e) (kp_of e) (kw_of e) hr (D_Workshop_turn_of e)) (law_Workshop_undo (G0 K)), He.meth_ok (e.c.t.d.fact 114 (f := .meth "Workshop" "undo") rfl), F.bindsN fun _ _ _ _ _ _ us hl => match us, hl with | [_, _], _ => rfl⟩
theorem D_Workshop_redo_of (e : Hev w K mg base h) : Dm (S0 w K mg base) (G0 K) (G0 K).CW 3 "redo" ["self", "number"] (C_Workshop_redo (G0 K)) := by
  obtain ⟨fd, F⟩ := e.c.t.d.def_ 26 (d := d_Workshop_redo) rfl
  exact ⟨He.ma K (He.ga K "Workshop") "redo", fd, fn_a (ps := ["self", "number"]) (C := C_Workshop_redo (G0 K)) F (C8.fnScope_by (by decide +kernel)) (by intro ens L post h; repeat (first | exact congrArg List.length h.1 | (obtain ⟨_, h⟩ := h))) (fun cdv A outer s H E hr hc => w_Workshop_redo (bi_of e) (kp_of e) (kw_of e) hr (D_Workshop_turn_of e)) (law_Workshop_redo (G0 K)), He.meth_ok (e.c.t.d.fact 115 (f := .meth "Workshop" "redo") rfl), F.bindsN fun _ _ _ _ _ _ us hl => match us, hl with | [_, _], _ => rfl⟩
theorem D_Workshop_test_of (e : Hev w K mg base h) : Dm (S0 w K mg base) (G0 K) (G0 K).CW 9 "test" ["self", "events", "outputs"] (C_Workshop_test (G0 K)) := by
  obtain ⟨fd, F⟩ := e.c.t.d.def_ 27 (d := d_Workshop_test) rfl
  exact ⟨He.ma K (He.ga K "Workshop") "test", fd, fn_a (ps := ["self", "events", "outputs"]) (C := C_Workshop_test (G0 K)) F (C8.fnScope_by (by decide +kernel)) (by intro ens L post h; repeat (first | exact congrArg List.length h.1 | (obtain ⟨_, h⟩ := h))) (fun cdv A outer s H E hr hc => by
    obtain ⟨c, ec, hc2⟩ := hc
    have hcd : cdv = .ref (He.cT K ("Workshop", some "test")).1 := by
      rw [ec]
      exact congrArg Value.ref (hc2 ("Workshop", some "test") rfl).symm
    exact w_Workshop_test (bi_of e) (kp_of e) (kw_of e) hr (D_Workshop_take_of e) (D_frozen_of e) (D_is_event_of e) (D_is_output_of e) (List.mem_map_of_mem (f := fun p => (He.cT K p).2) (List.Mem.tail _ (List.Mem.tail _ (List.Mem.tail _ (List.Mem.tail _ (List.Mem.head _)))))) (e.tb _ (List.Mem.tail _ (List.Mem.tail _ (List.Mem.tail _ (List.Mem.tail _ (List.Mem.head _)))))) hcd) (law_Workshop_test (G0 K)), He.meth_ok (e.c.t.d.fact 116 (f := .meth "Workshop" "test") rfl), F.bindsN fun _ _ _ _ _ _ us hl => match us, hl with | [_, _, _], _ => rfl⟩
theorem D_Workshop_program_with_of (e : Hev w K mg base h) : Dm (S0 w K mg base) (G0 K) (G0 K).CW 11 "program_with" ["self", "numbers"] (C_Workshop_program_with (G0 K)) := by
  obtain ⟨fd, F⟩ := e.c.t.d.def_ 28 (d := d_Workshop_program_with) rfl
  exact ⟨He.ma K (He.ga K "Workshop") "program_with", fd, fn_a (ps := ["self", "numbers"]) (C := C_Workshop_program_with (G0 K)) F (C8.fnScope_by (by decide +kernel)) (by intro ens L post h; repeat (first | exact congrArg List.length h.1 | (obtain ⟨_, h⟩ := h))) (fun cdv A outer s H E hr hc => w_Workshop_program_with (bi_of e) (kp_of e) (kw_of e) hr (D_with_rows_of e)) (law_Workshop_program_with (G0 K)), He.meth_ok (e.c.t.d.fact 117 (f := .meth "Workshop" "program_with") rfl), F.bindsN fun _ _ _ _ _ _ us hl => match us, hl with | [_, _], _ => rfl⟩
theorem D_Workshop_program_of (e : Hev w K mg base h) : Dm (S0 w K mg base) (G0 K) (G0 K).CW 12 "program" ["self"] (C_Workshop_program (G0 K)) := by
  obtain ⟨fd, F⟩ := e.c.t.d.def_ 29 (d := d_Workshop_program) rfl
  exact ⟨He.ma K (He.ga K "Workshop") "program", fd, fn_a (ps := ["self"]) (C := C_Workshop_program (G0 K)) F (C8.fnScope_by (by decide +kernel)) (by intro ens L post h; repeat (first | exact congrArg List.length h.1 | (obtain ⟨_, h⟩ := h))) (fun cdv A outer s H E hr hc => w_Workshop_program (bi_of e) (kp_of e) (kw_of e) hr (D_in_force_of e) (D_Workshop_program_with_of e)) (law_Workshop_program (G0 K)), He.meth_ok (e.c.t.d.fact 126 (f := .meth "Workshop" "program") rfl), F.bindsN fun _ _ _ _ _ _ us hl => match us, hl with | [_], _ => rfl⟩
theorem D_Workshop_is_stale_of (e : Hev w K mg base h) : Dm (S0 w K mg base) (G0 K) (G0 K).CW 3 "_is_stale" ["self", "program", "number"] (C_Workshop_is_stale (G0 K)) := by
  obtain ⟨fd, F⟩ := e.c.t.d.def_ 30 (d := d_Workshop_is_stale) rfl
  exact ⟨He.ma K (He.ga K "Workshop") "_is_stale", fd, fn_a (ps := ["self", "program", "number"]) (C := C_Workshop_is_stale (G0 K)) F (C8.fnScope_by (by decide +kernel)) (by intro ens L post h; repeat (first | exact congrArg List.length h.1 | (obtain ⟨_, h⟩ := h))) (fun cdv A outer s H E hr hc => by
    obtain ⟨c, ec, hc2⟩ := hc
    have hcd : cdv = .ref (He.cT K ("Workshop", some "_is_stale")).1 := by
      rw [ec]
      exact congrArg Value.ref (hc2 ("Workshop", some "_is_stale") rfl).symm
    exact w_Workshop_is_stale (bi_of e) (kp_of e) (kw_of e) hr (D_row_at_of e) (List.mem_map_of_mem (f := fun p => (He.cT K p).2) (List.Mem.tail _ (List.Mem.tail _ (List.Mem.tail _ (List.Mem.tail _ (List.Mem.tail _ (List.Mem.head _))))))) (e.tb _ (List.Mem.tail _ (List.Mem.tail _ (List.Mem.tail _ (List.Mem.tail _ (List.Mem.tail _ (List.Mem.head _))))))) hcd) (law_Workshop_is_stale (G0 K)), He.meth_ok (e.c.t.d.fact 127 (f := .meth "Workshop" "_is_stale") rfl), F.bindsN fun _ _ _ _ _ _ us hl => match us, hl with | [_, _, _], _ => rfl⟩
theorem D_Workshop_stale_of (e : Hev w K mg base h) : Dm (S0 w K mg base) (G0 K) (G0 K).CW 13 "stale" ["self"] (C_Workshop_stale (G0 K)) := by
  obtain ⟨fd, F⟩ := e.c.t.d.def_ 31 (d := d_Workshop_stale) rfl
  exact ⟨He.ma K (He.ga K "Workshop") "stale", fd, fn_a (ps := ["self"]) (C := C_Workshop_stale (G0 K)) F (C8.fnScope_by (by decide +kernel)) (by intro ens L post h; repeat (first | exact congrArg List.length h.1 | (obtain ⟨_, h⟩ := h))) (fun cdv A outer s H E hr hc => w_Workshop_stale (bi_of e) (kp_of e) (kw_of e) hr (D_Workshop_is_stale_of e) (D_Workshop_program_of e)) (law_Workshop_stale (G0 K)), He.meth_ok (e.c.t.d.fact 128 (f := .meth "Workshop" "stale") rfl), F.bindsN fun _ _ _ _ _ _ us hl => match us, hl with | [_], _ => rfl⟩
theorem D_Workshop_verdicts_of (e : Hev w K mg base h) : Dm (S0 w K mg base) (G0 K) (G0 K).CW 13 "verdicts" ["self"] (C_Workshop_verdicts (G0 K)) := by
  obtain ⟨fd, F⟩ := e.c.t.d.def_ 32 (d := d_Workshop_verdicts) rfl
  exact ⟨He.ma K (He.ga K "Workshop") "verdicts", fd, fn_a (ps := ["self"]) (C := C_Workshop_verdicts (G0 K)) F (C8.fnScope_by (by decide +kernel)) (by intro ens L post h; repeat (first | exact congrArg List.length h.1 | (obtain ⟨_, h⟩ := h))) (fun cdv A outer s H E hr hc => w_Workshop_verdicts (bi_of e) (kp_of e) (kw_of e) hr (D_Workshop_is_stale_of e) (D_Workshop_program_of e) (D_row_at_of e) (D_run_of e)) (law_Workshop_verdicts (G0 K)), He.meth_ok (e.c.t.d.fact 129 (f := .meth "Workshop" "verdicts") rfl), F.bindsN fun _ _ _ _ _ _ us hl => match us, hl with | [_], _ => rfl⟩
theorem D_l_cell_of (e : Hev w K mg base h) : Dn (S0 w K mg base) (G0 K) 1 "_law_cell" ["_law_script", "_law_k"] (C_l_cell (G0 K)) := by
  obtain ⟨fd, F⟩ := e.c.t.d.def_ 33 (d := d_l_cell) rfl
  exact ⟨He.ga K "_law_cell", fd, fn_a (ps := ["_law_script", "_law_k"]) (C := C_l_cell (G0 K)) F (C8.fnScope_by (by decide +kernel)) (by intro ens L post h; repeat (first | exact congrArg List.length h.1 | (obtain ⟨_, h⟩ := h))) (fun cdv A outer s H E hr hc => w_l_cell (bi_of e) (kp_of e) (kw_of e) hr) (law_l_cell (G0 K)), He.glo_ok e.X e.g (e.c.t.d.fact 19 (f := .glo "_law_cell") rfl), F.kp, F.bindsN fun _ _ _ _ _ _ us hl => match us, hl with | [_, _], _ => rfl⟩
theorem D_l_source_of (e : Hev w K mg base h) : Dn (S0 w K mg base) (G0 K) 1 "_law_source" ["_law_cell_here", "_law_k"] (C_l_source (G0 K)) := by
  obtain ⟨fd, F⟩ := e.c.t.d.def_ 34 (d := d_l_source) rfl
  exact ⟨He.ga K "_law_source", fd, fn_a (ps := ["_law_cell_here", "_law_k"]) (C := C_l_source (G0 K)) F (C8.fnScope_by (by decide +kernel)) (by intro ens L post h; repeat (first | exact congrArg List.length h.1 | (obtain ⟨_, h⟩ := h))) (fun cdv A outer s H E hr hc => w_l_source (bi_of e) (kp_of e) (kw_of e) hr) (law_l_source (G0 K)), He.glo_ok e.X e.g (e.c.t.d.fact 20 (f := .glo "_law_source") rfl), F.kp, F.bindsN fun _ _ _ _ _ _ us hl => match us, hl with | [_, _], _ => rfl⟩
theorem D_l_pick_of (e : Hev w K mg base h) : Dn (S0 w K mg base) (G0 K) 1 "_law_pick" ["_law_source_here", "_law_many"] (C_l_pick (G0 K)) := by
  obtain ⟨fd, F⟩ := e.c.t.d.def_ 35 (d := d_l_pick) rfl
  exact ⟨He.ga K "_law_pick", fd, fn_a (ps := ["_law_source_here", "_law_many"]) (C := C_l_pick (G0 K)) F (C8.fnScope_by (by decide +kernel)) (by intro ens L post h; repeat (first | exact congrArg List.length h.1 | (obtain ⟨_, h⟩ := h))) (fun cdv A outer s H E hr hc => w_l_pick (bi_of e) (kp_of e) (kw_of e) hr) (law_l_pick (G0 K)), He.glo_ok e.X e.g (e.c.t.d.fact 21 (f := .glo "_law_pick") rfl), F.kp, F.bindsN fun _ _ _ _ _ _ us hl => match us, hl with | [_, _], _ => rfl⟩
theorem D_l_worded_of (e : Hev w K mg base h) : Dn (S0 w K mg base) (G0 K) 2 "_law_worded" ["_law_source_here", "_law_words"] (C_l_worded (G0 K)) := by
  obtain ⟨fd, F⟩ := e.c.t.d.def_ 36 (d := d_l_worded) rfl
  exact ⟨He.ga K "_law_worded", fd, fn_a (ps := ["_law_source_here", "_law_words"]) (C := C_l_worded (G0 K)) F (C8.fnScope_by (by decide +kernel)) (by intro ens L post h; repeat (first | exact congrArg List.length h.1 | (obtain ⟨_, h⟩ := h))) (fun cdv A outer s H E hr hc => w_l_worded (bi_of e) (kp_of e) (kw_of e) hr (D_l_pick_of e)) (law_l_worded (G0 K)), He.glo_ok e.X e.g (e.c.t.d.fact 22 (f := .glo "_law_worded") rfl), F.kp, F.bindsN fun _ _ _ _ _ _ us hl => match us, hl with | [_, _], _ => rfl⟩
theorem D_l_cells_of (e : Hev w K mg base h) : Dn (S0 w K mg base) (G0 K) 1 "_law_cells" ["_law_plan_here"] (C_l_cells (G0 K)) := by
  obtain ⟨fd, F⟩ := e.c.t.d.def_ 37 (d := d_l_cells) rfl
  exact ⟨He.ga K "_law_cells", fd, fn_a (ps := ["_law_plan_here"]) (C := C_l_cells (G0 K)) F (C8.fnScope_by (by decide +kernel)) (by intro ens L post h; repeat (first | exact congrArg List.length h.1 | (obtain ⟨_, h⟩ := h))) (fun cdv A outer s H E hr hc => w_l_cells (bi_of e) (kp_of e) (kw_of e) hr) (law_l_cells (G0 K)), He.glo_ok e.X e.g (e.c.t.d.fact 23 (f := .glo "_law_cells") rfl), F.kp, F.bindsN fun _ _ _ _ _ _ us hl => match us, hl with | [_], _ => rfl⟩
theorem D_l_known_of (e : Hev w K mg base h) : Dn (S0 w K mg base) (G0 K) 1 "_law_known" ["_law_plan_here", "_law_cell_here"] (C_l_known (G0 K)) := by
  obtain ⟨fd, F⟩ := e.c.t.d.def_ 38 (d := d_l_known) rfl
  exact ⟨He.ga K "_law_known", fd, fn_a (ps := ["_law_plan_here", "_law_cell_here"]) (C := C_l_known (G0 K)) F (C8.fnScope_by (by decide +kernel)) (by intro ens L post h; repeat (first | exact congrArg List.length h.1 | (obtain ⟨_, h⟩ := h))) (fun cdv A outer s H E hr hc => w_l_known (bi_of e) (kp_of e) (kw_of e) hr) (law_l_known (G0 K)), He.glo_ok e.X e.g (e.c.t.d.fact 24 (f := .glo "_law_known") rfl), F.kp, F.bindsN fun _ _ _ _ _ _ us hl => match us, hl with | [_, _], _ => rfl⟩
theorem D_l_some_of (e : Hev w K mg base h) : Dn (S0 w K mg base) (G0 K) 2 "_law_some" ["_law_source_here", "_law_known_here", "_law_count"] (C_l_some (G0 K)) := by
  obtain ⟨fd, F⟩ := e.c.t.d.def_ 39 (d := d_l_some) rfl
  exact ⟨He.ga K "_law_some", fd, fn_a (ps := ["_law_source_here", "_law_known_here", "_law_count"]) (C := C_l_some (G0 K)) F (C8.fnScope_by (by decide +kernel)) (by intro ens L post h; repeat (first | exact congrArg List.length h.1 | (obtain ⟨_, h⟩ := h))) (fun cdv A outer s H E hr hc => w_l_some (bi_of e) (kp_of e) (kw_of e) hr (D_l_pick_of e)) (law_l_some (G0 K)), He.glo_ok e.X e.g (e.c.t.d.fact 25 (f := .glo "_law_some") rfl), F.kp, F.bindsN fun _ _ _ _ _ _ us hl => match us, hl with | [_, _, _], _ => rfl⟩
theorem D_l_writes_of (e : Hev w K mg base h) : Dn (S0 w K mg base) (G0 K) 3 "_law_writes" ["_law_source_here", "_law_plan_here", "_law_known_here"] (C_l_writes (G0 K)) := by
  obtain ⟨fd, F⟩ := e.c.t.d.def_ 40 (d := d_l_writes) rfl
  exact ⟨He.ga K "_law_writes", fd, fn_a (ps := ["_law_source_here", "_law_plan_here", "_law_known_here"]) (C := C_l_writes (G0 K)) F (C8.fnScope_by (by decide +kernel)) (by intro ens L post h; repeat (first | exact congrArg List.length h.1 | (obtain ⟨_, h⟩ := h))) (fun cdv A outer s H E hr hc => w_l_writes (bi_of e) (kp_of e) (kw_of e) hr (D_l_pick_of e) (D_l_worded_of e)) (law_l_writes (G0 K)), He.glo_ok e.X e.g (e.c.t.d.fact 26 (f := .glo "_law_writes") rfl), F.kp, F.bindsN fun _ _ _ _ _ _ us hl => match us, hl with | [_, _, _], _ => rfl⟩
theorem D_l_drawn_row_of (e : Hev w K mg base h) : Dn (S0 w K mg base) (G0 K) 4 "_law_drawn_row" ["_law_source_here", "_law_plan_here", "_law_cell_here"] (C_l_drawn_row (G0 K)) := by
  obtain ⟨fd, F⟩ := e.c.t.d.def_ 41 (d := d_l_drawn_row) rfl
  exact ⟨He.ga K "_law_drawn_row", fd, fn_a (ps := ["_law_source_here", "_law_plan_here", "_law_cell_here"]) (C := C_l_drawn_row (G0 K)) F (C8.fnScope_by (by decide +kernel)) (by intro ens L post h; repeat (first | exact congrArg List.length h.1 | (obtain ⟨_, h⟩ := h))) (fun cdv A outer s H E hr hc => w_l_drawn_row (bi_of e) (kp_of e) (kw_of e) hr (D_l_known_of e) (D_l_some_of e) (D_l_worded_of e) (D_l_writes_of e)) (law_l_drawn_row (G0 K)), He.glo_ok e.X e.g (e.c.t.d.fact 27 (f := .glo "_law_drawn_row") rfl), F.kp, F.bindsN fun _ _ _ _ _ _ us hl => match us, hl with | [_, _, _], _ => rfl⟩
theorem D_l_named_of (e : Hev w K mg base h) : Dn (S0 w K mg base) (G0 K) 3 "_law_named" ["_law_source_here", "_law_count", "_law_ends"] (C_l_named (G0 K)) := by
  obtain ⟨fd, F⟩ := e.c.t.d.def_ 42 (d := d_l_named) rfl
  exact ⟨He.ga K "_law_named", fd, fn_a (ps := ["_law_source_here", "_law_count", "_law_ends"]) (C := C_l_named (G0 K)) F (C8.fnScope_by (by decide +kernel)) (by intro ens L post h; repeat (first | exact congrArg List.length h.1 | (obtain ⟨_, h⟩ := h))) (fun cdv A outer s H E hr hc => w_l_named (bi_of e) (kp_of e) (kw_of e) hr (D_l_pick_of e) (D_l_worded_of e)) (law_l_named (G0 K)), He.glo_ok e.X e.g (e.c.t.d.fact 28 (f := .glo "_law_named") rfl), F.kp, F.bindsN fun _ _ _ _ _ _ us hl => match us, hl with | [_, _, _], _ => rfl⟩
theorem D_l_plan_of (e : Hev w K mg base h) : Dn (S0 w K mg base) (G0 K) 5 "_law_plan" ["_law_source_here", "_law_wide"] (C_l_plan (G0 K)) := by
  obtain ⟨fd, F⟩ := e.c.t.d.def_ 43 (d := d_l_plan) rfl
  exact ⟨He.ga K "_law_plan", fd, fn_a (ps := ["_law_source_here", "_law_wide"]) (C := C_l_plan (G0 K)) F (C8.fnScope_by (by decide +kernel)) (by intro ens L post h; repeat (first | exact congrArg List.length h.1 | (obtain ⟨_, h⟩ := h))) (fun cdv A outer s H E hr hc => w_l_plan (bi_of e) (kp_of e) (kw_of e) hr (D_l_cells_of e) (D_l_drawn_row_of e) (D_l_named_of e) (D_l_pick_of e)) (law_l_plan (G0 K)), He.glo_ok e.X e.g (e.c.t.d.fact 29 (f := .glo "_law_plan") rfl), F.kp, F.bindsN fun _ _ _ _ _ _ us hl => match us, hl with | [_, _], _ => rfl⟩
theorem D_l_program_of (e : Hev w K mg base h) : Dn (S0 w K mg base) (G0 K) 10 "_law_program" ["_law_plan_here"] (C_l_program (G0 K)) := by
  obtain ⟨fd, F⟩ := e.c.t.d.def_ 44 (d := d_l_program) rfl
  exact ⟨He.ga K "_law_program", fd, fn_a (ps := ["_law_plan_here"]) (C := C_l_program (G0 K)) F (C8.fnScope_by (by decide +kernel)) (by intro ens L post h; repeat (first | exact congrArg List.length h.1 | (obtain ⟨_, h⟩ := h))) (fun cdv A outer s H E hr hc => w_l_program (bi_of e) (kp_of e) (kw_of e) hr (D_Program_init_of e)) (law_l_program (G0 K)), He.glo_ok e.X e.g (e.c.t.d.fact 40 (f := .glo "_law_program") rfl), F.kp, F.bindsN fun _ _ _ _ _ _ us hl => match us, hl with | [_], _ => rfl⟩
theorem D_l_idle_of (e : Hev w K mg base h) : Dn (S0 w K mg base) (G0 K) 1 "_law_idle" ["_law_plan_here", "_law_cell_here"] (C_l_idle (G0 K)) := by
  obtain ⟨fd, F⟩ := e.c.t.d.def_ 45 (d := d_l_idle) rfl
  exact ⟨He.ga K "_law_idle", fd, fn_a (ps := ["_law_plan_here", "_law_cell_here"]) (C := C_l_idle (G0 K)) F (C8.fnScope_by (by decide +kernel)) (by intro ens L post h; repeat (first | exact congrArg List.length h.1 | (obtain ⟨_, h⟩ := h))) (fun cdv A outer s H E hr hc => w_l_idle (bi_of e) (kp_of e) (kw_of e) hr) (law_l_idle (G0 K)), He.glo_ok e.X e.g (e.c.t.d.fact 41 (f := .glo "_law_idle") rfl), F.kp, F.bindsN fun _ _ _ _ _ _ us hl => match us, hl with | [_, _], _ => rfl⟩
theorem D_l_table_of (e : Hev w K mg base h) : Dn (S0 w K mg base) (G0 K) 2 "_law_table" ["_law_plan_here"] (C_l_table (G0 K)) := by
  obtain ⟨fd, F⟩ := e.c.t.d.def_ 46 (d := d_l_table) rfl
  exact ⟨He.ga K "_law_table", fd, fn_a (ps := ["_law_plan_here"]) (C := C_l_table (G0 K)) F (C8.fnScope_by (by decide +kernel)) (by intro ens L post h; repeat (first | exact congrArg List.length h.1 | (obtain ⟨_, h⟩ := h))) (fun cdv A outer s H E hr hc => w_l_table (bi_of e) (kp_of e) (kw_of e) hr (D_l_cells_of e) (D_l_idle_of e)) (law_l_table (G0 K)), He.glo_ok e.X e.g (e.c.t.d.fact 42 (f := .glo "_law_table") rfl), F.kp, F.bindsN fun _ _ _ _ _ _ us hl => match us, hl with | [_], _ => rfl⟩
theorem D_l_index_of (e : Hev w K mg base h) : Dn (S0 w K mg base) (G0 K) 1 "_law_index" ["_law_words", "_law_word"] (C_l_index (G0 K)) := by
  obtain ⟨fd, F⟩ := e.c.t.d.def_ 47 (d := d_l_index) rfl
  exact ⟨He.ga K "_law_index", fd, fn_a (ps := ["_law_words", "_law_word"]) (C := C_l_index (G0 K)) F (C8.fnScope_by (by decide +kernel)) (by intro ens L post h; repeat (first | exact congrArg List.length h.1 | (obtain ⟨_, h⟩ := h))) (fun cdv A outer s H E hr hc => w_l_index (bi_of e) (kp_of e) (kw_of e) hr) (law_l_index (G0 K)), He.glo_ok e.X e.g (e.c.t.d.fact 43 (f := .glo "_law_index") rfl), F.kp, F.bindsN fun _ _ _ _ _ _ us hl => match us, hl with | [_, _], _ => rfl⟩
theorem D_l_position_of (e : Hev w K mg base h) : Dn (S0 w K mg base) (G0 K) 1 "_law_position" ["_law_number", "_law_held"] (C_l_position (G0 K)) := by
  obtain ⟨fd, F⟩ := e.c.t.d.def_ 48 (d := d_l_position) rfl
  exact ⟨He.ga K "_law_position", fd, fn_a (ps := ["_law_number", "_law_held"]) (C := C_l_position (G0 K)) F (C8.fnScope_by (by decide +kernel)) (by intro ens L post h; repeat (first | exact congrArg List.length h.1 | (obtain ⟨_, h⟩ := h))) (fun cdv A outer s H E hr hc => w_l_position (bi_of e) (kp_of e) (kw_of e) hr) (law_l_position (G0 K)), He.glo_ok e.X e.g (e.c.t.d.fact 44 (f := .glo "_law_position") rfl), F.kp, F.bindsN fun _ _ _ _ _ _ us hl => match us, hl with | [_, _], _ => rfl⟩
theorem D_l_step_of (e : Hev w K mg base h) : Dn (S0 w K mg base) (G0 K) 2 "_law_step" ["_law_plan_here", "_law_table_here", "_law_place", "_law_event_here"] (C_l_step (G0 K)) := by
  obtain ⟨fd, F⟩ := e.c.t.d.def_ 49 (d := d_l_step) rfl
  exact ⟨He.ga K "_law_step", fd, fn_a (ps := ["_law_plan_here", "_law_table_here", "_law_place", "_law_event_here"]) (C := C_l_step (G0 K)) F (C8.fnScope_by (by decide +kernel)) (by intro ens L post h; repeat (first | exact congrArg List.length h.1 | (obtain ⟨_, h⟩ := h))) (fun cdv A outer s H E hr hc => w_l_step (bi_of e) (kp_of e) (kw_of e) hr (D_l_index_of e) (D_l_position_of e)) (law_l_step (G0 K)), He.glo_ok e.X e.g (e.c.t.d.fact 45 (f := .glo "_law_step") rfl), F.kp, F.bindsN fun _ _ _ _ _ _ us hl => match us, hl with | [_, _, _, _], _ => rfl⟩
theorem D_l_run_of (e : Hev w K mg base h) : Dn (S0 w K mg base) (G0 K) 3 "_law_run" ["_law_plan_here", "_law_events"] (C_l_run (G0 K)) := by
  obtain ⟨fd, F⟩ := e.c.t.d.def_ 50 (d := d_l_run) rfl
  exact ⟨He.ga K "_law_run", fd, fn_a (ps := ["_law_plan_here", "_law_events"]) (C := C_l_run (G0 K)) F (C8.fnScope_by (by decide +kernel)) (by intro ens L post h; repeat (first | exact congrArg List.length h.1 | (obtain ⟨_, h⟩ := h))) (fun cdv A outer s H E hr hc => w_l_run (bi_of e) (kp_of e) (kw_of e) hr (D_l_step_of e) (D_l_table_of e)) (law_l_run (G0 K)), He.glo_ok e.X e.g (e.c.t.d.fact 46 (f := .glo "_law_run") rfl), F.kp, F.bindsN fun _ _ _ _ _ _ us hl => match us, hl with | [_, _], _ => rfl⟩
theorem D_l_input_of (e : Hev w K mg base h) : Dn (S0 w K mg base) (G0 K) 3 "_law_input" ["_law_source_here", "_law_plan_here", "_law_size"] (C_l_input (G0 K)) := by
  obtain ⟨fd, F⟩ := e.c.t.d.def_ 51 (d := d_l_input) rfl
  exact ⟨He.ga K "_law_input", fd, fn_a (ps := ["_law_source_here", "_law_plan_here", "_law_size"]) (C := C_l_input (G0 K)) F (C8.fnScope_by (by decide +kernel)) (by intro ens L post h; repeat (first | exact congrArg List.length h.1 | (obtain ⟨_, h⟩ := h))) (fun cdv A outer s H E hr hc => w_l_input (bi_of e) (kp_of e) (kw_of e) hr (D_l_pick_of e) (D_l_worded_of e)) (law_l_input (G0 K)), He.glo_ok e.X e.g (e.c.t.d.fact 47 (f := .glo "_law_input") rfl), F.kp, F.bindsN fun _ _ _ _ _ _ us hl => match us, hl with | [_, _, _], _ => rfl⟩
theorem D_l_model_of (e : Hev w K mg base h) : Dn (S0 w K mg base) (G0 K) 1 "_law_model" ["_law_log"] (C_l_model (G0 K)) := by
  obtain ⟨fd, F⟩ := e.c.t.d.def_ 53 (d := d_l_model) rfl
  exact ⟨He.ga K "_law_model", fd, fn_a (ps := ["_law_log"]) (C := C_l_model (G0 K)) F (C8.fnScope_by (by decide +kernel)) (by intro ens L post h; repeat (first | exact congrArg List.length h.1 | (obtain ⟨_, h⟩ := h))) (fun cdv A outer s H E hr hc => w_l_model (bi_of e) (kp_of e) (kw_of e) hr) (law_l_model (G0 K)), He.glo_ok e.X e.g (e.c.t.d.fact 49 (f := .glo "_law_model") rfl), F.kp, F.bindsN fun _ _ _ _ _ _ us hl => match us, hl with | [_], _ => rfl⟩
theorem D_l_with_of (e : Hev w K mg base h) : Dn (S0 w K mg base) (G0 K) 1 "_law_with" ["_law_plan_here", "_law_edits", "_law_numbers"] (C_l_with (G0 K)) := by
  obtain ⟨fd, F⟩ := e.c.t.d.def_ 54 (d := d_l_with) rfl
  exact ⟨He.ga K "_law_with", fd, fn_a (ps := ["_law_plan_here", "_law_edits", "_law_numbers"]) (C := C_l_with (G0 K)) F (C8.fnScope_by (by decide +kernel)) (by intro ens L post h; repeat (first | exact congrArg List.length h.1 | (obtain ⟨_, h⟩ := h))) (fun cdv A outer s H E hr hc => w_l_with (bi_of e) (kp_of e) (kw_of e) hr) (law_l_with (G0 K)), He.glo_ok e.X e.g (e.c.t.d.fact 50 (f := .glo "_law_with") rfl), F.kp, F.bindsN fun _ _ _ _ _ _ us hl => match us, hl with | [_, _, _], _ => rfl⟩
theorem D_l_now_of (e : Hev w K mg base h) : Dn (S0 w K mg base) (G0 K) 2 "_law_now" ["_law_plan_here", "_law_log"] (C_l_now (G0 K)) := by
  obtain ⟨fd, F⟩ := e.c.t.d.def_ 55 (d := d_l_now) rfl
  exact ⟨He.ga K "_law_now", fd, fn_a (ps := ["_law_plan_here", "_law_log"]) (C := C_l_now (G0 K)) F (C8.fnScope_by (by decide +kernel)) (by intro ens L post h; repeat (first | exact congrArg List.length h.1 | (obtain ⟨_, h⟩ := h))) (fun cdv A outer s H E hr hc => w_l_now (bi_of e) (kp_of e) (kw_of e) hr (D_l_model_of e) (D_l_with_of e)) (law_l_now (G0 K)), He.glo_ok e.X e.g (e.c.t.d.fact 51 (f := .glo "_law_now") rfl), F.kp, F.bindsN fun _ _ _ _ _ _ us hl => match us, hl with | [_, _], _ => rfl⟩
theorem D_l_event_of (e : Hev w K mg base h) : Dn (S0 w K mg base) (G0 K) 5 "_law_event" ["_law_source_here", "_law_plan_here", "_law_log"] (C_l_event (G0 K)) := by
  obtain ⟨fd, F⟩ := e.c.t.d.def_ 56 (d := d_l_event) rfl
  exact ⟨He.ga K "_law_event", fd, fn_a (ps := ["_law_source_here", "_law_plan_here", "_law_log"]) (C := C_l_event (G0 K)) F (C8.fnScope_by (by decide +kernel)) (by intro ens L post h; repeat (first | exact congrArg List.length h.1 | (obtain ⟨_, h⟩ := h))) (fun cdv A outer s H E hr hc => w_l_event (bi_of e) (kp_of e) (kw_of e) hr (D_l_cells_of e) (D_l_drawn_row_of e) (D_l_input_of e) (D_l_model_of e) (D_l_now_of e) (D_l_pick_of e) (D_l_run_of e) (D_l_table_of e) (D_l_worded_of e)) (law_l_event (G0 K)), He.glo_ok e.X e.g (e.c.t.d.fact 52 (f := .glo "_law_event") rfl), F.kp, F.bindsN fun _ _ _ _ _ _ us hl => match us, hl with | [_, _, _], _ => rfl⟩
theorem D_l_take_of (e : Hev w K mg base h) : Dn (S0 w K mg base) (G0 K) 10 "_law_take" ["_law_shop_here", "_law_event_here"] (C_l_take (G0 K)) := by
  obtain ⟨fd, F⟩ := e.c.t.d.def_ 57 (d := d_l_take) rfl
  exact ⟨He.ga K "_law_take", fd, fn_a (ps := ["_law_shop_here", "_law_event_here"]) (C := C_l_take (G0 K)) F (C8.fnScope_by (by decide +kernel)) (by intro ens L post h; repeat (first | exact congrArg List.length h.1 | (obtain ⟨_, h⟩ := h))) (fun cdv A outer s H E hr hc => w_l_take (bi_of e) (kp_of e) (kw_of e) hr (D_Workshop_edit_of e) (D_Workshop_redo_of e) (D_Workshop_test_of e) (D_Workshop_undo_of e)) (law_l_take (G0 K)), He.glo_ok e.X e.g (e.c.t.d.fact 53 (f := .glo "_law_take") rfl), F.kp, F.bindsN fun _ _ _ _ _ _ us hl => match us, hl with | [_, _], _ => rfl⟩
theorem D_l_busy_of (e : Hev w K mg base h) : Dn (S0 w K mg base) (G0 K) 11 "_law_busy" ["_law_source_here", "_law_plan_here", "_law_shop_here", "_law_log", "_law_count"] (C_l_busy (G0 K)) := by
  obtain ⟨fd, F⟩ := e.c.t.d.def_ 58 (d := d_l_busy) rfl
  exact ⟨He.ga K "_law_busy", fd, fn_a (ps := ["_law_source_here", "_law_plan_here", "_law_shop_here", "_law_log", "_law_count"]) (C := C_l_busy (G0 K)) F (C8.fnScope_by (by decide +kernel)) (by intro ens L post h; repeat (first | exact congrArg List.length h.1 | (obtain ⟨_, h⟩ := h))) (fun cdv A outer s H E hr hc => w_l_busy (bi_of e) (kp_of e) (kw_of e) hr (D_l_event_of e) (D_l_take_of e)) (law_l_busy (G0 K)), He.glo_ok e.X e.g (e.c.t.d.fact 54 (f := .glo "_law_busy") rfl), F.kp, F.bindsN fun _ _ _ _ _ _ us hl => match us, hl with | [_, _, _, _, _], _ => rfl⟩
theorem D_l_shop_of (e : Hev w K mg base h) : Dn (S0 w K mg base) (G0 K) 12 "_law_shop" ["_law_source_here", "_law_plan_here", "_law_count"] (C_l_shop (G0 K)) := by
  obtain ⟨fd, F⟩ := e.c.t.d.def_ 52 (d := d_l_shop) rfl
  exact ⟨He.ga K "_law_shop", fd, fn_a (ps := ["_law_source_here", "_law_plan_here", "_law_count"]) (C := C_l_shop (G0 K)) F (C8.fnScope_by (by decide +kernel)) (by intro ens L post h; repeat (first | exact congrArg List.length h.1 | (obtain ⟨_, h⟩ := h))) (fun cdv A outer s H E hr hc => w_l_shop (bi_of e) (kp_of e) (kw_of e) hr (D_Workshop_init_of e) (D_l_busy_of e) (D_l_program_of e)) (law_l_shop (G0 K)), He.glo_ok e.X e.g (e.c.t.d.fact 48 (f := .glo "_law_shop") rfl), F.kp, F.bindsN fun _ _ _ _ _ _ us hl => match us, hl with | [_, _, _], _ => rfl⟩
theorem D_l_other_row_of (e : Hev w K mg base h) : Dn (S0 w K mg base) (G0 K) 1 "_law_other_row" ["_law_plan_here", "_law_row"] (C_l_other_row (G0 K)) := by
  obtain ⟨fd, F⟩ := e.c.t.d.def_ 59 (d := d_l_other_row) rfl
  exact ⟨He.ga K "_law_other_row", fd, fn_a (ps := ["_law_plan_here", "_law_row"]) (C := C_l_other_row (G0 K)) F (C8.fnScope_by (by decide +kernel)) (by intro ens L post h; repeat (first | exact congrArg List.length h.1 | (obtain ⟨_, h⟩ := h))) (fun cdv A outer s H E hr hc => w_l_other_row (bi_of e) (kp_of e) (kw_of e) hr) (law_l_other_row (G0 K)), He.glo_ok e.X e.g (e.c.t.d.fact 55 (f := .glo "_law_other_row") rfl), F.kp, F.bindsN fun _ _ _ _ _ _ us hl => match us, hl with | [_, _], _ => rfl⟩
theorem D_l_changed_of (e : Hev w K mg base h) : Dn (S0 w K mg base) (G0 K) 3 "_law_changed" ["_law_first", "_law_second"] (C_l_changed (G0 K)) := by
  obtain ⟨fd, F⟩ := e.c.t.d.def_ 60 (d := d_l_changed) rfl
  exact ⟨He.ga K "_law_changed", fd, fn_a (ps := ["_law_first", "_law_second"]) (C := C_l_changed (G0 K)) F (C8.fnScope_by (by decide +kernel)) (by intro ens L post h; repeat (first | exact congrArg List.length h.1 | (obtain ⟨_, h⟩ := h))) (fun cdv A outer s H E hr hc => w_l_changed (bi_of e) (kp_of e) (kw_of e) hr (D_cells_of e) (D_row_at_of e)) (law_l_changed (G0 K)), He.glo_ok e.X e.g (e.c.t.d.fact 56 (f := .glo "_law_changed") rfl), F.kp, F.bindsN fun _ _ _ _ _ _ us hl => match us, hl with | [_, _], _ => rfl⟩
theorem fn_law (e : Hev w K mg base h) {fd : FuncData} (F : FunD K "law" "law" (defArgs s_law) (defBody s_law) (defScope s_law) [] [] (He.ga K "law") fd) : FnOk PySem.Challenge.pw_missesnone_k26_whole_nobody_can_tell_wit w K mg base CX0 14 (He.ga K "law") fd ["_law_script"] (spA K (G0 K) (C_law (G0 K))) :=
  fn_a (ps := ["_law_script"]) (C := C_law (G0 K)) F (C8.fnScope_by (by decide +kernel)) (by intro ens L post h; repeat (first | exact congrArg List.length h.1 | (obtain ⟨_, h⟩ := h))) (fun cdv A outer s H E hr hc => w_law (bi_of e) (kp_of e) (kw_of e) hr (D_Program_init_of e) (D_Workshop_program_of e) (D_Workshop_stale_of e) (D_Workshop_tests_of e) (D_Workshop_verdicts_of e) (D_l_busy_of e) (D_l_cell_of e) (D_l_changed_of e) (D_l_drawn_row_of e) (D_l_other_row_of e) (D_l_pick_of e) (D_l_plan_of e) (D_l_shop_of e) (D_l_source_of e) (D_cells_of e) (D_row_at_of e) (D_run_of e)) (law_law (G0 K))
end
theorem sp_law {K : PySem.W.Frag} {H : Hp} {a : Addr} {ns : List Int} (hT : ∀ P ∈ (G0 K).T, H P = some (.tbl #[])) (hS : SqL K H a (ns.map V.int)) : spA K (G0 K) (C_law (G0 K)) [.ref a] H (fun v _ => v = .bl true) fun _ _ _ => False := by
  classical
  refine ⟨fun b => if b ∈ (G0 K).T then none else H b, [], [.scr ns], [], fun en _ => en = .dat (.bool true), .cons ⟨a, rfl, ?_⟩ .nil, ⟨fun b u hb => ?_, fun c hc => absurd hc List.not_mem_nil, List.nodup_nil, fun P hP => ⟨⟨#[], hT P hP, ?_⟩, if_pos hP, List.not_mem_nil⟩⟩, ⟨ns, rfl, rfl, fun _ => rfl⟩, fun v Hs2 H2 en L2 p2 e2 hh2 r2 => ?_⟩
  · rcases hS with hS | hS
    · left
      have ha : a ∉ (G0 K).T := fun hm => by
        rcases hS with h | ⟨o, h⟩
        · rw [hT a hm] at h
          cases h
        · rw [hT a hm] at h
          cases h
      show Rd (fun b => if b ∈ (G0 K).T then none else H b) a _
      unfold Rd
      simp only [if_neg ha]
      exact hS
    · exact .inr hS
  · by_cases hm : b ∈ (G0 K).T
    · simp only [if_pos hm] at hb
      cases hb
    · simp only [if_neg hm] at hb
      exact hb
  · trivial
  · subst p2
    exact vr_bl r2
end Mn
open PySem PySem.W PySem.Calls PyProof.Rows
theorem PySem.Challenge.cw_missesnone_k26_whole_nobody_can_tell_wit_holds : PySem.Challenge.rw_missesnone_k26_whole_nobody_can_tell_wit.Holds := by
  w_on; o_law
  refine HandSHeadRun.head_any (r := OpenLaw.row PySem.Challenge.rw_missesnone_k26_whole_nobody_can_tell_wit) (q := view (OpenLaw.row PySem.Challenge.rw_missesnone_k26_whole_nobody_can_tell_wit).prog [62]) (H := Mn.hk) (ob := Mn.ob) (M := 20000) (loose := Mn.loose) (d := HandSHeadRun.topDef (OpenLaw.row PySem.Challenge.rw_missesnone_k26_whole_nobody_can_tell_wit).prog 62) (kwd := []) Mn.ob_eq
    (by kernel_rfl) (fun s => by kernel_rfl) Mn.run (by kernel_rfl) (by kernel_rfl) (by kernel_rfl) (by rfl) (by first | assumption | decide +kernel) (by decide +kernel) ⟨rfl, rfl, rfl, rfl, rfl, by decide +kernel⟩ ?hw ?hc
  case hw => w_witness2
  case hc =>
    refine LamX.walk_ofTsE (l := PySem.Challenge.rw_missesnone_k26_whole_nobody_can_tell_wit) (n := 63) (k := 14) (x := "_law_script") (CX := fun _ => L2.CX0) rfl (by decide) (by kernel_rfl) ⟨rfl, by decide, by decide⟩ ?F (fun _ _ _ _ _ z => z)
    intro w mg fa h Y G hmg0
    obtain ⟨K, KX, c, d⟩ := Y
    have hmg : mg ("law" : PySem.Str) = some (.ref fa) := by
      have e : (HandSHeadRun.topDef (OpenLaw.row PySem.Challenge.rw_missesnone_k26_whole_nobody_can_tell_wit).prog 62).name = ("law" : PySem.Str) := by kernel_rfl
      rw [← e]
      exact hmg0
    obtain ⟨fd, F⟩ := c.t.d.def_ 61 (d := Mn.d_law) rfl
    have ef := hmg.symm.trans (He.glo_ok KX G (c.t.d.fact 57 (f := .glo "law") rfl))
    cases ef
    have b := L2.FunD.bindsA (ps := ["_law_script"]) F fun _ _ _ _ _ _ us hl => match us, hl with | [_], _ => rfl
    refine ⟨K, KX, fd, Mn.tf.map (He.cT K), Mn.spA K (Mn.G0 K) (Mn.C_law (Mn.G0 K)), ?_, ?_, ?_, fun s v => b s [v] rfl, ?_, ?_⟩
    · intro p hp
      obtain ⟨q, hq, rfl⟩ := List.mem_map.mp hp
      exact c.empty q hq
    · intro p hp
      obtain ⟨q, hq, rfl⟩ := List.mem_map.mp hp
      exact c.out q hq
    · intro p hp
      obtain ⟨q, hq, rfl⟩ := List.mem_map.mp hp
      exact PySem.W.codeHd_of_K KX (c.hd q hq)
    · intro H a ns hl hb hT hS
      refine Mn.sp_law (fun P hP => ?_) hS
      obtain ⟨q, hq, rfl⟩ := List.mem_map.mp hP
      exact hT _ (List.mem_map_of_mem hq)
    · intro base KB GB TB
      exact Mn.fn_law ⟨KB, GB, c, d, fun p hp => ⟨(TB _ (List.mem_map_of_mem hp)).code, (TB _ (List.mem_map_of_mem hp)).bm, (TB _ (List.mem_map_of_mem hp)).gP⟩⟩ F
