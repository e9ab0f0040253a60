import PyProof.Rows.All
import Wide.All
import OpenK.AllK
import Wide.FinOn
import HandS.ForMost
import HandS.Slots
import HandS.SlotsOwn
import HandS.Property
import HandS.DictComp
import HandS.Deep
import HandS.TupAny
import HandS.Remove
import HandS.Zip
import HandS.SetKeys
import HandS.SortOrd
import HandS.Set
import HandS.Strs
import HandS.IsInst
import HandS.Conv
import HandS.Flow
import HandS.Style
import HandS.Wide
import HandS.WideBits
import HandS.Walk
import HandS.Small
import HandS.Head0
import HandS.Head1
import HandS.Head2
import HandS.HeadEnd
import HandS.HeadHook1
import HandS.HeadHook2
import HandS.HeadNt
import HandS.EndBits
import PySem.Challenge.RW_layernets_k65_whole_one_table_for_all_in
import HandS.Star
import PyProof.Rows.SeqMore
import HandS.SortInts
import PyProof.Rows.SortKeyStr
import HandS.SetFor
import HandS.SetTxt0
set_option Elab.async false
set_option linter.all false
set_option maxRecDepth 100000
/-! A layer over HandS: immutable data by PyData in a part of the heap that never changes (F), the few mutable objects in a store (a list of addresses and contents). -/
namespace LN
open PySem PySem.Spec PyProof.Rows L2 SlX

abbrev Frg := PySem.W.Frag
/-- what a passing tuple of any kind may hold -/
inductive Vb where
  | d (x : PyData)
  | m (a : Addr)
  | o (C : Addr) (fs : List PyData)
/-- a value: data; a mutable object; a frozen instance with slots; a passing tuple of data; a passing tuple of any kind -/
inductive Va where
  | d (x : PyData)
  | m (a : Addr)
  | o (C : Addr) (fs : List PyData)
  | w (ds : List PyData)
  | p (bs : List Vb)
def Vb.v : Vb → Va
  | .d x => .d x
  | .m a => .m a
  | .o C fs => .o C fs
/-- a mutable object's content -/
inductive MO where
  | lst (xs : List Va)
  | dK (kvs : List (Str × Va))
  | ins (C : Addr) (fs : List (Str × Va))
  | sl (C dx : Addr) (vs : List (Option Va))
abbrev Sto := List (Addr × MO)
abbrev AEnv := List (Option Va)

/-- a tuple whose object is known to have no dict -/
def SqS (K : Frg) (F : Hp) (a : Addr) (xs : List V) : Prop := (∃ o : Obj, F a = some (.frz o (.tup xs)) ∧ o.cls = .type "tuple" ∧ o.dict = none) ∨
  ∃ (o : Obj) (its : Array Value) (n : Nat), K.lookup a = some o ∧ o.cls = .type "tuple" ∧ o.dict = none ∧ o.data = .seq its n ∧ its.size ≤ sizeLine ∧ Vals xs its.toList
theorem SqS.sqt {K : Frg} {F : Hp} {a : Addr} {xs : List V} (h : SqS K F a xs) : SqT K F a xs := by
  rcases h with ⟨o, h, _⟩ | ⟨o, its, n, h1, h2, _, h3⟩
  · exact .inl (.inr ⟨o, h⟩)
  · exact .inr ⟨o, its, n, h1, h2, h3⟩
mutual
inductive Ds (K : Frg) (F : Hp) : V → PyData → Prop
  | non : Ds K F .non .none
  | bl (b : Bool) : Ds K F (.bl b) (.bool b)
  | int (i : Int) : Ds K F (.int i) (.int i)
  | str (x : Str) : Ds K F (.str x) (.str x)
  | lst {a : Addr} {xs : List V} {ds : List PyData} : SqL K F a xs → DsAll K F xs ds → Ds K F (.ref a) (.list ds)
  | tup {a : Addr} {xs : List V} {ds : List PyData} : SqS K F a xs → DsAll K F xs ds → Ds K F (.ref a) (.tuple ds)
inductive DsAll (K : Frg) (F : Hp) : List V → List PyData → Prop
  | nil : DsAll K F [] []
  | cons {v : V} {vs : List V} {d : PyData} {ds : List PyData} : Ds K F v d → DsAll K F vs ds → DsAll K F (v :: vs) (d :: ds)
end
mutual
theorem ds_dp {K : Frg} {F : Hp} : ∀ (d : PyData) (v : V), Ds K F v d → Dp K F v d
  | .none, _, h => by cases h; exact .non
  | .bool b, _, h => by cases h; exact .bl b
  | .int i, _, h => by cases h; exact .int i
  | .str x, _, h => by cases h; exact .str x
  | .list ds, _, h => by
    cases h with
    | lst hs ha => exact .lst hs (dss_dp ds _ ha)
  | .tuple ds, _, h => by
    cases h with
    | tup hs ha => exact .tup hs.sqt (dss_dp ds _ ha)
  | .dict _, _, h => by cases h
theorem dss_dp {K : Frg} {F : Hp} : ∀ (ds : List PyData) (vs : List V), DsAll K F vs ds → DpAll K F vs ds
  | [], _, h => by cases h; exact .nil
  | d :: ds, _, h => by
    cases h with
    | cons h1 h2 => exact .cons (ds_dp d _ h1) (dss_dp ds _ h2)
end
theorem Same.sqs {K : Frg} {F F' : Hp} {a : Addr} {xs : List V} (e : Same F F') (h : SqS K F a xs) : SqS K F' a xs := by
  rcases h with ⟨o, h, r⟩ | h
  · exact .inl ⟨o, e _ _ h, r⟩
  · exact .inr h
section
variable {K : Frg} {F F' H H' : Hp}
theorem Same.sqt {a : Addr} {xs : List V} (e : Same F F') (h : SqT K F a xs) : SqT K F' a xs := by
  rcases h with (h | ⟨o, h⟩) | h
  · exact .inl (.inl (e _ _ h))
  · exact .inl (.inr ⟨o, e _ _ h⟩)
  · exact .inr h
mutual
theorem dp_mono (e : Same F F') : ∀ (d : PyData) (v : V), Ds K F v d → Ds K F' v d
  | .none, _, h => by cases h; exact .non
  | .bool b, _, h => by cases h; exact .bl b
  | .int i, _, h => by cases h; exact .int i
  | .str x, _, h => by cases h; exact .str x
  | .list ds, _, h => by
    cases h with
    | lst hs ha => exact .lst (e.seq hs) (dps_mono e ds _ ha)
  | .tuple ds, _, h => by
    cases h with
    | tup hs ha => exact .tup (Same.sqs e hs) (dps_mono e ds _ ha)
  | .dict _, _, h => by cases h
theorem dps_mono (e : Same F F') : ∀ (ds : List PyData) (vs : List V), DsAll K F vs ds → DsAll K F' vs ds
  | [], _, h => by cases h; exact .nil
  | d :: ds, _, h => by
    cases h with
    | cons h1 h2 => exact .cons (dp_mono e d _ h1) (dps_mono e ds _ h2)
end
theorem dps_len : ∀ {ds : List PyData} {vs : List V}, DsAll K F vs ds → vs.length = ds.length
  | [], _, h => by cases h; rfl
  | d :: ds, _, h => by
    cases h with
    | cons h1 h2 => simp only [List.length_cons]; rw [dps_len h2]
theorem dps_get : ∀ {ds : List PyData} {vs : List V} {i : Nat} {d : PyData}, DsAll K F vs ds → ds[i]? = some d → ∃ v, vs[i]? = some v ∧ Ds K F v d
  | [], _, i, d, h, e => by simp at e
  | x :: ds, _, 0, d, h, e => by
    cases h with
    | cons h1 h2 =>
      have : x = d := by simpa using e
      subst this
      exact ⟨_, rfl, h1⟩
  | x :: ds, _, i + 1, d, h, e => by
    cases h with
    | cons h1 h2 =>
      obtain ⟨v, a, b⟩ := dps_get (i := i) h2 (by simpa using e)
      exact ⟨v, by simpa using a, b⟩
theorem dps_get' : ∀ {ds : List PyData} {vs : List V} {i : Nat} {v : V}, DsAll K F vs ds → vs[i]? = some v → ∃ d, ds[i]? = some d ∧ Ds K F v d
  | [], _, i, v, h, e => by cases h; simp at e
  | x :: ds, _, 0, v, h, e => by
    cases h with
    | cons h1 h2 =>
      rename_i v0 vs0
      have : v0 = v := by simpa using e
      subst this
      exact ⟨_, rfl, h1⟩
  | x :: ds, _, i + 1, v, h, e => by
    cases h with
    | cons h1 h2 =>
      obtain ⟨d, a, b⟩ := dps_get' (i := i) h2 (by simpa using e)
      exact ⟨d, by simpa using a, b⟩
theorem dps_app : ∀ {ds es : List PyData} {vs ws : List V}, DsAll K F vs ds → DsAll K F ws es → DsAll K F (vs ++ ws) (ds ++ es)
  | [], _, _, _, h, k => by cases h; exact k
  | x :: ds, es, _, ws, h, k => by
    cases h with
    | cons h1 h2 => exact .cons h1 (dps_app h2 k)
theorem dps_take : ∀ {ds : List PyData} {vs : List V} (n : Nat), DsAll K F vs ds → DsAll K F (vs.take n) (ds.take n)
  | _, _, 0, h => by simp only [List.take_zero]; exact .nil
  | [], _, n + 1, h => by cases h; exact .nil
  | x :: ds, _, n + 1, h => by
    cases h with
    | cons h1 h2 => exact .cons h1 (dps_take n h2)
theorem dps_drop : ∀ {ds : List PyData} {vs : List V} (n : Nat), DsAll K F vs ds → DsAll K F (vs.drop n) (ds.drop n)
  | _, _, 0, h => h
  | [], _, n + 1, h => by cases h; exact .nil
  | x :: ds, _, n + 1, h => by
    cases h with
    | cons h1 h2 => exact dps_drop n h2
end

theorem slt_mono {F F' : Hp} {a C dx : Addr} {vs : List (Option V)} (e : Same F F') (h : Slt F a C dx vs) : Slt F' a C dx vs := by
  rcases h with ⟨h1, h2⟩ | ⟨h1, h2⟩
  · exact .inl ⟨e _ _ h1, h2⟩
  · exact .inr ⟨e _ _ h1, e _ _ h2⟩

def RepB (K : Frg) (F : Hp) (v : V) : Vb → Prop
  | .d x => Ds K F v x
  | .m a => v = .ref a
  | .o C fs => ∃ a dx vs, v = .ref a ∧ Slt F a C dx vs ∧ ∀ (i : Nat) (x : PyData), fs[i]? = some x → ∃ u, vs[i]? = some (some u) ∧ Ds K F u x
theorem repB_mono {K : Frg} {F F' : Hp} {v : V} (e : Same F F') : ∀ {x : Vb}, RepB K F v x → RepB K F' v x
  | .d x, h => dp_mono e x v h
  | .m a, h => h
  | .o C fs, ⟨a, dx, vs, h1, h2, h3⟩ => ⟨a, dx, vs, h1, slt_mono e h2, fun i x hx => let ⟨u, p, q⟩ := h3 i x hx; ⟨u, p, dp_mono e x u q⟩⟩
/-- v is x, the data lying in F -/
def Rep (K : Frg) (F : Hp) (v : V) : Va → Prop
  | .d x => Ds K F v x
  | .m a => v = .ref a
  | .w ds => ∃ a xs, v = .ref a ∧ SqT K F a xs ∧ DsAll K F xs ds
  | .p bs => ∃ a xs, v = .ref a ∧ SqT K F a xs ∧ Paired (RepB K F) xs bs
  | .o C fs => ∃ a dx vs, v = .ref a ∧ Slt F a C dx vs ∧ ∀ (i : Nat) (x : PyData), fs[i]? = some x → ∃ u, vs[i]? = some (some u) ∧ Ds K F u x
theorem rep_mono {K : Frg} {F F' : Hp} {v : V} (e : Same F F') : ∀ {x : Va}, Rep K F v x → Rep K F' v x
  | .d x, h => dp_mono e x v h
  | .m a, h => h
  | .w ds, ⟨a, xs, h1, h2, h3⟩ => ⟨a, xs, h1, Same.sqt e h2, dps_mono e ds xs h3⟩
  | .p bs, ⟨a, xs, h1, h2, h3⟩ => ⟨a, xs, h1, Same.sqt e h2, L2.Paired.mapP h3 fun _ _ => repB_mono e⟩
  | .o C fs, ⟨a, dx, vs, h1, h2, h3⟩ => ⟨a, dx, vs, h1, slt_mono e h2, fun i x hx => let ⟨u, p, q⟩ := h3 i x hx; ⟨u, p, dp_mono e x u q⟩⟩
/-- a slot: what is not told may be anything -/
def RepO (K : Frg) (F : Hp) (v : Option V) : Option Va → Prop
  | none => True
  | some x => ∃ u, v = some u ∧ Rep K F u x
theorem repO_mono {K : Frg} {F F' : Hp} {v : Option V} (e : Same F F') : ∀ {x : Option Va}, RepO K F v x → RepO K F' v x
  | none, _ => trivial
  | some x, ⟨u, h1, h2⟩ => ⟨u, h1, rep_mono e h2⟩
def RepM (K : Frg) (F H : Hp) (a : Addr) : MO → Prop
  | .lst xs => ∃ vs, H a = some (.lst vs) ∧ Paired (Rep K F) vs xs
  | .dK kvs => ∃ ks, H a = some (.dK ks) ∧ Paired (fun p q => p.1 = Sum.inr q.1 ∧ Rep K F p.2 q.2) ks kvs
  | .ins C fs => ∃ dx vs, H a = some (.ins C dx vs) ∧ Paired (fun p q => p.1 = q.1 ∧ Rep K F p.2 q.2) vs fs
  | .sl C dx vs => ∃ us, Slt H a C dx us ∧ (H dx = some (.own a) ∨ H dx = some (.xd [])) ∧ ∀ (i : Nat) (x : Va), vs[i]? = some (some x) → ∃ u, us[i]? = some (some u) ∧ Rep K F u x
/-- the addresses that an object is at -/
def foot : Addr × MO → List Addr
  | (a, .lst _) => [a]
  | (a, .dK _) => [a]
  | (a, .ins _ _) => [a]
  | (a, .sl _ dx _) => [a, dx]
theorem foot_self (p : Addr × MO) : p.1 ∈ foot p := by
  obtain ⟨a, o⟩ := p
  cases o <;> exact List.mem_cons_self

section
variable {K : Frg} {F F' H H' : Hp}
theorem reps_mono (e : Same F F') {vs : List V} {xs : List Va} (h : Paired (Rep K F) vs xs) : Paired (Rep K F') vs xs := L2.Paired.mapP h fun _ _ => rep_mono e
/-- what an object's description leans on -/
theorem repM_stay {a : Addr} {o : MO} (e : Same F F') (h : RepM K F H a o) (ha : ∀ b ∈ foot (a, o), H' b = H b) : RepM K F' H' a o := by
  cases o with
  | lst xs =>
    obtain ⟨vs, h1, h2⟩ := h
    exact ⟨vs, (ha a (foot_self _)).trans h1, reps_mono e h2⟩
  | dK kvs =>
    obtain ⟨vs, h1, h2⟩ := h
    exact ⟨vs, (ha a (foot_self _)).trans h1, L2.Paired.mapP h2 fun _ _ ⟨p, q⟩ => ⟨p, rep_mono e q⟩⟩
  | ins C fs =>
    obtain ⟨dx, vs, h1, h2⟩ := h
    exact ⟨dx, vs, (ha a (foot_self _)).trans h1, L2.Paired.mapP h2 fun _ _ ⟨p, q⟩ => ⟨p, rep_mono e q⟩⟩
  | sl C dx vs =>
    obtain ⟨us, h1, h2, h4⟩ := h
    have k0 := ha a (foot_self _)
    have k1 : H' dx = H dx := ha dx (List.mem_cons_of_mem _ List.mem_cons_self)
    refine ⟨us, ?_, ?_, fun i x hx => let ⟨u, p, q⟩ := h4 i x hx; ⟨u, p, rep_mono e q⟩⟩
    · rcases h1 with ⟨p, q⟩ | ⟨p, q⟩
      · exact .inl ⟨k0.trans p, q⟩
      · exact .inr ⟨k0.trans p, k1.trans q⟩
    · rcases h2 with p | p
      · exact .inl (k1.trans p)
      · exact .inr (k1.trans p)
theorem repM_some {a : Addr} {o : MO} (k : RepM K F H a o) : ∀ b ∈ foot (a, o), ∃ u, H b = some u := fun b hb => by
  cases o with
  | lst xs => obtain ⟨_, z, _⟩ := k; rw [List.mem_singleton.mp hb]; exact ⟨_, z⟩
  | dK xs => obtain ⟨_, z, _⟩ := k; rw [List.mem_singleton.mp hb]; exact ⟨_, z⟩
  | ins C xs => obtain ⟨_, _, z, _⟩ := k; rw [List.mem_singleton.mp hb]; exact ⟨_, z⟩
  | sl C dx xs =>
    obtain ⟨_, z, y, _⟩ := k
    rcases List.mem_cons.mp hb with e | e
    · rw [e]
      rcases z with ⟨z, _⟩ | ⟨z, _⟩ <;> exact ⟨_, z⟩
    · rw [List.mem_singleton.mp e]
      rcases y with y | y <;> exact ⟨_, y⟩
/-- the store is held -/
structure OkM (K : Frg) (F H : Hp) (M : Sto) : Prop where
  same : Same F H
  nd : (M.flatMap foot).Nodup
  fr : ∀ p ∈ M, ∀ b ∈ foot p, F b = none
  at_ : ∀ p ∈ M, RepM K F H p.1 p.2
/-- .. and the slots -/
structure Ok (K : Frg) (ρ : AEnv) (M : Sto) (σ : L2.St) (F H : Hp) : Prop extends OkM K F H M where
  env : Paired (RepO K F) σ ρ
theorem OkM.perm {M M' : Sto} (h : OkM K F H M) (p : M.Perm M') : OkM K F H M' := ⟨h.same, (p.flatMap_right foot).nodup_iff.mp h.nd, fun q hq => h.fr q (p.mem_iff.mpr hq), fun q hq => h.at_ q (p.mem_iff.mpr hq)⟩
theorem OkM.drop {M L : Sto} (h : OkM K F H (L ++ M)) : OkM K F H M := ⟨h.same, by
  have := h.nd
  rw [List.flatMap_append] at this
  exact (List.nodup_append.mp this).2.1, fun q hq => h.fr q (List.mem_append_right _ hq), fun q hq => h.at_ q (List.mem_append_right _ hq)⟩
/-- M' is part of M -/
def Sub (M' M : Sto) : Prop := ∃ L, M.Perm (L ++ M')
theorem OkM.sub {M M' : Sto} (h : OkM K F H M) (s : Sub M' M) : OkM K F H M' := let ⟨_, p⟩ := s; (h.perm p).drop
theorem Sub.refl (M : Sto) : Sub M M := ⟨[], .refl _⟩
theorem Sub.of {M L : Sto} : Sub M (L ++ M) := ⟨L, .refl _⟩
theorem Sub.one {M : Sto} {p : Addr × MO} : Sub M (p :: M) := ⟨[p], .refl _⟩
theorem Ok.sub {ρ : AEnv} {M M' : Sto} {σ : L2.St} (h : Ok K ρ M σ F H) (s : Sub M' M) : Ok K ρ M' σ F H := ⟨h.toOkM.sub s, h.env⟩
theorem env_mono (e : Same F F') {σ : L2.St} {ρ : AEnv} (h : Paired (RepO K F) σ ρ) : Paired (RepO K F') σ ρ := L2.Paired.mapP h fun _ _ => repO_mono e
theorem OkM.ne {M : Sto} (h : OkM K F H M) {p : Addr} (hp : H p = none) : ∀ q ∈ M, ∀ b ∈ foot q, b ≠ p := fun q hq b hb e => by
  obtain ⟨u, z⟩ := repM_some (h.at_ q hq) b hb
  rw [e, hp] at z; cases z
/-- a new frozen object -/
theorem OkM.frozen {M : Sto} (h : OkM K F H M) {p : Addr} {o : HO} (hp : H p = none) : OkM K (upd F p o) (upd H p o) M ∧ Same F (upd F p o) := by
  have fp : F p = none := h.same.free hp
  have s1 : Same F (upd F p o) := fun b u e => by rw [upd_ne (ne_of_none e fp)]; exact e
  refine ⟨⟨fun b u e => ?_, h.nd, fun q hq b hb => ?_, fun q hq => ?_⟩, s1⟩
  · by_cases hb : b = p
    · subst hb; rw [upd_same] at e ⊢; exact e
    · rw [upd_ne hb] at e ⊢; exact h.same _ _ e
  · rw [upd_ne (h.ne hp q hq b hb)]
    exact h.fr q hq b hb
  · exact repM_stay s1 (h.at_ q hq) fun b hb => upd_ne (h.ne hp q hq b hb)
theorem Ok.frozen {ρ : AEnv} {M : Sto} {σ : L2.St} (h : Ok K ρ M σ F H) {p : Addr} {o : HO} (hp : H p = none) : Ok K ρ M σ (upd F p o) (upd H p o) ∧ Same F (upd F p o) :=
  let ⟨a, b⟩ := h.toOkM.frozen (o := o) hp
  ⟨⟨a, env_mono b h.env⟩, b⟩
/-- a new object that no one tracks by name -/
theorem OkM.other {M : Sto} (h : OkM K F H M) {p : Addr} {o : HO} (hp : H p = none) : OkM K F (upd H p o) M := by
  refine ⟨fun b u e => ?_, h.nd, h.fr, fun q hq => repM_stay (Same.refl _) (h.at_ q hq) fun b hb => upd_ne (h.ne hp q hq b hb)⟩
  rw [upd_ne (ne_of_none (h.same _ _ e) hp)]; exact h.same _ _ e
/-- a new mutable object -/
theorem OkM.made' {M : Sto} (h : OkM K F H M) {p : Addr} {c : MO} (hn : (foot (p, c)).Nodup) (hf : ∀ b ∈ foot (p, c), F b = none ∧ ∀ q ∈ M, b ∉ foot q) (hr : RepM K F H p c) : OkM K F H ((p, c) :: M) := by
  refine ⟨h.same, ?_, fun q hq => ?_, fun q hq => ?_⟩
  · rw [List.flatMap_cons, List.nodup_append]
    refine ⟨hn, h.nd, fun a ha b hb e => ?_⟩
    subst e
    obtain ⟨q, hq, hb⟩ := List.mem_flatMap.mp hb
    exact (hf a ha).2 q hq hb
  · rcases List.mem_cons.mp hq with rfl | hq
    · exact fun b hb => (hf b hb).1
    · exact h.fr q hq
  · rcases List.mem_cons.mp hq with rfl | hq
    · exact hr
    · exact h.at_ q hq
def MO.isSl : MO → Bool
  | .sl _ _ _ => true
  | _ => false
theorem foot_one {a : Addr} {c : MO} (h : c.isSl = false) : foot (a, c) = [a] := by
  cases c with
  | sl C dx vs => cases h
  | _ => rfl
theorem OkM.made {M : Sto} (h : OkM K F H M) {p : Addr} {o : HO} {c : MO} (hp : H p = none) (hr : RepM K F (upd H p o) p c) (hs : c.isSl = false := by rfl) : OkM K F (upd H p o) ((p, c) :: M) := by
  have e := foot_one (a := p) hs
  refine (h.other (o := o) hp).made' (by rw [e]; simp) (fun b hb => ?_) hr
  rw [e] at hb
  rw [List.mem_singleton.mp hb]
  exact ⟨h.same.free hp, fun q hq hb2 => h.ne hp q hq p hb2 rfl⟩
theorem OkM.apart {l1 l2 : Sto} {p : Addr × MO} (h : OkM K F H (l1 ++ p :: l2)) : (foot p).Nodup ∧ ∀ q, q ∈ l1 ∨ q ∈ l2 → ∀ b ∈ foot q, b ∉ foot p := by
  have nd := h.nd
  rw [List.flatMap_append, List.flatMap_cons, List.nodup_append, List.nodup_append] at nd
  obtain ⟨_, ⟨n1, _, n2⟩, n3⟩ := nd
  refine ⟨n1, fun q hq b hb hp => ?_⟩
  rcases hq with hq | hq
  · exact n3 b (List.mem_flatMap.mpr ⟨q, hq, hb⟩) b (List.mem_append_left _ hp) rfl
  · exact n2 b hp b (List.mem_flatMap.mpr ⟨q, hq, hb⟩) rfl
/-- a mutable object is changed: H' differs from H on its foot alone -/
theorem OkM.write' {l1 l2 : Sto} {a : Addr} {c c' : MO} (h : OkM K F H (l1 ++ (a, c) :: l2)) (hf : foot (a, c') = foot (a, c)) (hH : ∀ b, b ∉ foot (a, c) → H' b = H b) (hr : RepM K F H' a c') : OkM K F H' (l1 ++ (a, c') :: l2) := by
  obtain ⟨nd, ap⟩ := h.apart
  have mem : ∀ q, q ∈ l1 ∨ q ∈ l2 → q ∈ l1 ++ (a, c) :: l2 := fun q hq => by
    rcases hq with hq | hq
    · exact List.mem_append_left _ hq
    · exact List.mem_append_right _ (List.mem_cons_of_mem _ hq)
  have me : (a, c) ∈ l1 ++ (a, c) :: l2 := List.mem_append_right _ List.mem_cons_self
  have cs : ∀ q, q ∈ l1 ++ (a, c') :: l2 → q = (a, c') ∨ q ∈ l1 ∨ q ∈ l2 := fun q hq => by
    rcases List.mem_append.mp hq with hq | hq
    · exact .inr (.inl hq)
    · rcases List.mem_cons.mp hq with e | hq
      · exact .inl e
      · exact .inr (.inr hq)
  refine ⟨fun b u e => ?_, ?_, fun q hq => ?_, fun q hq => ?_⟩
  · rw [hH b fun hb => by rw [h.fr _ me b hb] at e; cases e]
    exact h.same _ _ e
  · have e : (l1 ++ (a, c') :: l2).flatMap foot = (l1 ++ (a, c) :: l2).flatMap foot := by
      rw [List.flatMap_append, List.flatMap_cons, List.flatMap_append, List.flatMap_cons, hf]
    rw [e]; exact h.nd
  · rcases cs q hq with rfl | hq
    · rw [hf]; exact h.fr _ me
    · exact h.fr q (mem q hq)
  · rcases cs q hq with rfl | hq
    · exact hr
    · exact repM_stay (Same.refl _) (h.at_ q (mem q hq)) fun b hb => hH b (ap q hq b hb)
theorem OkM.write {l1 l2 : Sto} {a : Addr} {c c' : MO} {o : HO} (h : OkM K F H (l1 ++ (a, c) :: l2)) (hr : RepM K F (upd H a o) a c') (hs : c.isSl = false := by rfl) (hs' : c'.isSl = false := by rfl) : OkM K F (upd H a o) (l1 ++ (a, c') :: l2) :=
  h.write' (by rw [foot_one hs, foot_one hs']) (fun b hb => upd_ne fun e => hb (by rw [e]; exact foot_self _)) hr
theorem Ok.write {ρ : AEnv} {σ : L2.St} {l1 l2 : Sto} {a : Addr} {c c' : MO} {o : HO} (h : Ok K ρ (l1 ++ (a, c) :: l2) σ F H) (hr : RepM K F (upd H a o) a c') (hs : c.isSl = false := by rfl) (hs' : c'.isSl = false := by rfl) : Ok K ρ (l1 ++ (a, c') :: l2) σ F (upd H a o) := ⟨h.toOkM.write hr hs hs', h.env⟩
theorem Ok.made {ρ : AEnv} {σ : L2.St} {M : Sto} (h : Ok K ρ M σ F H) {p : Addr} {o : HO} {c : MO} (hp : H p = none) (hr : RepM K F (upd H p o) p c) (hs : c.isSl = false := by rfl) : Ok K ρ ((p, c) :: M) σ F (upd H p o) := ⟨h.toOkM.made hp hr hs, h.env⟩
theorem OkM.mid {l1 l2 : Sto} {a : Addr} {c : MO} (h : OkM K F H (l1 ++ (a, c) :: l2)) : RepM K F H a c := h.at_ (a, c) (List.mem_append_right _ List.mem_cons_self)
theorem OkM.midF {l1 l2 : Sto} {p : Addr × MO} (h : OkM K F H (l1 ++ p :: l2)) : ∀ b ∈ foot p, F b = none := h.fr p (List.mem_append_right _ List.mem_cons_self)
end

/-! ### readings over data -/
abbrev AQ := Va → Sto → Prop
abbrev AE := AEnv → Sto → AQ → Prop
abbrev AT := AEnv → Sto → (Bool → Sto → Prop) → Prop
abbrev AA := AEnv → Sto → (List Va → Sto → Prop) → Prop
structure AEnds where
  nx : AEnv → Sto → Prop
  rt : AQ
  bk : AEnv → Sto → Prop := fun _ _ => False
  ct : AEnv → Sto → Prop := fun _ _ => False
abbrev AS := AEnds → AEnv → Sto → Prop

def SE (K : Frg) (t : TE) (α : AE) : Prop := ∀ (ρ : AEnv) (M : Sto) (Qa : AQ) (σ : L2.St) (F H : Hp) (Q : VK), Ok K ρ M σ F H → α ρ M Qa →
  (∀ x M' v F' H', Qa x M' → Same F F' → Ok K ρ M' σ F' H' → Rep K F' v x → Q v H') → t σ H Q
def ST (K : Frg) (t : TT) (α : AT) : Prop := ∀ (ρ : AEnv) (M : Sto) (Qa : Bool → Sto → Prop) (σ : L2.St) (F H : Hp) (Q : Bool → Hp → Prop), Ok K ρ M σ F H → α ρ M Qa →
  (∀ b M' F' H', Qa b M' → Same F F' → Ok K ρ M' σ F' H' → Q b H') → t σ H Q
def SA (K : Frg) (t : TA) (α : AA) : Prop := ∀ (ρ : AEnv) (M : Sto) (Qa : List Va → Sto → Prop) (σ : L2.St) (F H : Hp) (Q : List V → Hp → Prop), Ok K ρ M σ F H → α ρ M Qa →
  (∀ xs M' vs F' H', Qa xs M' → Same F F' → Ok K ρ M' σ F' H' → Paired (Rep K F') vs xs → Q vs H') → t σ H Q
def SS (K : Frg) (t : TS) (α : AS) : Prop := ∀ (ρ : AEnv) (M : Sto) (Da : AEnds) (σ : L2.St) (F H : Hp) (D : Ends), Ok K ρ M σ F H → α Da ρ M →
  (∀ ρ' M' σ' F' H', Da.nx ρ' M' → Same F F' → Ok K ρ' M' σ' F' H' → D.nx σ' H') →
  (∀ x M' v F' H', Da.rt x M' → Same F F' → OkM K F' H' M' → Rep K F' v x → D.rt v H') →
  (∀ ρ' M' σ' F' H', Da.bk ρ' M' → Same F F' → Ok K ρ' M' σ' F' H' → D.bk σ' H') →
  (∀ ρ' M' σ' F' H', Da.ct ρ' M' → Same F F' → Ok K ρ' M' σ' F' H' → D.ct σ' H') → t D σ H
structure XE (X : Cx) (e : Expr) (t : TE) (α : AE) : Prop where
  p : PE X e t
  s : SE X.K t α
structure XT (X : Cx) (e : Expr) (t : TT) (α : AT) : Prop where
  p : PT X e t
  s : ST X.K t α
structure XA (X : Cx) (es : List Expr) (t : TA) (α : AA) : Prop where
  p : PA X es t
  s : SA X.K t α
structure XS (X : Cx) (st : Stmt) (t : TS) (α : AS) : Prop where
  p : PS X st t
  s : SS X.K t α
structure XSs (X : Cx) (st : List Stmt) (t : TS) (α : AS) : Prop where
  p : PSs X st t
  s : SS X.K t α
end LN
namespace LN
open PySem PySem.Spec PyProof.Rows L2 SlX

/-- data out of values -/
def dats : List Va → Option (List PyData)
  | [] => some []
  | .d x :: r => (dats r).map (x :: ·)
  | _ => none
theorem dats_rep {K : Frg} {F : Hp} : ∀ {xs : List Va} {ds : List PyData} {vs : List V}, dats xs = some ds → Paired (Rep K F) vs xs → DsAll K F vs ds
  | [], ds, vs, e, h => by cases h; cases e; exact .nil
  | .d x :: r, ds, _, e, h => by
    cases h with
    | cons h1 h2 =>
      have e' : (dats r).map (x :: ·) = some ds := e
      cases q : dats r with
      | none => rw [q] at e'; cases e'
      | some es =>
        rw [q] at e'
        cases e'
        exact .cons h1 (dats_rep q h2)
  | .m a :: r, ds, _, e, h => by cases e
  | .o C fs :: r, ds, _, e, h => by cases e
  | .w es :: r, ds, _, e, h => by cases e
  | .p es :: r, ds, _, e, h => by cases e
theorem dats_map (ds : List PyData) : dats (ds.map Va.d) = some ds := by
  induction ds with
  | nil => rfl
  | cons x r ih => show (dats (r.map Va.d)).map (x :: ·) = _; rw [ih]; rfl
theorem rep_map {K : Frg} {F : Hp} : ∀ {ds : List PyData} {vs : List V}, DsAll K F vs ds → Paired (Rep K F) vs (ds.map Va.d)
  | [], _, h => by cases h; exact .nil
  | d :: ds, _, h => by
    cases h with
    | cons h1 h2 => exact .cons h1 (rep_map h2)
theorem paired_get {α β : Type} {R : α → β → Prop} : ∀ {xs : List α} {ys : List β} {i : Nat} {y : β}, Paired R xs ys → ys[i]? = some y → ∃ x, xs[i]? = some x ∧ R x y
  | _, _, i, y, .nil, e => by simp at e
  | _, _, 0, y, .cons r _, e => by
    have e' := Option.some.inj (show some _ = some y from e)
    exact ⟨_, rfl, e' ▸ r⟩
  | _, _, i + 1, y, .cons _ t, e => by
    obtain ⟨x, h1, h2⟩ := paired_get (i := i) (y := y) t (by simpa using e)
    exact ⟨x, by simpa using h1, h2⟩
theorem paired_get' {α β : Type} {R : α → β → Prop} : ∀ {xs : List α} {ys : List β} {i : Nat} {x : α}, Paired R xs ys → xs[i]? = some x → ∃ y, ys[i]? = some y ∧ R x y
  | _, _, i, y, .nil, e => by simp at e
  | _, _, 0, y, .cons r _, e => by
    have e' := Option.some.inj (show some _ = some y from e)
    exact ⟨_, rfl, e' ▸ r⟩
  | _, _, i + 1, y, .cons _ t, e => by
    obtain ⟨x, h1, h2⟩ := paired_get' (i := i) (x := y) t (by simpa using e)
    exact ⟨x, by simpa using h1, h2⟩
theorem paired_set {α β : Type} {R : α → β → Prop} {x : α} {y : β} (r : R x y) : ∀ {xs : List α} {ys : List β} (i : Nat), Paired R xs ys → Paired R (xs.set i x) (ys.set i y)
  | _, _, _, .nil => .nil
  | _, _, 0, .cons _ t => .cons r t
  | _, _, i + 1, .cons q t => .cons q (paired_set r i t)
theorem paired_app {α β : Type} {R : α → β → Prop} : ∀ {xs xs' : List α} {ys ys' : List β}, Paired R xs ys → Paired R xs' ys' → Paired R (xs ++ xs') (ys ++ ys')
  | _, _, _, _, .nil, s => s
  | _, _, _, _, .cons r t, s => .cons r (paired_app t s)
theorem paired_erase {α β : Type} {R : α → β → Prop} : ∀ {xs : List α} {ys : List β} (i : Nat), Paired R xs ys → Paired R (xs.eraseIdx i) (ys.eraseIdx i)
  | _, _, _, .nil => .nil
  | _, _, 0, .cons _ t => t
  | _, _, i + 1, .cons q t => .cons q (paired_erase i t)

section
variable {X : Cx}
abbrev tpO (its : Array Value) : Obj := { cls := .type "tuple", data := .seq its }
/-- a tuple just laid -/
theorem laidS {pins : List (Addr × Obj)} {σ : L2.St} {H : Hp} {s : Shared} {xs : List V} {its : List Value} (I : Inv X pins σ H s) (r : Vals xs its) (z : xs.length ≤ sizeLine) :
    Inv X pins σ (upd H s.heap.objs.size (.frz (tpO its.toArray) (.tup xs))) { s with heap := s.heap.push (tpO its.toArray) } :=
  I.laid (t' := s.toks) (fun b u e => Heap.get?_push_of_some _ e) (Nat.le_refl _) ⟨Heap.get?_push_size _ rfl, z, its, r, ⟨_, Heap.get?_push_size _ rfl, rfl, _, rfl⟩⟩
/-- what follows a new tuple -/
def NewS (H : Hp) (xs : List V) (Q : VK) : Prop := ∀ (p : Addr) (o : Obj), H p = none → o.cls = .type "tuple" → o.dict = none → Q (.ref p) (upd H p (.frz o (.tup xs)))
theorem NewS.go {pins : List (Addr × Obj)} {σ : L2.St} {H : Hp} {s : Shared} {xs : List V} {its : List Value} {Q : VK} (q : NewS H xs Q) (I : Inv X pins σ H s) (r : Vals xs its) (z : xs.length ≤ sizeLine) :
    EP X pins σ Q (.ref s.heap.objs.size) { s with heap := s.heap.push (tpO its.toArray) } := ⟨.ref s.heap.objs.size, _, laidS I r z, rfl, q _ _ (I.hok.fresh (Nat.le_refl _)) rfl rfl⟩
def tTupS (t : TA) : TE := fun σ H Q => t σ H fun xs H1 => xs.length ≤ sizeLine ∧ NewS H1 xs Q
theorem pe_tupS {es : List Expr} {t : TA} {pos : Pos} {x1} (h : PA X es t) : PE X (.Tuple es x1 pos) (tTupS t) := by
  refine ⟨fun pins s σ H Q I hq => ?_⟩
  exact wpAny_Tuple_spliced (thn (h.run pos pins s σ H _ I hq) fun us s1 ⟨xs, H1, I1, r, z, q⟩ => ⟨by rw [← r.length]; exact z, q.go I1 r z⟩)
/-- t + u -/
def rCatS (K : Frg) : R2 := fun x y H Q => ∃ a b xs ys, x = .ref a ∧ y = .ref b ∧ SqT K H a xs ∧ SqT K H b ys ∧ xs.length + ys.length ≤ sizeLine ∧
  (xs = [] → Q (.ref b) H) ∧ (xs ≠ [] → ys = [] → Q (.ref a) H) ∧ (xs ≠ [] → ys ≠ [] → NewS H (xs ++ ys) Q)
theorem op_catS : OpR X (binaryOp .Add) (rCatS X.K) := by
  intro pins s σ H x y v u Q I rx ry ⟨a, b, xs, ys, ex, ey, ha, hb, hz, q0, q1, q2⟩
  subst ex; subst ey
  by_cases hx : xs = []
  · exact op_catA pins s σ H _ _ v u Q I rx ry ⟨a, b, xs, ys, rfl, rfl, ha, hb, hz, q0, q1, fun z => absurd hx z⟩
  · cases rx
    cases ry
    obtain ⟨its, r1, p1, _⟩ := I.tuple ha
    obtain ⟨its2, r2, p2, _⟩ := I.tuple hb
    refine HT.cat_tup p1 p2 (fun z => hx (r1.nil_iff.mp z)) (fun z => ⟨.ref a, H, I, rfl, q1 hx (r2.nil_iff.mp z)⟩) (fun z => ?_) (by rw [← r1.length, ← r2.length]; exact hz)
    exact (q2 hx fun w => z (r2.nil_iff.mpr w)).go I (r1.append r2) (by rw [List.length_append]; exact hz)
/-- t[lo:hi] -/
def rSlS (K : Frg) : V → Option Int → Option Int → Hp → VK → Prop := fun x lo hi H Q => ∃ a xs, x = .ref a ∧ SqT K H a xs ∧
  (HT.sIx xs.length 0 lo = 0 ∧ HT.sIx xs.length xs.length hi = xs.length → Q (.ref a) H) ∧ (¬ (HT.sIx xs.length 0 lo = 0 ∧ HT.sIx xs.length xs.length hi = xs.length) → NewS H (cutV xs lo hi) Q)
theorem sl_tupS : SlR X (rSlS X.K) := by
  intro pins s σ H x v vl vu lo hi sl Q I rx hs pl pu ⟨a, xs, ex, hx, q1, q2⟩
  subst ex
  by_cases hw : HT.sIx xs.length 0 lo = 0 ∧ HT.sIx xs.length xs.length hi = xs.length
  · exact sl_tupA pins s σ H _ v vl vu lo hi sl Q I rx hs pl pu ⟨a, xs, rfl, hx, q1, fun z => absurd hw z⟩
  · cases rx
    obtain ⟨its, r, ht, hz⟩ := I.tuple hx
    have el : its.toArray.size = xs.length := by rw [List.size_toArray]; exact r.length.symm
    refine ⟨"tuple", _, PyProof.Rows.slot_tuple_getitem.lookup, ht.typeIs, HT.getItem_tuple_cut ht hs pl pu (by rw [el]; exact hw) ?_ (by rw [el]; exact hz)⟩
    rw [el]
    exact (q2 hw).go I ((r.drop _).take _) (Nat.le_trans (cutV_length xs lo hi) hz)
/-- tuple(x) -/
def rTupleS (K : Frg) : List V → Hp → VK → Prop := fun xs H Q => ∃ p ys, xs = [.ref p] ∧ ((SqL K H p ys ∧ NewS H ys Q) ∨ (SqT K H p ys ∧ Q (.ref p) H))
theorem call_tupleS : CallR X (.type "tuple") (rTupleS X.K) := by
  intro pins s σ H xs us Q I r ⟨p, ys, ex, h⟩
  subst ex
  obtain ⟨u, eu, rx⟩ := vals1 r
  subst eu
  cases rx
  rcases h with ⟨hq, q⟩ | ⟨hq, q⟩
  · obtain ⟨its, r', pl, hz⟩ := I.list hq
    have el := r'.length
    refine call_tuple_list pl.isList (fun g kp => ?_) (by simp only [List.size_toArray] <;> omega)
    exact q.go (I.kept (t' := s.toks) kp) r' hz
  · obtain ⟨its, r', pl, hz⟩ := I.tuple hq
    exact call_tuple_same pl ⟨.ref p, H, I, rfl, q⟩
end
section
variable {K : Frg}
/-- a new tuple, frozen -/
theorem newS {F H : Hp} {M : Sto} {xs : List V} {ds : List PyData} {Q : VK} (ok : OkM K F H M) (h : DsAll K F xs ds) (k : ∀ F' H' v, Same F F' → OkM K F' H' M → Ds K F' v (.tuple ds) → Q v H') : NewS H xs Q := fun p o hp hc hd => by
  obtain ⟨ok2, s2⟩ := ok.frozen (o := .frz o (.tup xs)) hp
  exact k _ _ _ s2 ok2 (.tup (.inl ⟨o, upd_same, hc, hd⟩) (dps_mono s2 _ _ h))
/-! ### names, constants -/
def aVar (i : Nat) : AE := fun ρ M Q => ∃ x, ρ[i]? = some (some x) ∧ Q x M
theorem se_var {i : Nat} : SE K (tVar i) (aVar i) := by
  intro ρ M Qa σ F H Q ok ⟨x, hx, qa⟩ k
  obtain ⟨v, hv, hr⟩ := paired_get ok.env hx
  obtain ⟨u, rfl, hu⟩ := hr
  exact ⟨u, hv, k x M u F H qa (Same.refl _) ok hu⟩
def aC (x : Va) : AE := fun _ M Q => Q x M
theorem se_c {v : V} {x : Va} (h : ∀ F, Rep K F v x) : SE K (tC v) (aC x) := fun ρ M Qa σ F H Q ok qa k => k x M v F H qa (Same.refl _) ok (h F)

/-! ### arguments -/
def aNil : AA := fun _ M Q => Q [] M
def aCons (α : AE) (β : AA) : AA := fun ρ M Q => α ρ M fun x M1 => β ρ M1 fun xs M2 => Q (x :: xs) M2
theorem sa_nil : SA K tNil aNil := fun ρ M Qa σ F H Q ok qa k => k [] M [] F H qa (Same.refl _) ok .nil
theorem sa_cons {t : TE} {u : TA} {α : AE} {β : AA} (h1 : SE K t α) (h2 : SA K u β) : SA K (tCons t u) (aCons α β) := by
  intro ρ M Qa σ F H Q ok qa k
  refine h1 ρ M _ σ F H _ ok qa fun x M1 v F1 H1 q1 s1 ok1 r1 => ?_
  refine h2 ρ M1 _ σ F1 H1 _ ok1 q1 fun xs M2 vs F2 H2 q2 s2 ok2 r2 => ?_
  exact k _ M2 _ F2 H2 q2 (s1.trans s2) ok2 (.cons (rep_mono s2 r1) r2)

/-! ### displays -/
def aTup (α : AA) : AE := fun ρ M Q => α ρ M fun xs M1 => ∃ ds, dats xs = some ds ∧ ds.length ≤ 1000000 ∧ Q (.d (.tuple ds)) M1
theorem size_ok {n : Nat} (h : n ≤ 1000000) : n ≤ sizeLine := Nat.le_trans h (by decide)
theorem size_lt {n : Nat} (h : n ≤ 1000000) : n < sizeLine := Nat.lt_of_le_of_lt h (by decide)
theorem se_tup {t : TA} {α : AA} (h : SA K t α) : SE K (tTupS t) (aTup α) := by
  intro ρ M Qa σ F H Q ok qa k
  refine h ρ M _ σ F H _ ok qa fun xs M1 vs F1 H1 q1 s1 ok1 r1 => ?_
  obtain ⟨ds, e, hl, q⟩ := q1
  have dp := dats_rep e r1
  refine ⟨by rw [dps_len dp]; exact size_ok hl, newS ok1.toOkM dp fun F' H' v s2 ok2 d => ?_⟩
  exact k _ M1 _ _ _ q (s1.trans s2) ⟨ok2, env_mono s2 ok1.env⟩ d
def aLst (α : AA) : AE := fun ρ M Q => α ρ M fun xs M1 => ∃ ds, dats xs = some ds ∧ ds.length ≤ 1000000 ∧ Q (.d (.list ds)) M1
theorem se_lst {t : TA} {α : AA} (h : SA K t α) : SE K (tLst t) (aLst α) := by
  intro ρ M Qa σ F H Q ok qa k
  refine h ρ M _ σ F H _ ok qa fun xs M1 vs F1 H1 q1 s1 ok1 r1 => ?_
  obtain ⟨ds, e, hl, q⟩ := q1
  have dp := dats_rep e r1
  have el := dps_len dp
  refine ⟨by rw [el]; exact size_ok hl, fun p hp => ?_⟩
  obtain ⟨ok2, s2⟩ := ok1.frozen (o := .lst vs) hp
  exact k _ M1 _ _ _ q (s1.trans s2) ok2 (.lst (.inl (.inl upd_same)) (dps_mono s2 _ _ dp))
/-- a list that will be changed -/
def aLstM (α : AA) : AE := fun ρ M Q => α ρ M fun xs M1 => xs.length ≤ 1000000 ∧ ∀ p, Q (.m p) ((p, .lst xs) :: M1)
theorem pair_len {α β : Type} {R : α → β → Prop} : ∀ {xs : List α} {ys : List β}, Paired R xs ys → xs.length = ys.length
  | _, _, .nil => rfl
  | _, _, .cons _ t => by simp only [List.length_cons]; rw [pair_len t]
theorem se_lstM {t : TA} {α : AA} (h : SA K t α) : SE K (tLst t) (aLstM α) := by
  intro ρ M Qa σ F H Q ok qa k
  refine h ρ M _ σ F H _ ok qa fun xs M1 vs F1 H1 q1 s1 ok1 r1 => ?_
  obtain ⟨hl, q⟩ := q1
  refine ⟨by rw [pair_len r1]; exact size_ok hl, fun p hp => ?_⟩
  exact k _ _ _ _ _ (q p) s1 (ok1.made hp ⟨vs, upd_same, r1⟩) rfl

/-! ### operators, by values -/
abbrev A2 := Va → Va → Sto → AQ → Prop
def S2 (K : Frg) (r : R2) (R : A2) : Prop := ∀ (x y : Va) (M : Sto) (Qa : AQ) (v w : V) (F H : Hp) (Q : VK), OkM K F H M → Rep K F v x → Rep K F w y → R x y M Qa →
  (∀ z M' u F' H', Qa z M' → Same F F' → OkM K F' H' M' → Rep K F' u z → Q u H') → r v w H Q
def aOp (R : A2) (α β : AE) : AE := fun ρ M Q => α ρ M fun x M1 => β ρ M1 fun y M2 => R x y M2 Q
theorem se_op {r : R2} {R : A2} {ta tb : TE} {α β : AE} (hr : S2 K r R) (h1 : SE K ta α) (h2 : SE K tb β) : SE K (tOp r ta tb) (aOp R α β) := by
  intro ρ M Qa σ F H Q ok qa k
  refine h1 ρ M _ σ F H _ ok qa fun x M1 v F1 H1 q1 s1 ok1 r1 => ?_
  refine h2 ρ M1 _ σ F1 H1 _ ok1 q1 fun y M2 w F2 H2 q2 s2 ok2 r2 => ?_
  refine hr x y M2 _ v w F2 H2 Q ok2.toOkM (rep_mono s2 r1) r2 q2 fun z M' u F' H' q3 s3 ok3 r3 => ?_
  exact k z M' u F' H' q3 ((s1.trans s2).trans s3) ⟨ok3, env_mono s3 ok2.env⟩ r3
abbrev A1 := Va → Sto → AQ → Prop
def S1 (K : Frg) (r : V → Hp → VK → Prop) (R : A1) : Prop := ∀ (x : Va) (M : Sto) (Qa : AQ) (v : V) (F H : Hp) (Q : VK), OkM K F H M → Rep K F v x → R x M Qa →
  (∀ z M' u F' H', Qa z M' → Same F F' → OkM K F' H' M' → Rep K F' u z → Q u H') → r v H Q
def aUn (R : A1) (α : AE) : AE := fun ρ M Q => α ρ M fun x M1 => R x M1 Q
theorem se_un {r : V → Hp → VK → Prop} {R : A1} {ta : TE} {α : AE} (hr : S1 K r R) (h1 : SE K ta α) : SE K (tUn r ta) (aUn R α) := by
  intro ρ M Qa σ F H Q ok qa k
  refine h1 ρ M _ σ F H _ ok qa fun x M1 v F1 H1 q1 s1 ok1 r1 => ?_
  refine hr x M1 _ v F1 H1 Q ok1.toOkM r1 q1 fun z M' u F' H' q3 s3 ok3 r3 => ?_
  exact k z M' u F' H' q3 (s1.trans s3) ⟨ok3, env_mono s3 ok1.env⟩ r3
abbrev AN := List Va → Sto → AQ → Prop
def SN (K : Frg) (r : List V → Hp → VK → Prop) (R : AN) : Prop := ∀ (xs : List Va) (M : Sto) (Qa : AQ) (vs : List V) (F H : Hp) (Q : VK), OkM K F H M → Paired (Rep K F) vs xs → R xs M Qa →
  (∀ z M' u F' H', Qa z M' → Same F F' → OkM K F' H' M' → Rep K F' u z → Q u H') → r vs H Q
def aCB (R : AN) (α : AA) : AE := fun ρ M Q => α ρ M fun xs M1 => R xs M1 Q
theorem se_cb {r : List V → Hp → VK → Prop} {R : AN} {t : TA} {α : AA} (hr : SN K r R) (h1 : SA K t α) : SE K (tCB r t) (aCB R α) := by
  intro ρ M Qa σ F H Q ok qa k
  refine h1 ρ M _ σ F H _ ok qa fun xs M1 vs F1 H1 q1 s1 ok1 r1 => ?_
  refine hr xs M1 _ vs F1 H1 Q ok1.toOkM r1 q1 fun z M' u F' H' q3 s3 ok3 r3 => ?_
  exact k z M' u F' H' q3 (s1.trans s3) ⟨ok3, env_mono s3 ok1.env⟩ r3

/-! inversions -/
theorem rep_int {F : Hp} {v : V} {i : Int} (h : Rep K F v (.d (.int i))) : v = .int i := by
  have h' : Ds K F v (.int i) := h
  cases h'; rfl
theorem rep_bool {F : Hp} {v : V} {b : Bool} (h : Rep K F v (.d (.bool b))) : v = .bl b := by
  have h' : Ds K F v (.bool b) := h
  cases h'; rfl
theorem rep_str {F : Hp} {v : V} {b : Str} (h : Rep K F v (.d (.str b))) : v = .str b := by
  have h' : Ds K F v (.str b) := h
  cases h'; rfl
theorem rep_none {F : Hp} {v : V} (h : Rep K F v (.d .none)) : v = .non := by
  have h' : Ds K F v .none := h
  cases h'; rfl
theorem rep_tup {F : Hp} {v : V} {ds : List PyData} (h : Rep K F v (.d (.tuple ds))) : ∃ a xs, v = .ref a ∧ SqT K F a xs ∧ DsAll K F xs ds := by
  have h' : Ds K F v (.tuple ds) := h
  cases h' with
  | tup h1 h2 => exact ⟨_, _, rfl, h1.sqt, h2⟩
theorem rep_tupS {F : Hp} {v : V} {ds : List PyData} (h : Rep K F v (.d (.tuple ds))) : ∃ a xs, v = .ref a ∧ SqS K F a xs ∧ DsAll K F xs ds := by
  have h' : Ds K F v (.tuple ds) := h
  cases h' with
  | tup h1 h2 => exact ⟨_, _, rfl, h1, h2⟩
theorem rep_lst {F : Hp} {v : V} {ds : List PyData} (h : Rep K F v (.d (.list ds))) : ∃ a xs, v = .ref a ∧ SqL K F a xs ∧ DsAll K F xs ds := by
  have h' : Ds K F v (.list ds) := h
  cases h' with
  | lst h1 h2 => exact ⟨_, _, rfl, h1, h2⟩
theorem okM_sqt {F H : Hp} {M : Sto} {a : Addr} {xs : List V} (ok : OkM K F H M) (h : SqT K F a xs) : SqT K H a xs := Same.sqt ok.same h
theorem okM_sql {F H : Hp} {M : Sto} {a : Addr} {xs : List V} (ok : OkM K F H M) (h : SqL K F a xs) : SqL K H a xs := ok.same.seq h
theorem okM_dp {F H : Hp} {M : Sto} {v : V} {d : PyData} (ok : OkM K F H M) (h : Ds K F v d) : Dp K H v d := ds_dp _ _ (dp_mono ok.same _ _ h)

/-! ints -/
def RI (C : Int → Int → Prop) (g : Int → Int → PyData) : A2 := fun x y M Q => ∃ i j, x = .d (.int i) ∧ y = .d (.int j) ∧ C i j ∧ Q (.d (g i j)) M
def RI0 (g : Int → Int → PyData) : A2 := fun x y M Q => ∃ i j, x = .d (.int i) ∧ y = .d (.int j) ∧ Q (.d (g i j)) M
theorem s2_I {C : Int → Int → Prop} {g : Int → Int → Int} : S2 K (rI C fun i j => .int (g i j)) (RI C fun i j => .int (g i j)) := by
  intro x y M Qa v w F H Q ok rx ry ⟨i, j, ex, ey, hc, q⟩ k
  subst ex; subst ey
  exact ⟨i, j, rep_int rx, rep_int ry, hc, k _ M _ F H q (Same.refl _) ok (.int _)⟩
theorem s2_I0 {g : Int → Int → Int} : S2 K (rI0 fun i j => .int (g i j)) (RI0 fun i j => .int (g i j)) := by
  intro x y M Qa v w F H Q ok rx ry ⟨i, j, ex, ey, q⟩ k
  subst ex; subst ey
  exact ⟨i, j, rep_int rx, rep_int ry, k _ M _ F H q (Same.refl _) ok (.int _)⟩
theorem s2_B0 {g : Int → Int → Bool} : S2 K (rI0 fun i j => .bl (g i j)) (RI0 fun i j => .bool (g i j)) := by
  intro x y M Qa v w F H Q ok rx ry ⟨i, j, ex, ey, q⟩ k
  subst ex; subst ey
  exact ⟨i, j, rep_int rx, rep_int ry, k _ M _ F H q (Same.refl _) ok (.bl _)⟩
/-- x == y of data -/
def REq (f : Bool → Bool) : A2 := fun x y M Q => ∃ a b, x = .d a ∧ y = .d b ∧ SeqAt.shaped a = true ∧ SeqAt.shaped b = true ∧ Q (.d (.bool (f (PyData.eqv a b)))) M
theorem s2_eq : S2 K (rEqD K) (REq id) := by
  intro x y M Qa v w F H Q ok rx ry ⟨a, b, ex, ey, ha, hb, q⟩ k
  subst ex; subst ey
  exact ⟨a, b, okM_dp ok rx, okM_dp ok ry, ha, hb, k _ M _ F H q (Same.refl _) ok (.bl _)⟩
theorem s2_ne : S2 K (rNeD K) (REq not) := by
  intro x y M Qa v w F H Q ok rx ry ⟨a, b, ex, ey, ha, hb, q⟩ k
  subst ex; subst ey
  exact ⟨a, b, okM_dp ok rx, okM_dp ok ry, ha, hb, k _ M _ F H q (Same.refl _) ok (.bl _)⟩
/-- x is None -/
def isNone : PyData → Bool
  | .none => true
  | _ => false
def RIs (f : Bool → Bool) : A2 := fun x y M Q => ∃ a, x = .d a ∧ y = .d .none ∧ Q (.d (.bool (f (isNone a)))) M
theorem dp_none {F : Hp} {v : V} : ∀ {a : PyData}, Ds K F v a → decide (v = .non) = isNone a
  | .none, h => by cases h; rfl
  | .bool b, h => by cases h; rfl
  | .int i, h => by cases h; rfl
  | .str x, h => by cases h; rfl
  | .list ds, h => by cases h; rfl
  | .tuple ds, h => by cases h; rfl
  | .dict _, h => by cases h
theorem s2_is : S2 K (fun x y H Q => y = .non ∧ Q (.bl (decide (x = .non))) H) (RIs id) := by
  intro x y M Qa v w F H Q ok rx ry ⟨a, ex, ey, q⟩ k
  subst ex; subst ey
  refine ⟨rep_none ry, ?_⟩
  rw [dp_none (show Ds K F v a from rx)]
  exact k _ M _ F H q (Same.refl _) ok (.bl _)
theorem s2_isnot : S2 K (fun x y H Q => y = .non ∧ Q (.bl (!decide (x = .non))) H) (RIs not) := by
  intro x y M Qa v w F H Q ok rx ry ⟨a, ex, ey, q⟩ k
  subst ex; subst ey
  refine ⟨rep_none ry, ?_⟩
  rw [dp_none (show Ds K F v a from rx)]
  exact k _ M _ F H q (Same.refl _) ok (.bl _)
/-- x in l, l a list of data -/
def RIn (f : Bool → Bool) : A2 := fun x y M Q => ∃ a ds, x = .d a ∧ y = .d (.list ds) ∧ SeqAt.shaped a = true ∧ SeqAt.shaped (.list ds) = true ∧ Q (.d (.bool (f (ds.any fun z => PyData.eqv z a)))) M
theorem s2_in : S2 K (rInD K) (RIn id) := by
  intro x y M Qa v w F H Q ok rx ry ⟨a, ds, ex, ey, ha, hb, q⟩ k
  subst ex; subst ey
  exact ⟨a, ds, okM_dp ok rx, okM_dp ok ry, ha, hb, k _ M _ F H q (Same.refl _) ok (.bl _)⟩
theorem s2_notin : S2 K (rNotInD K) (RIn not) := by
  intro x y M Qa v w F H Q ok rx ry ⟨a, ds, ex, ey, ha, hb, q⟩ k
  subst ex; subst ey
  exact ⟨a, ds, okM_dp ok rx, okM_dp ok ry, ha, hb, k _ M _ F H q (Same.refl _) ok (.bl _)⟩
/-- texts -/
def RAddS : A2 := fun x y M Q => ∃ i j : Str, x = .d (.str i) ∧ y = .d (.str j) ∧ i.length + j.length ≤ 1000000 ∧ Q (.d (.str (i ++ j))) M
theorem s2_addS : S2 K (fun x y H Q => ∃ i j, x = .str i ∧ y = .str j ∧ i.length + j.length ≤ sizeLine ∧ Q (.str (i ++ j)) H) RAddS := by
  intro x y M Qa v w F H Q ok rx ry ⟨i, j, ex, ey, hl, q⟩ k
  subst ex; subst ey
  exact ⟨i, j, rep_str rx, rep_str ry, size_ok hl, k _ M _ F H q (Same.refl _) ok (.str _)⟩
/-- items of tuples and lists of data -/
def RIx : A2 := fun x y M Q => ∃ ds i d, (x = .d (.tuple ds) ∨ x = .d (.list ds)) ∧ y = .d (.int i) ∧ atI ds i = some d ∧ Q (.d d) M
theorem atI_dp {F : Hp} {xs : List V} {ds : List PyData} {i : Int} {d : PyData} (h : DsAll K F xs ds) (e : atI ds i = some d) : ∃ v, atI xs i = some v ∧ Ds K F v d := by
  unfold atI at e ⊢
  rw [dps_len h]
  cases q : ixN ds.length i with
  | none => rw [q] at e; cases e
  | some j =>
    rw [q] at e
    exact dps_get h e
theorem s2_ix : S2 K (rIx K) RIx := by
  intro x y M Qa v w F H Q ok rx ry ⟨ds, i, d, ex, ey, hi, q⟩ k
  subst ey
  rcases ex with ex | ex
  · subst ex
    obtain ⟨a, xs, rfl, h1, h2⟩ := rep_tup rx
    obtain ⟨u, h3, h4⟩ := atI_dp h2 hi
    exact .inr (.inl ⟨a, xs, i, u, rfl, rep_int ry, okM_sqt ok h1, h3, k _ M _ F H q (Same.refl _) ok h4⟩)
  · subst ex
    obtain ⟨a, xs, rfl, h1, h2⟩ := rep_lst rx
    obtain ⟨u, h3, h4⟩ := atI_dp h2 hi
    exact .inl ⟨a, xs, i, u, rfl, rep_int ry, okM_sql ok h1, h3, k _ M _ F H q (Same.refl _) ok h4⟩
/-- an item of a mutable list -/
def RIxM : A2 := fun x y M Q => ∃ a xs i z l1 l2, x = .m a ∧ y = .d (.int i) ∧ M = l1 ++ (a, .lst xs) :: l2 ∧ atI xs i = some z ∧ Q z M
theorem atI_pair {α β : Type} {R : α → β → Prop} {xs : List α} {ys : List β} {i : Int} {y : β} (h : Paired R xs ys) (e : atI ys i = some y) : ∃ v, atI xs i = some v ∧ R v y := by
  unfold atI at e ⊢
  rw [pair_len h]
  cases q : ixN ys.length i with
  | none => rw [q] at e; cases e
  | some j =>
    rw [q] at e
    exact paired_get h e
theorem s2_ixM : S2 K (rIx K) RIxM := by
  intro x y M Qa v w F H Q ok rx ry ⟨a, xs, i, z, l1, l2, ex, ey, em, hi, q⟩ k
  subst ex; subst ey
  have rx' : v = .ref a := rx
  subst rx'
  have ok' := ok
  rw [em] at ok'
  obtain ⟨vs, h1, h2⟩ := ok'.mid
  obtain ⟨u, h3, h4⟩ := atI_pair h2 hi
  exact .inl ⟨a, vs, i, u, rfl, rep_int ry, .inl (.inl h1), h3, k _ M _ F H q (Same.refl _) ok h4⟩
/-- list + list, of data -/
def RCat : A2 := fun x y M Q => ∃ ds es, x = .d (.list ds) ∧ y = .d (.list es) ∧ ds.length + es.length ≤ 1000000 ∧ Q (.d (.list (ds ++ es))) M
/-- tuple + tuple -/
def RCatT : A2 := fun x y M Q => ∃ ds es, x = .d (.tuple ds) ∧ y = .d (.tuple es) ∧ ds.length + es.length ≤ 1000000 ∧ Q (.d (.tuple (ds ++ es))) M
theorem s2_catT : S2 K (rCatS K) RCatT := by
  intro x y M Qa v w F H Q ok rx ry ⟨ds, es, ex, ey, hl, q⟩ k
  subst ex; subst ey
  obtain ⟨a, xs, rfl, h1, h2⟩ := rep_tupS rx
  obtain ⟨b, ys, rfl, k1, k2⟩ := rep_tupS ry
  refine ⟨a, b, xs, ys, rfl, rfl, okM_sqt ok h1.sqt, okM_sqt ok k1.sqt, by rw [dps_len h2, dps_len k2]; exact size_ok hl, fun e => ?_, fun _ e => ?_, fun _ _ => newS ok (dps_app h2 k2) fun F' H' v s2 ok2 d => k _ M _ _ _ q s2 ok2 d⟩
  · subst e
    have := dps_len h2
    cases ds with
    | cons _ _ => simp at this
    | nil => exact k _ M _ F H q (Same.refl _) ok (.tup k1 k2)
  · subst e
    have := dps_len k2
    cases es with
    | cons _ _ => simp at this
    | nil =>
      rw [List.append_nil] at q
      exact k _ M _ F H q (Same.refl _) ok (.tup h1 h2)
end
end LN
namespace LN
open PySem PySem.Spec PyProof.Rows L2 SlX

section
variable {K : Frg}
/-! ### tests -/
def aB (α : AE) : AT := fun ρ M Q => α ρ M fun x M1 => ∃ b, x = .d (.bool b) ∧ Q b M1
theorem st_B {t : TE} {α : AE} (h : SE K t α) : ST K (tB t) (aB α) := by
  intro ρ M Qa σ F H Q ok qa k
  refine h ρ M _ σ F H _ ok qa fun x M1 v F1 H1 ⟨b, e, q1⟩ s1 ok1 r1 => ?_
  subst e
  exact ⟨b, rep_bool r1, k b M1 F1 H1 q1 s1 ok1⟩
theorem st_T {t : TE} {α : AE} (h : SE K t α) : ST K (tTest t) (aB α) := st_B h
def aAnd (a b : AT) : AT := fun ρ M Q => a ρ M fun c M1 => if c = true then b ρ M1 Q else Q false M1
def aOr (a b : AT) : AT := fun ρ M Q => a ρ M fun c M1 => if c = true then Q true M1 else b ρ M1 Q
def aNot (a : AT) : AT := fun ρ M Q => a ρ M fun c M1 => Q (!c) M1
theorem st_and {t u : TT} {a b : AT} (h1 : ST K t a) (h2 : ST K u b) : ST K (tAnd t u) (aAnd a b) := by
  intro ρ M Qa σ F H Q ok qa k
  refine h1 ρ M _ σ F H _ ok qa fun c M1 F1 H1 q1 s1 ok1 => ?_
  cases c with
  | true => exact h2 ρ M1 _ σ F1 H1 _ ok1 q1 fun b M2 F2 H2 q2 s2 ok2 => k b M2 F2 H2 q2 (s1.trans s2) ok2
  | false => exact k false M1 F1 H1 q1 s1 ok1
theorem st_or {t u : TT} {a b : AT} (h1 : ST K t a) (h2 : ST K u b) : ST K (tOr t u) (aOr a b) := by
  intro ρ M Qa σ F H Q ok qa k
  refine h1 ρ M _ σ F H _ ok qa fun c M1 F1 H1 q1 s1 ok1 => ?_
  cases c with
  | false => exact h2 ρ M1 _ σ F1 H1 _ ok1 q1 fun b M2 F2 H2 q2 s2 ok2 => k b M2 F2 H2 q2 (s1.trans s2) ok2
  | true => exact k true M1 F1 H1 q1 s1 ok1
theorem st_not {t : TT} {a : AT} (h1 : ST K t a) : ST K (tNot t) (aNot a) := by
  intro ρ M Qa σ F H Q ok qa k
  exact h1 ρ M _ σ F H _ ok qa fun c M1 F1 H1 q1 s1 ok1 => k (!c) M1 F1 H1 q1 s1 ok1
def aYes : AT := fun _ M Q => Q true M
theorem st_yes' : ST K tYes aYes := fun ρ M Qa σ F H Q ok qa k => k true M F H qa (Same.refl _) ok
/-! ### values of tests -/
def aAndV (α β : AE) : AE := fun ρ M Q => α ρ M fun x M1 => ∃ c, x = .d (.bool c) ∧ if c = true then β ρ M1 Q else Q (.d (.bool false)) M1
def aOrV (α β : AE) : AE := fun ρ M Q => α ρ M fun x M1 => ∃ c, x = .d (.bool c) ∧ if c = true then Q (.d (.bool true)) M1 else β ρ M1 Q
def aNotV (α : AE) : AE := fun ρ M Q => α ρ M fun x M1 => ∃ c, x = .d (.bool c) ∧ Q (.d (.bool (!c))) M1
theorem se_andV {t u : TE} {a b : AE} (h1 : SE K t a) (h2 : SE K u b) : SE K (tAndV t u) (aAndV a b) := by
  intro ρ M Qa σ F H Q ok qa k
  refine h1 ρ M _ σ F H _ ok qa fun x M1 v F1 H1 ⟨c, e, q1⟩ s1 ok1 r1 => ?_
  subst e
  refine ⟨c, rep_bool r1, ?_⟩
  cases c with
  | true => exact h2 ρ M1 _ σ F1 H1 _ ok1 q1 fun b M2 v F2 H2 q2 s2 ok2 => k b M2 v F2 H2 q2 (s1.trans s2) ok2
  | false => exact k _ M1 _ F1 H1 q1 s1 ok1 (.bl _)
theorem se_orV {t u : TE} {a b : AE} (h1 : SE K t a) (h2 : SE K u b) : SE K (tOrV t u) (aOrV a b) := by
  intro ρ M Qa σ F H Q ok qa k
  refine h1 ρ M _ σ F H _ ok qa fun x M1 v F1 H1 ⟨c, e, q1⟩ s1 ok1 r1 => ?_
  subst e
  refine ⟨c, rep_bool r1, ?_⟩
  cases c with
  | false => exact h2 ρ M1 _ σ F1 H1 _ ok1 q1 fun b M2 v F2 H2 q2 s2 ok2 => k b M2 v F2 H2 q2 (s1.trans s2) ok2
  | true => exact k _ M1 _ F1 H1 q1 s1 ok1 (.bl _)
theorem se_notV {t : TE} {a : AE} (h1 : SE K t a) : SE K (tNotV t) (aNotV a) := by
  intro ρ M Qa σ F H Q ok qa k
  refine h1 ρ M _ σ F H _ ok qa fun x M1 v F1 H1 ⟨c, e, q1⟩ s1 ok1 r1 => ?_
  subst e
  exact ⟨c, rep_bool r1, k _ M1 _ F1 H1 q1 s1 ok1 (.bl _)⟩
def aIf (t : AT) (α β : AE) : AE := fun ρ M Q => t ρ M fun c M1 => if c = true then α ρ M1 Q else β ρ M1 Q
theorem se_if {t : TT} {u v : TE} {a : AT} {α β : AE} (h : ST K t a) (h1 : SE K u α) (h2 : SE K v β) : SE K (tIf t u v) (aIf a α β) := by
  intro ρ M Qa σ F H Q ok qa k
  refine h ρ M _ σ F H _ ok qa fun c M1 F1 H1 q1 s1 ok1 => ?_
  cases c with
  | true => exact h1 ρ M1 _ σ F1 H1 _ ok1 q1 fun b M2 v F2 H2 q2 s2 ok2 => k b M2 v F2 H2 q2 (s1.trans s2) ok2
  | false => exact h2 ρ M1 _ σ F1 H1 _ ok1 q1 fun b M2 v F2 H2 q2 s2 ok2 => k b M2 v F2 H2 q2 (s1.trans s2) ok2

/-! ### slices -/
abbrev AO := AEnv → Sto → (Option Int → Sto → Prop) → Prop
def SO (K : Frg) (t : TO) (α : AO) : Prop := ∀ (ρ : AEnv) (M : Sto) (Qa : Option Int → Sto → Prop) (σ : L2.St) (F H : Hp) (Q : Option Int → Hp → Prop), Ok K ρ M σ F H → α ρ M Qa →
  (∀ x M' F' H', Qa x M' → Same F F' → Ok K ρ M' σ F' H' → Q x H') → t σ H Q
def aNoPart : AO := fun _ M Q => Q none M
def aPart (α : AE) : AO := fun ρ M Q => α ρ M fun x M1 => ∃ i, x = .d (.int i) ∧ Q (some i) M1
theorem so_none : SO K tNoPart aNoPart := fun ρ M Qa σ F H Q ok qa k => k none M F H qa (Same.refl _) ok
theorem so_some {t : TE} {α : AE} (h : SE K t α) : SO K (tPart t) (aPart α) := by
  intro ρ M Qa σ F H Q ok qa k
  refine h ρ M _ σ F H _ ok qa fun x M1 v F1 H1 ⟨i, e, q1⟩ s1 ok1 r1 => ?_
  subst e
  exact ⟨i, rep_int r1, k _ M1 F1 H1 q1 s1 ok1⟩
def cutD {α : Type} (xs : List α) (lo hi : Option Int) : List α := (xs.drop (HT.sIx xs.length 0 lo)).take (HT.sIx xs.length xs.length hi - HT.sIx xs.length 0 lo)
theorem cut_dp {F : Hp} {xs : List V} {ds : List PyData} (lo hi : Option Int) (h : DsAll K F xs ds) : DsAll K F (cutV xs lo hi) (cutD ds lo hi) := by
  unfold cutV cutD
  rw [dps_len h]
  exact dps_take _ (dps_drop _ h)
/-- a slice of data, of a mutable list of data -/
def RSl : Va → Option Int → Option Int → Sto → AQ → Prop := fun x lo hi M Q =>
  (∃ ds, x = .d (.tuple ds) ∧ Q (.d (.tuple (cutD ds lo hi))) M) ∨ (∃ ds, x = .d (.list ds) ∧ Q (.d (.list (cutD ds lo hi))) M) ∨
  ∃ a xs ds l1 l2, x = .m a ∧ M = l1 ++ (a, .lst xs) :: l2 ∧ dats xs = some ds ∧ Q (.d (.list (cutD ds lo hi))) M
def aSl (α : AE) (l h : AO) : AE := fun ρ M Q => α ρ M fun x M1 => l ρ M1 fun lo M2 => h ρ M2 fun hi M3 => RSl x lo hi M3 Q
theorem HT_all {n : Nat} {ds : List PyData} {lo hi : Option Int} (e : HT.sIx ds.length 0 lo = 0 ∧ HT.sIx ds.length ds.length hi = ds.length) : cutD ds lo hi = ds := by
  unfold cutD
  rw [e.1, e.2]
  simp
theorem se_sl {t : TE} {tl th : TO} {α : AE} {l h : AO} (h0 : SE K t α) (h1 : SO K tl l) (h2 : SO K th h) : SE K (L2.tSl (fun x lo hi H Q => rSlL K x lo hi H Q ∨ rSlS K x lo hi H Q) t tl th) (aSl α l h) := by
  intro ρ M Qa σ F H Q ok qa k
  refine h0 ρ M _ σ F H _ ok qa fun x M1 v F1 H1 q1 s1 ok1 r1 => ?_
  refine h1 ρ M1 _ σ F1 H1 _ ok1 q1 fun lo M2 F2 H2 q2 s2 ok2 => ?_
  refine h2 ρ M2 _ σ F2 H2 _ ok2 q2 fun hi M3 F3 H3 q3 s3 ok3 => ?_
  have r3 := rep_mono (s2.trans s3) r1
  have s13 := (s1.trans s2).trans s3
  rcases q3 with ⟨ds, e, q⟩ | ⟨ds, e, q⟩ | ⟨a, xs, ds, l1, l2, e, em, ed, q⟩
  · subst e
    obtain ⟨a, ys, rfl, k1, k2⟩ := rep_tupS r3
    refine .inr ⟨a, ys, rfl, okM_sqt ok3.toOkM k1.sqt, fun z => ?_, fun z => newS ok3.toOkM (cut_dp lo hi k2) fun F' H' v s4 ok4 d => k _ M3 _ _ _ q (s13.trans s4) ⟨ok4, env_mono s4 ok3.env⟩ d⟩
    · rw [dps_len k2] at z
      rw [HT_all (n := 0) z] at q
      exact k _ M3 _ F3 H3 q s13 ok3 (.tup k1 k2)
  · subst e
    obtain ⟨a, ys, rfl, k1, k2⟩ := rep_lst r3
    refine .inl ⟨a, ys, rfl, okM_sql ok3.toOkM k1, fun p hp => ?_⟩
    obtain ⟨ok4, s4⟩ := ok3.frozen (o := .lst (cutV ys lo hi)) hp
    exact k _ M3 _ _ _ q (s13.trans s4) ok4 (.lst (.inl (.inl upd_same)) (cut_dp lo hi (dps_mono s4 _ _ k2)))
  · subst e
    have e' : v = .ref a := r3
    subst e'
    have ok3' := ok3.toOkM
    rw [em] at ok3'
    obtain ⟨vs, g1, g2⟩ := ok3'.mid
    refine .inl ⟨a, vs, rfl, .inl (.inl g1), fun p hp => ?_⟩
    obtain ⟨ok4, s4⟩ := ok3.frozen (o := .lst (cutV vs lo hi)) hp
    exact k _ M3 _ _ _ q (s13.trans s4) ok4 (.lst (.inl (.inl upd_same)) (cut_dp lo hi (dps_mono s4 _ _ (dats_rep ed g2))))

/-! ### calls of defs -/
/-- the promise: R of the arguments, the store, what is wanted -/
def spA (K : Frg) (R : AN) : Sp := fun vs H Q _ => ∃ (F : Hp) (xs : List Va) (M : Sto) (Qa : AQ), OkM K F H M ∧ Paired (Rep K F) vs xs ∧ R xs M Qa ∧
  ∀ x M' v F' H', Qa x M' → Same F F' → OkM K F' H' M' → Rep K F' v x → Q v H'
theorem se_call {R : AN} {E : XK} {t : TA} {α : AA} (h1 : SA K t α) : SE K (tCall (spA K R) [] E t) (aCB R α) := by
  intro ρ M Qa σ F H Q ok qa k
  refine h1 ρ M _ σ F H _ ok qa fun xs M1 vs F1 H1 q1 s1 ok1 r1 => ?_
  show spA K R (vs ++ []) H1 Q E
  rw [List.append_nil]
  exact ⟨F1, xs, M1, Qa, ok1.toOkM, r1, q1, fun x M' v F' H' q2 s2 ok2 r2 => k x M' v F' H' q2 (s1.trans s2) ⟨ok2, env_mono s2 ok1.env⟩ r2⟩
def aMeth (C : Addr) (m : Str) (R : AN) (α : AE) (β : AA) : AE := fun ρ M Q => α ρ M fun x M1 => ∃ a fs l1 l2, x = .m a ∧ M1 = l1 ++ (a, .ins C fs) :: l2 ∧ fs.lookup m = none ∧ β ρ M1 fun xs M2 => R (x :: xs) M2 Q
theorem lookup_pair {F : Hp} {m : Str} : ∀ {vs : List (Str × V)} {fs : List (Str × Va)}, Paired (fun (p : Str × V) (q : Str × Va) => p.1 = q.1 ∧ Rep K F p.2 q.2) vs fs →
    (fs.lookup m = none → vs.lookup m = none) ∧ ∀ z, fs.lookup m = some z → ∃ v, vs.lookup m = some v ∧ Rep K F v z
  | _, _, .nil => ⟨fun _ => rfl, fun z h => by cases h⟩
  | (x, v) :: vs, (y, z) :: fs, .cons r t => by
    obtain ⟨e, r⟩ := r
    have e : x = y := e
    subst e
    obtain ⟨h1, h2⟩ := lookup_pair (m := m) t
    by_cases q : (m == x) = true
    · have e2 : m = x := eq_of_beq q
      subst e2
      refine ⟨fun h => ?_, fun z' h => ?_⟩
      · simp [List.lookup] at h
      · have : z = z' := by simpa [List.lookup] using h
        subst this
        exact ⟨v, by simp [List.lookup], r⟩
    · have q' : (m == x) = false := by simpa using q
      refine ⟨fun h => ?_, fun z' h => ?_⟩
      · simp only [List.lookup, q'] at h ⊢
        exact h1 h
      · simp only [List.lookup, q'] at h ⊢
        exact h2 z' h
theorem se_meth {C : Addr} {m : Str} {R : AN} {E : XK} {ta : TE} {t : TA} {α : AE} {β : AA} (h1 : SE K ta α) (h2 : SA K t β) : SE K (tMeth C m (spA K R) [] E ta t) (aMeth C m R α β) := by
  intro ρ M Qa σ F H Q ok qa k
  refine h1 ρ M _ σ F H _ ok qa fun x M1 v F1 H1 ⟨a, fs, l1, l2, e, em, hl, q1⟩ s1 ok1 r1 => ?_
  subst e
  have e' : v = .ref a := r1
  subst e'
  have ok1' := ok1.toOkM
  rw [em] at ok1'
  obtain ⟨dx, vs, g1, g2⟩ := ok1'.mid
  refine ⟨a, dx, vs, rfl, g1, (lookup_pair g2).1 hl, ?_⟩
  refine h2 ρ M1 _ σ F1 H1 _ ok1 q1 fun xs M2 vs F2 H2 q2 s2 ok2 r2 => ?_
  rw [List.append_nil]
  exact ⟨F2, .m a :: xs, M2, Qa, ok2.toOkM, .cons rfl r2, q2, fun x M' v F' H' q3 s3 ok3 r3 => k x M' v F' H' q3 ((s1.trans s2).trans s3) ⟨ok3, env_mono s3 ok2.env⟩ r3⟩
def aMake (C : Addr) (R : AN) (β : AA) : AE := fun ρ M Q => β ρ M fun xs M1 => ∀ x, R (.m x :: xs) ((x, .ins C []) :: M1) fun v M2 => v = .d .none ∧ Q (.m x) M2
theorem se_make {C : Addr} {R : AN} {E : XK} {t : TA} {β : AA} (h2 : SA K t β) : SE K (tMake C (spA K R) [] E t) (aMake C R β) := by
  intro ρ M Qa σ F H Q ok qa k
  refine h2 ρ M _ σ F H _ ok qa fun xs M1 vs F1 H1 q1 s1 ok1 r1 x dx hx hdx hne => ?_
  rw [List.append_nil]
  have ok2 := ok1.toOkM.other (o := .own x) hdx
  have hx2 : upd H1 dx (.own x) x = none := by rw [upd_ne (Ne.symm hne)]; exact hx
  have ok3 : OkM K F1 (upd (upd H1 dx (.own x)) x (.ins C dx [])) ((x, .ins C []) :: M1) := ok2.made hx2 ⟨dx, [], upd_same, .nil⟩
  refine ⟨F1, .m x :: xs, _, _, ok3, .cons rfl r1, q1 x, fun y M' v F' H' ⟨ey, q3⟩ s3 ok4 r3 => ?_⟩
  subst ey
  exact ⟨rep_none r3, k _ M' _ F' H' q3 (s1.trans s3) ⟨ok4, env_mono s3 ok1.env⟩ rfl⟩
/-- an instance with slots: made, then frozen -/
def aMakeSl (C : Addr) (R : AN) (β : AA) : AE := fun ρ M Q => β ρ M fun xs M1 => ∀ x dx, R (.m x :: xs) ((x, .sl C dx []) :: M1) fun v M2 => v = .d .none ∧ ∃ fs M3, M2 = (x, .sl C dx (fs.map fun d => some (Va.d d))) :: M3 ∧ fs ≠ [] ∧ Q (.o C fs) M3
theorem se_makeSl {C : Addr} {R : AN} {E : XK} {t : TA} {β : AA} (h2 : SA K t β) : SE K (tMake C (spA K R) [] E t) (aMakeSl C R β) := by
  intro ρ M Qa σ F H Q ok qa k
  refine h2 ρ M _ σ F H _ ok qa fun xs M1 vs F1 H1 q1 s1 ok1 r1 x dx hx hdx hne => ?_
  rw [List.append_nil]
  have ok2 := ok1.toOkM.other (o := .own x) hdx
  have hx2 : upd H1 dx (.own x) x = none := by rw [upd_ne (Ne.symm hne)]; exact hx
  have fdx : F1 dx = none := ok1.same.free hdx
  have ok3 : OkM K F1 (upd (upd H1 dx (.own x)) x (.ins C dx [])) ((x, .sl C dx []) :: M1) := by
    refine (ok2.other (o := .ins C dx []) hx2).made' (c := .sl C dx []) (by show [x, dx].Nodup; simp [Ne.symm hne]) (fun b hb => ?_) ⟨[], .inl ⟨upd_same, rfl⟩, .inl (by rw [upd_ne hne, upd_same]), fun i y hy => by simp at hy⟩
    rcases List.mem_cons.mp hb with e | e
    · rw [e]
      exact ⟨ok1.same.free hx, fun q hq hb2 => ok1.toOkM.ne hx q hq x hb2 rfl⟩
    · rw [List.mem_singleton.mp e]
      exact ⟨ok1.same.free hdx, fun q hq hb2 => ok1.toOkM.ne hdx q hq dx hb2 rfl⟩
  refine ⟨F1, .m x :: xs, _, _, ok3, .cons rfl r1, q1 x dx, fun y M' v F' H' ⟨ey, fs, M3, em, hne2, q3⟩ s3 ok4 r3 => ?_⟩
  subst ey; subst em
  refine ⟨rep_none r3, ?_⟩
  obtain ⟨us, g1, g2, g4⟩ := ok4.at_ _ List.mem_cons_self
  have g0 : F' x = none := ok4.fr _ List.mem_cons_self x (foot_self _)
  have g3 : F' dx = none := ok4.fr _ List.mem_cons_self dx (List.mem_cons_of_mem _ List.mem_cons_self)
  -- freeze
  have hx0 : us ≠ [] := by
    cases fs with
    | nil => exact absurd rfl hne2
    | cons d r =>
      intro z
      obtain ⟨u, e, _⟩ := g4 0 (.d d) rfl
      rw [z] at e
      simp at e
  have g1' : H' x = some (SlO x C dx us) ∧ H' dx = some (.xd []) := by
    rcases g1 with ⟨_, z⟩ | z
    · exact absurd z hx0
    · exact z
  have sF : Same F' (upd (upd F' dx (.xd [])) x (SlO x C dx us)) := fun b u e => by
    rw [upd_ne (ne_of_none e g0), upd_ne (ne_of_none e g3)]; exact e
  have ap := (OkM.apart (l1 := []) ok4).2
  have ok5 : OkM K F' H' M3 := OkM.drop (L := [_]) ok4
  have okF : OkM K (upd (upd F' dx (.xd [])) x (SlO x C dx us)) H' M3 := by
    refine ⟨fun b u e => ?_, ok5.nd, fun q hq b hb => ?_, fun q hq => repM_stay sF (ok5.at_ q hq) fun _ _ => rfl⟩
    · by_cases hb : b = x
      · subst hb; rw [upd_same] at e; cases e; exact g1'.1
      · rw [upd_ne hb] at e
        by_cases hb2 : b = dx
        · subst hb2; rw [upd_same] at e; cases e; exact g1'.2
        · rw [upd_ne hb2] at e; exact ok4.same _ _ e
    · have n := ap q (.inr hq) b hb
      rw [upd_ne fun e => n (by rw [e]; exact foot_self _), upd_ne fun e => n (by rw [e]; exact List.mem_cons_of_mem _ List.mem_cons_self)]
      exact ok5.fr q hq b hb
  refine k _ M3 _ _ _ q3 ((s1.trans s3).trans sF) ⟨okF, env_mono sF (env_mono s3 ok1.env)⟩ ⟨x, dx, us, rfl, .inr ⟨upd_same, by rw [upd_ne hne, upd_same]⟩, fun i d hd => ?_⟩
  obtain ⟨u, e, ru⟩ := g4 i (.d d) (by rw [List.getElem?_map, hd]; rfl)
  exact ⟨u, e, dp_mono sF _ _ ru⟩
end
end LN
namespace LN
open PySem PySem.Spec PyProof.Rows L2 SlX

section
variable {K : Frg}
/-! ### attributes of instances -/
def aFld (C : Addr) (f : Str) (α : AE) : AE := fun ρ M Q => α ρ M fun x M1 => ∃ a fs l1 l2 z, x = .m a ∧ M1 = l1 ++ (a, .ins C fs) :: l2 ∧ fs.lookup f = some z ∧ Q z M1
theorem se_fld {C : Addr} {f : Str} {t : TE} {α : AE} (hc : Cls K C) (hn : NoAttr K C f) (h : SE K t α) : SE K (tFld K t f) (aFld C f α) := by
  intro ρ M Qa σ F H Q ok qa k
  refine h ρ M _ σ F H _ ok qa fun x M1 v F1 H1 ⟨a, fs, l1, l2, z, e, em, hl, q1⟩ s1 ok1 r1 => ?_
  subst e
  have e' : v = .ref a := r1
  subst e'
  have ok1' := ok1.toOkM
  rw [em] at ok1'
  obtain ⟨dx, vs, g1, g2⟩ := ok1'.mid
  obtain ⟨u, h3, h4⟩ := (lookup_pair (m := f) g2).2 z hl
  exact ⟨a, C, dx, vs, u, rfl, g1, hc, hn, h3, k z M1 u F1 H1 q1 s1 ok1 h4⟩
def putA (f : Str) (v : Va) : List (Str × Va) → List (Str × Va)
  | [] => [(f, v)]
  | (g, x) :: r => if g = f then (g, v) :: r else (g, x) :: putA f v r
theorem put_pair {F : Hp} {f : Str} {v : V} {z : Va} (r : Rep K F v z) : ∀ {vs : List (Str × V)} {fs : List (Str × Va)}, Paired (fun (p : Str × V) (q : Str × Va) => p.1 = q.1 ∧ Rep K F p.2 q.2) vs fs →
    Paired (fun (p : Str × V) (q : Str × Va) => p.1 = q.1 ∧ Rep K F p.2 q.2) (putF f v vs) (putA f z fs)
  | _, _, .nil => .cons ⟨rfl, r⟩ .nil
  | (x, u) :: vs, (y, w) :: fs, .cons h t => by
    obtain ⟨e, h⟩ := h
    have e : x = y := e
    subst e
    unfold putF putA
    by_cases q : x = f
    · rw [if_pos q, if_pos q]
      exact .cons ⟨rfl, r⟩ t
    · rw [if_neg q, if_neg q]
      exact .cons ⟨rfl, h⟩ (put_pair r t)
def sFldA (C : Addr) (f : Str) (α β : AE) : AS := fun D ρ M => β ρ M fun y M1 => α ρ M1 fun x M2 => ∃ a fs l1 l2, x = .m a ∧ M2 = l1 ++ (a, .ins C fs) :: l2 ∧ fs.length < 1000 ∧ D.nx ρ (l1 ++ (a, .ins C (putA f y fs)) :: l2)
theorem ss_fld {C : Addr} {f : Str} {t u : TE} {α β : AE} (hc : Cls K C) (hn : NoAttr K C f) (h : SE K t α) (h2 : SE K u β) : SS K (sFld K t u f) (sFldA C f α β) := by
  intro ρ M Da σ F H D ok qa k _ _ _
  refine h2 ρ M _ σ F H _ ok qa fun y M1 w F1 H1 q1 s1 ok1 r1 => ?_
  refine h ρ M1 _ σ F1 H1 _ ok1 q1 fun x M2 v F2 H2 ⟨a, fs, l1, l2, e, em, hl, q2⟩ s2 ok2 r2 => ?_
  subst e; subst em
  have e' : v = .ref a := r2
  subst e'
  obtain ⟨dx, vs, g1, g2⟩ := ok2.toOkM.mid
  refine ⟨a, C, dx, vs, rfl, g1, hc, hn, by rw [pair_len g2]; exact hl, ?_⟩
  exact k ρ _ σ F2 _ q2 (s1.trans s2) (ok2.write ⟨dx, _, upd_same, put_pair (rep_mono s2 r1) g2⟩)
/-! ### slots -/
/-- read off a frozen instance -/
def aSlot (C : Addr) (i : Nat) (α : AE) : AE := fun ρ M Q => α ρ M fun x M1 => ∃ fs d, x = .o C fs ∧ fs[i]? = some d ∧ Q (.d d) M1
theorem se_slot {C p : Addr} {f : Str} {i : Nat} {t : TE} {α : AE} (hc : SCls K C) (hs : Slot1 K C f p i) (h : SE K t α) : SE K (SlX.tSl K t f) (aSlot C i α) := by
  intro ρ M Qa σ F H Q ok qa k
  refine h ρ M _ σ F H _ ok qa fun x M1 v F1 H1 ⟨fs, d, e, hd, q1⟩ s1 ok1 r1 => ?_
  subst e
  obtain ⟨a, dx, vs, rfl, g1, g2⟩ := r1
  obtain ⟨u, h3, h4⟩ := g2 i d hd
  exact ⟨a, C, dx, p, vs, i, u, rfl, slt_mono ok1.same g1, hc, hs, h3, k _ M1 u F1 H1 q1 s1 ok1 h4⟩
/-- read off one that is being made -/
def aSlotM (C : Addr) (i : Nat) (α : AE) : AE := fun ρ M Q => α ρ M fun x M1 => ∃ a dx vs l1 l2 z, x = .m a ∧ M1 = l1 ++ (a, .sl C dx vs) :: l2 ∧ vs[i]? = some (some z) ∧ Q z M1
theorem se_slotM {C p : Addr} {f : Str} {i : Nat} {t : TE} {α : AE} (hc : SCls K C) (hs : Slot1 K C f p i) (h : SE K t α) : SE K (SlX.tSl K t f) (aSlotM C i α) := by
  intro ρ M Qa σ F H Q ok qa k
  refine h ρ M _ σ F H _ ok qa fun x M1 v F1 H1 ⟨a, dx, vs, l1, l2, z, e, em, hd, q1⟩ s1 ok1 r1 => ?_
  subst e
  have e' : v = .ref a := r1
  subst e'
  have ok1' := ok1.toOkM
  rw [em] at ok1'
  obtain ⟨us, g1, _, g2⟩ := ok1'.mid
  obtain ⟨u, h3, h4⟩ := g2 i z hd
  exact ⟨a, C, dx, p, us, i, u, rfl, g1, hc, hs, h3, k _ M1 u F1 H1 q1 s1 ok1 h4⟩
def putO (i : Nat) (v : Va) (vs : List (Option Va)) : List (Option Va) := (vs ++ List.replicate (i + 1 - vs.length) none).set i (some v)
theorem putO_get (i : Nat) (v : Va) (vs : List (Option Va)) : (putO i v vs)[i]? = some (some v) := by
  unfold putO
  exact List.getElem?_set_self (by simp only [List.length_append, List.length_replicate]; omega)
theorem putO_ne {i j : Nat} {v x : Va} {vs : List (Option Va)} (h : j ≠ i) (e : (putO i v vs)[j]? = some (some x)) : vs[j]? = some (some x) := by
  unfold putO at e
  rw [List.getElem?_set_ne (Ne.symm h)] at e
  by_cases hj : j < vs.length
  · rwa [List.getElem?_append_left hj] at e
  · rw [List.getElem?_append_right (by omega), List.getElem?_replicate] at e
    split at e <;> cases e
/-- behind a store into a slot -/
theorem OkM.slot {F H : Hp} {l1 l2 : Sto} {a C dx : Addr} {vs : List (Option Va)} {us : List (Option V)} {i : Nat} {v : V} {z : Va} (ok : OkM K F H (l1 ++ (a, .sl C dx vs) :: l2)) (r : Rep K F v z)
    (hu : ∀ (j : Nat) (x : Va), vs[j]? = some (some x) → ∃ u, us[j]? = some (some u) ∧ Rep K F u x) : OkM K F (slH H a C dx (putS i v us)) (l1 ++ (a, .sl C dx (putO i z vs)) :: l2) := by
  have nd := ok.apart.1
  have hne : dx ≠ a := fun e => by
    have n : [a, dx].Nodup := nd
    rw [e] at n
    simp at n
  refine ok.write' rfl (fun b hb => ?_) ⟨putS i v us, slH_slt hne, .inr (by unfold slH; rw [upd_ne hne, upd_same]), fun j x hj => ?_⟩
  · have h1 : b ≠ a := fun e => hb (by rw [e]; exact List.mem_cons_self)
    have h2 : b ≠ dx := fun e => hb (by rw [e]; exact List.mem_cons_of_mem _ List.mem_cons_self)
    exact slH_ne h1 h2
  · by_cases e : j = i
    · subst e
      rw [putO_get] at hj
      cases hj
      exact ⟨v, putS_get _ _ _, r⟩
    · obtain ⟨u, h1, h2⟩ := hu j x (putO_ne e hj)
      exact ⟨u, (putS_ne e).mpr h1, h2⟩
def sSlotA (C : Addr) (i : Nat) (α β : AE) : AS := fun D ρ M => β ρ M fun y M1 => α ρ M1 fun x M2 => ∃ a dx vs l1 l2, x = .m a ∧ M2 = l1 ++ (a, .sl C dx vs) :: l2 ∧ D.nx ρ (l1 ++ (a, .sl C dx (putO i y vs)) :: l2)
theorem ss_slot {C p : Addr} {f : Str} {i : Nat} {t u : TE} {α β : AE} (hc : SCls K C) (hs : Slot1 K C f p i) (h : SE K t α) (h2 : SE K u β) : SS K (sSl K t u f) (sSlotA C i α β) := by
  intro ρ M Da σ F H D ok qa k _ _ _
  refine h2 ρ M _ σ F H _ ok qa fun y M1 w F1 H1 q1 s1 ok1 r1 => ?_
  refine h ρ M1 _ σ F1 H1 _ ok1 q1 fun x M2 v F2 H2 ⟨a, dx, vs, l1, l2, e, em, q2⟩ s2 ok2 r2 => ?_
  subst e; subst em
  have e' : v = .ref a := r2
  subst e'
  obtain ⟨us, g1, _, g2⟩ := ok2.toOkM.mid
  refine ⟨a, C, dx, p, us, i, rfl, g1, hc, hs, ?_⟩
  exact k ρ _ σ F2 _ q2 (s1.trans s2) ⟨ok2.toOkM.slot (rep_mono s2 r1) g2, ok2.env⟩
/-- o.f, a property -/
def aProp (C : Addr) (R : AN) (α : AE) : AE := fun ρ M Q => α ρ M fun x M1 => ∃ fs, x = .o C fs ∧ R [.o C fs] M1 Q
theorem se_prop {C : Addr} {R : AN} {E : XK} {t : TE} {α : AE} (h : SE K t α) : SE K (tPropSl C (spA K R) E t) (aProp C R α) := by
  intro ρ M Qa σ F H Q ok qa k
  refine h ρ M _ σ F H _ ok qa fun x M1 v F1 H1 ⟨fs, e, q1⟩ s1 ok1 r1 => ?_
  subst e
  obtain ⟨a, dx, vs, rfl, g1, g2⟩ := id r1
  exact ⟨a, dx, vs, rfl, slt_mono ok1.same g1, F1, [.o C fs], M1, Qa, ok1.toOkM, .cons r1 .nil, q1, fun x M' v F' H' q2 s2 ok2 r2 => k x M' v F' H' q2 (s1.trans s2) ⟨ok2, env_mono s2 ok1.env⟩ r2⟩

/-! ### dicts -/
def getA (kvs : List (Str × Va)) (k : Str) : Option Va := (kvs.find? fun kv => decide (kv.1 = k)).map (·.2)
def putD (kvs : List (Str × Va)) (k : Str) (v : Va) : List (Str × Va) :=
  if (kvs.any fun kv => decide (kv.1 = k)) = true then kvs.map (fun kv => if kv.1 = k then (kv.1, v) else kv) else kvs ++ [(k, v)]
abbrev PD (K : Frg) (F : Hp) (ks : List (Key × V)) (kvs : List (Str × Va)) : Prop := Paired (fun (p : Key × V) (q : Str × Va) => p.1 = Sum.inr q.1 ∧ Rep K F p.2 q.2) ks kvs
theorem dec_key (x k : Str) : decide ((Sum.inr x : Key) = Sum.inr k) = decide (x = k) := by
  by_cases e : x = k
  · subst e; simp
  · rw [decide_eq_false e, decide_eq_false fun z => e (Sum.inr.inj z)]
theorem get_pd {F : Hp} {k : Str} : ∀ {ks : List (Key × V)} {kvs : List (Str × Va)}, PD K F ks kvs → (∀ z, getA kvs k = some z → ∃ v, valV ks (Sum.inr k) = some v ∧ Rep K F v z) ∧ (getA kvs k = none → valV ks (Sum.inr k) = none)
  | _, _, .nil => ⟨(fun z h => nomatch h), fun _ => rfl⟩
  | (x, v) :: ks, (y, z) :: kvs, .cons r t => by
    obtain ⟨e, r⟩ := r
    have e : x = Sum.inr y := e
    subst e
    obtain ⟨h1, h2⟩ := get_pd (k := k) t
    by_cases q : y = k
    · subst q
      refine ⟨fun z' h => ?_, fun h => ?_⟩
      · have : z = z' := by simpa [getA] using h
        subst this
        exact ⟨v, by simp [valV], r⟩
      · simp [getA] at h
    · have q1 : decide (y = k) = false := decide_eq_false q
      refine ⟨fun z' h => ?_, fun h => ?_⟩
      · have h' : getA kvs k = some z' := by
          unfold getA at h ⊢
          rw [List.find?_cons_of_neg (by simpa using q)] at h
          exact h
        obtain ⟨u, e1, e2⟩ := h1 z' h'
        refine ⟨u, ?_, e2⟩
        unfold valV at e1 ⊢
        rw [List.find?_cons_of_neg (by simpa using q)]
        exact e1
      · have h' : getA kvs k = none := by
          unfold getA at h ⊢
          rw [List.find?_cons_of_neg (by simpa using q)] at h
          exact h
        have e1 := h2 h'
        unfold valV at e1 ⊢
        rw [List.find?_cons_of_neg (by simpa using q)]
        exact e1
theorem any_pd {F : Hp} {k : Str} : ∀ {ks : List (Key × V)} {kvs : List (Str × Va)}, PD K F ks kvs → (ks.any fun kv => decide (kv.1 = Sum.inr k)) = kvs.any fun kv => decide (kv.1 = k)
  | _, _, .nil => rfl
  | (x, v) :: ks, (y, z) :: kvs, .cons r t => by
    have e : x = Sum.inr y := r.1
    subst e
    simp only [List.any_cons]
    rw [any_pd t]
    show (decide ((Sum.inr y : Key) = Sum.inr k) || _) = _
    rw [dec_key]
theorem map_pd {F : Hp} {k : Str} {v : V} {z : Va} (r : Rep K F v z) : ∀ {ks : List (Key × V)} {kvs : List (Str × Va)}, PD K F ks kvs →
    PD K F (ks.map fun kv => if kv.1 = Sum.inr k then (kv.1, v) else kv) (kvs.map fun kv => if kv.1 = k then (kv.1, z) else kv)
  | _, _, .nil => .nil
  | (x, u) :: ks, (y, w) :: kvs, .cons h t => by
    have e : x = Sum.inr y := h.1
    subst e
    simp only [List.map_cons]
    by_cases q : y = k
    · subst q
      rw [if_pos rfl, if_pos rfl]
      exact .cons ⟨rfl, r⟩ (map_pd r t)
    · rw [if_neg (fun e => q (Sum.inr.inj e)), if_neg q]
      exact .cons h (map_pd r t)
theorem put_pd {F : Hp} {k : Str} {v : V} {z : Va} (r : Rep K F v z) {ks : List (Key × V)} {kvs : List (Str × Va)} (h : PD K F ks kvs) : PD K F (putK ks (Sum.inr k) v) (putD kvs k z) := by
  unfold putK putD
  rw [any_pd h]
  split
  · exact map_pd r h
  · exact paired_app h (.cons ⟨rfl, r⟩ .nil)
/-- d[k] -/
def aDGet (α β : AE) : AE := fun ρ M Q => α ρ M fun x M1 => β ρ M1 fun y M2 => ∃ a kvs k z l1 l2, x = .m a ∧ y = .d (.str k) ∧ M2 = l1 ++ (a, .dK kvs) :: l2 ∧ getA kvs k = some z ∧ Q z M2
theorem se_dget {t u : TE} {α β : AE} (h1 : SE K t α) (h2 : SE K u β) : SE K (tDGet t u) (aDGet α β) := by
  intro ρ M Qa σ F H Q ok qa k
  refine h1 ρ M _ σ F H _ ok qa fun x M1 v F1 H1 q1 s1 ok1 r1 => ?_
  refine h2 ρ M1 _ σ F1 H1 _ ok1 q1 fun y M2 w F2 H2 ⟨a, kvs, key, z, l1, l2, e1, e2, em, hz, q2⟩ s2 ok2 r2 => ?_
  subst e1; subst e2
  have e' : v = .ref a := r1
  subst e'
  have ok2' := ok2.toOkM
  rw [em] at ok2'
  obtain ⟨ks, g1, g2⟩ := ok2'.mid
  obtain ⟨u, h3, h4⟩ := (get_pd g2).1 z hz
  refine ⟨a, u, rfl, ?_, k z M2 u F2 H2 q2 (s1.trans s2) ok2 h4⟩
  rw [rep_str r2, ← h3]
  exact DGet.k (k := Sum.inr key) g1
/-- d.get(k, e) -/
def aDGet2 (α β γ : AE) : AE := fun ρ M Q => α ρ M fun x M1 => ∃ a, x = .m a ∧ (∃ kvs l1 l2, M1 = l1 ++ (a, .dK kvs) :: l2) ∧ β ρ M1 fun y M2 => γ ρ M2 fun z M3 => ∃ kvs k l1 l2, y = .d (.str k) ∧ M3 = l1 ++ (a, .dK kvs) :: l2 ∧ Q ((getA kvs k).getD z) M3
theorem se_dget2 {t u w : TE} {α β γ : AE} (h1 : SE K t α) (h2 : SE K u β) (h3 : SE K w γ) : SE K (tDGet2 t u w) (aDGet2 α β γ) := by
  intro ρ M Qa σ F H Q ok qa k
  refine h1 ρ M _ σ F H _ ok qa fun x M1 v F1 H1 ⟨a, e1, ⟨kvs0, m1, m2, em0⟩, q1⟩ s1 ok1 r1 => ?_
  subst e1
  have e' : v = .ref a := r1
  subst e'
  have ok1' := ok1.toOkM
  rw [em0] at ok1'
  obtain ⟨ks0, g0, _⟩ := ok1'.mid
  refine ⟨a, rfl, .inl ⟨ks0, .inl g0⟩, ?_⟩
  refine h2 ρ M1 _ σ F1 H1 _ ok1 q1 fun y M2 w F2 H2 q2 s2 ok2 r2 => ?_
  refine h3 ρ M2 _ σ F2 H2 _ ok2 q2 fun z M3 w3 F3 H3 ⟨kvs, key, l1, l2, e2, em, q3⟩ s3 ok3 r3 => ?_
  subst e2
  have ok3' := ok3.toOkM
  rw [em] at ok3'
  obtain ⟨ks, g1, g2⟩ := ok3'.mid
  refine ⟨valV ks (Sum.inr key), ?_, ?_⟩
  · rw [rep_str r2]
    exact DGet.k (k := Sum.inr key) g1
  · cases hz : getA kvs key with
    | none =>
      rw [(get_pd g2).2 hz]
      rw [hz] at q3
      exact k _ M3 _ F3 H3 q3 ((s1.trans s2).trans s3) ok3 r3
    | some z' =>
      obtain ⟨u, h5, h6⟩ := (get_pd g2).1 z' hz
      rw [h5]
      rw [hz] at q3
      exact k _ M3 _ F3 H3 q3 ((s1.trans s2).trans s3) ok3 h6
/-- d[k] = e -/
def sDPutA (α β γ : AE) : AS := fun D ρ M => γ ρ M fun z M1 => α ρ M1 fun x M2 => β ρ M2 fun y M3 => ∃ a kvs k l1 l2, x = .m a ∧ y = .d (.str k) ∧ M3 = l1 ++ (a, .dK kvs) :: l2 ∧ kvs.length ≤ 1000000 ∧ D.nx ρ (l1 ++ (a, .dK (putD kvs k z)) :: l2)
theorem ss_dput {t u w : TE} {α β γ : AE} (h1 : SE K t α) (h2 : SE K u β) (h3 : SE K w γ) : SS K (sDPut t u w) (sDPutA α β γ) := by
  intro ρ M Da σ F H D ok qa k _ _ _
  refine h3 ρ M _ σ F H _ ok qa fun z M1 v1 F1 H1 q1 s1 ok1 r1 => ?_
  refine h1 ρ M1 _ σ F1 H1 _ ok1 q1 fun x M2 v2 F2 H2 q2 s2 ok2 r2 => ?_
  refine h2 ρ M2 _ σ F2 H2 _ ok2 q2 fun y M3 v3 F3 H3 ⟨a, kvs, key, l1, l2, e1, e2, em, hl, q3⟩ s3 ok3 r3 => ?_
  subst e1; subst e2; subst em
  have e' : v2 = .ref a := r2
  subst e'
  obtain ⟨ks, g1, g2⟩ := ok3.toOkM.mid
  refine ⟨a, upd H3 a (.dK (putK ks (Sum.inr key) v1)), rfl, ?_, ?_⟩
  · rw [rep_str r3]
    exact DPut.k (k := Sum.inr key) g1 (by rw [pair_len g2]; exact size_lt hl)
  · exact k ρ _ σ F3 _ q3 ((s1.trans s2).trans s3) (ok3.write ⟨_, upd_same, put_pd (rep_mono (s2.trans s3) r1) g2⟩)

/-! ### methods of lists that are changed -/
abbrev AM := Va → List Va → Sto → AQ → Prop
def SM (K : Frg) (r : V → List V → Hp → VK → Prop) (R : AM) : Prop := ∀ (x : Va) (xs : List Va) (M : Sto) (Qa : AQ) (v : V) (vs : List V) (F H : Hp) (Q : VK), OkM K F H M → Rep K F v x → Paired (Rep K F) vs xs → R x xs M Qa →
  (∀ z M' u F' H', Qa z M' → Same F F' → OkM K F' H' M' → Rep K F' u z → Q u H') → r v vs H Q
def isLst : MO → Bool
  | .lst _ => true
  | _ => false
def aBMl (R : AM) (α : AE) (β : AA) : AE := fun ρ M Q => α ρ M fun x M1 => ∃ a xs0 l1 l2, x = .m a ∧ M1 = l1 ++ (a, .lst xs0) :: l2 ∧ β ρ M1 fun xs M2 => R x xs M2 Q
theorem se_bml {r : V → List V → Hp → VK → Prop} {R : AM} {t : TE} {u : TA} {α : AE} {β : AA} (hr : SM K r R) (h1 : SE K t α) (h2 : SA K u β) : SE K (tBM K "list" r t u) (aBMl R α β) := by
  intro ρ M Qa σ F H Q ok qa k
  refine h1 ρ M _ σ F H _ ok qa fun x M1 v F1 H1 ⟨a, xs0, l1, l2, e, em, q1⟩ s1 ok1 r1 => ?_
  subst e
  have e' : v = .ref a := r1
  subst e'
  have ok1' := ok1.toOkM
  rw [em] at ok1'
  obtain ⟨ks, g1, g2⟩ := ok1'.mid
  refine ⟨.inl ⟨rfl, ks, .inl (.inl g1)⟩, ?_⟩
  refine h2 ρ M1 _ σ F1 H1 _ ok1 q1 fun xs M2 ws F2 H2 q2 s2 ok2 r2 => ?_
  refine hr (.m a) xs M2 _ (.ref a) ws F2 H2 Q ok2.toOkM rfl r2 q2 fun z M' u F' H' q3 s3 ok3 r3 => ?_
  exact k z M' u F' H' q3 ((s1.trans s2).trans s3) ⟨ok3, env_mono s3 ok2.env⟩ r3
def RAppend : AM := fun x xs M Q => ∃ a ys y l1 l2, x = .m a ∧ xs = [y] ∧ M = l1 ++ (a, .lst ys) :: l2 ∧ ys.length ≤ 1000000 ∧ Q (.d .none) (l1 ++ (a, .lst (ys ++ [y])) :: l2)
theorem sm_append : SM K rAppend RAppend := by
  intro x xs M Qa v vs F H Q ok rx rxs ⟨a, ys, y, l1, l2, e1, e2, em, hl, q⟩ k
  subst e1; subst e2; subst em
  have e' : v = .ref a := rx
  subst e'
  obtain ⟨ks, g1, g2⟩ := ok.mid
  cases rxs with
  | cons r t =>
    cases t
    exact ⟨a, ks, _, rfl, rfl, g1, by rw [pair_len g2]; exact size_lt hl, k _ _ _ F _ q (Same.refl _) (ok.write ⟨_, upd_same, paired_app g2 (.cons r .nil)⟩) .non⟩
def RPopAt : AM := fun x xs M Q => ∃ (a : Addr) (ys : List Va) (i : Nat) (y : Va) (l1 l2 : Sto), x = .m a ∧ xs = [.d (.int (i : Int))] ∧ M = l1 ++ (a, .lst ys) :: l2 ∧ i ≤ 1000000 ∧ ys[i]? = some y ∧ Q y (l1 ++ (a, .lst (ys.eraseIdx i)) :: l2)
theorem seqIx {i n : Nat} (h : i < n) : seqIndex? (i : Int) n = some i := by
  unfold seqIndex?
  have h1 : ¬ ((i : Int) < 0) := by omega
  simp only [h1, if_false]
  have h2 : (decide (0 ≤ (i : Int)) && decide ((i : Int) < (n : Int))) = true := by simp; omega
  rw [if_pos h2]
  rfl
theorem sm_popAt : SM K rPopAt RPopAt := by
  intro x xs M Qa v vs F H Q ok rx rxs ⟨a, ys, i, y, l1, l2, e1, e2, em, hl, hy, q⟩ k
  subst e1; subst e2; subst em
  have e' : v = .ref a := rx
  subst e'
  obtain ⟨ks, g1, g2⟩ := ok.mid
  obtain ⟨u, h3, h4⟩ := paired_get g2 hy
  cases rxs with
  | cons r t =>
    cases t
    have hlt : i < ks.length := (List.getElem?_eq_some_iff.mp h3).1
    refine ⟨a, ks, (i : Int), i, u, rfl, by rw [rep_int r], g1, by omega, by omega, seqIx hlt, h3, ?_⟩
    exact k _ _ _ F _ q (Same.refl _) (ok.write ⟨_, upd_same, paired_erase i g2⟩) h4
end
end LN
namespace LN
open PySem PySem.Spec PyProof.Rows L2 SlX

section
variable {K : Frg}
/-! ### small statements -/
def sNext : AS := fun D ρ M => D.nx ρ M
theorem ss_next : SS K tNext sNext := fun ρ M Da σ F H D ok qa k _ _ _ => k ρ M σ F H qa (Same.refl _) ok
def sSeq (a b : AS) : AS := fun D ρ M => a { D with nx := b D } ρ M
theorem ss_seq {t u : TS} {a b : AS} (h1 : SS K t a) (h2 : SS K u b) : SS K (tSeq t u) (sSeq a b) := by
  intro ρ M Da σ F H D ok qa k1 k2 k3 k4
  refine h1 ρ M { Da with nx := b Da } σ F H { D with nx := u D } ok qa (fun ρ' M' σ' F' H' q s ok' => ?_) k2 k3 k4
  exact h2 ρ' M' Da σ' F' H' D ok' q (fun ρ2 M2 σ2 F2 H2 q2 s2 => k1 ρ2 M2 σ2 F2 H2 q2 (s.trans s2)) (fun x M2 v F2 H2 q2 s2 => k2 x M2 v F2 H2 q2 (s.trans s2))
    (fun ρ2 M2 σ2 F2 H2 q2 s2 => k3 ρ2 M2 σ2 F2 H2 q2 (s.trans s2)) (fun ρ2 M2 σ2 F2 H2 q2 s2 => k4 ρ2 M2 σ2 F2 H2 q2 (s.trans s2))
def sDrop (α : AE) : AS := fun D ρ M => α ρ M fun _ M1 => D.nx ρ M1
theorem ss_drop {t : TE} {α : AE} (h : SE K t α) : SS K (tDrop t) (sDrop α) := by
  intro ρ M Da σ F H D ok qa k1 _ _ _
  exact h ρ M _ σ F H _ ok qa fun x M1 v F1 H1 q1 s1 ok1 r1 => k1 ρ M1 σ F1 H1 q1 s1 ok1
def sRet (α : AE) : AS := fun D ρ M => α ρ M D.rt
theorem ss_ret {t : TE} {α : AE} (h : SE K t α) : SS K (tRet t) (sRet α) := by
  intro ρ M Da σ F H D ok qa _ k2 _ _
  exact h ρ M _ σ F H _ ok qa fun x M1 v F1 H1 q1 s1 ok1 r1 => k2 x M1 v F1 H1 q1 s1 ok1.toOkM r1
def sIf (t : AT) (a b : AS) : AS := fun D ρ M => t ρ M fun c M1 => if c = true then a D ρ M1 else b D ρ M1
theorem ss_if {t : TT} {u v : TS} {c : AT} {a b : AS} (h : ST K t c) (h1 : SS K u a) (h2 : SS K v b) : SS K (tIfS t u v) (sIf c a b) := by
  intro ρ M Da σ F H D ok qa k1 k2 k3 k4
  refine h ρ M _ σ F H _ ok qa fun c M1 F1 H1 q1 s1 ok1 => ?_
  cases c with
  | true => exact h1 ρ M1 Da σ F1 H1 D ok1 q1 (fun ρ2 M2 σ2 F2 H2 q2 s2 => k1 ρ2 M2 σ2 F2 H2 q2 (s1.trans s2)) (fun x M2 v F2 H2 q2 s2 => k2 x M2 v F2 H2 q2 (s1.trans s2)) (fun ρ2 M2 σ2 F2 H2 q2 s2 => k3 ρ2 M2 σ2 F2 H2 q2 (s1.trans s2)) (fun ρ2 M2 σ2 F2 H2 q2 s2 => k4 ρ2 M2 σ2 F2 H2 q2 (s1.trans s2))
  | false => exact h2 ρ M1 Da σ F1 H1 D ok1 q1 (fun ρ2 M2 σ2 F2 H2 q2 s2 => k1 ρ2 M2 σ2 F2 H2 q2 (s1.trans s2)) (fun x M2 v F2 H2 q2 s2 => k2 x M2 v F2 H2 q2 (s1.trans s2)) (fun ρ2 M2 σ2 F2 H2 q2 s2 => k3 ρ2 M2 σ2 F2 H2 q2 (s1.trans s2)) (fun ρ2 M2 σ2 F2 H2 q2 s2 => k4 ρ2 M2 σ2 F2 H2 q2 (s1.trans s2))
def sNever : AS := fun _ _ _ => False
theorem ss_never {t : TS} : SS K t sNever := fun ρ M Da σ F H D ok qa _ _ _ _ => qa.elim

/-! ### targets -/
abbrev AG := Va → AEnv → Sto → (AEnv → Sto → Prop) → Prop
def SG (K : Frg) (g : TG) (γ : AG) : Prop := ∀ (x : Va) (ρ : AEnv) (M : Sto) (Na : AEnv → Sto → Prop) (v : V) (σ : L2.St) (F H : Hp) (N : L2.St → Hp → Prop), Ok K ρ M σ F H → Rep K F v x → γ x ρ M Na →
  (∀ ρ' M' σ' F' H', Na ρ' M' → Same F F' → Ok K ρ' M' σ' F' H' → N σ' H') → g v σ H N
def gNm (i : Nat) : AG := fun x ρ M N => N (ρ.set i (some x)) M
theorem Ok.set {ρ : AEnv} {M : Sto} {σ : L2.St} {F H : Hp} {v : V} {x : Va} (ok : Ok K ρ M σ F H) (r : Rep K F v x) (i : Nat) : Ok K (ρ.set i (some x)) M (σ.set i (some v)) F H := ⟨ok.toOkM, paired_set (R := RepO K F) (show RepO K F (some v) (some x) from ⟨v, rfl, r⟩) i ok.env⟩
theorem sg_nm {i : Nat} : SG K (gName i) (gNm i) := fun x ρ M Na v σ F H N ok r q k => k _ M _ F H q (Same.refl _) (ok.set r i)
abbrev AGs := List Va → AEnv → Sto → (AEnv → Sto → Prop) → Prop
def SGs (K : Frg) (g : TGs) (γ : AGs) : Prop := ∀ (xs : List Va) (ρ : AEnv) (M : Sto) (Na : AEnv → Sto → Prop) (vs : List V) (σ : L2.St) (F H : Hp) (N : L2.St → Hp → Prop), Ok K ρ M σ F H → Paired (Rep K F) vs xs → γ xs ρ M Na →
  (∀ ρ' M' σ' F' H', Na ρ' M' → Same F F' → Ok K ρ' M' σ' F' H' → N σ' H') → g vs σ H N
def gsNil : AGs := fun xs ρ M N => xs = [] ∧ N ρ M
def gsCons (a : AG) (b : AGs) : AGs := fun xs ρ M N => ∃ x r, xs = x :: r ∧ a x ρ M fun ρ' M' => b r ρ' M' N
theorem sgs_nil : SGs K gNil gsNil := by
  intro xs ρ M Na vs σ F H N ok r ⟨e, q⟩ k
  subst e
  cases r
  exact ⟨rfl, k ρ M σ F H q (Same.refl _) ok⟩
theorem sgs_cons {g : TG} {gs : TGs} {a : AG} {b : AGs} (h1 : SG K g a) (h2 : SGs K gs b) : SGs K (gCons g gs) (gsCons a b) := by
  intro xs ρ M Na vs σ F H N ok r ⟨x, xr, e, q⟩ k
  subst e
  cases r with
  | cons r1 rr =>
    refine ⟨_, _, rfl, h1 x ρ M _ _ σ F H _ ok r1 q fun ρ' M' σ' F' H' q1 s1 ok1 => ?_⟩
    exact h2 xr ρ' M' Na _ σ' F' H' N ok1 (reps_mono s1 rr) q1 fun ρ2 M2 σ2 F2 H2 q2 s2 => k ρ2 M2 σ2 F2 H2 q2 (s1.trans s2)
/-- a tuple's items -/
def tupOf : Va → Option (List PyData)
  | .d (.tuple ds) => some ds
  | .w ds => some ds
  | _ => none
theorem rep_tupOf {F : Hp} {v : V} {ds : List PyData} : ∀ {x : Va}, tupOf x = some ds → Rep K F v x → ∃ a xs, v = .ref a ∧ SqT K F a xs ∧ DsAll K F xs ds
  | .d (.tuple es), e, h => by cases e; exact rep_tup h
  | .w es, e, h => by cases e; exact h
  | .d .none, e, _ => by cases e
  | .d (.bool _), e, _ => by cases e
  | .d (.int _), e, _ => by cases e
  | .d (.str _), e, _ => by cases e
  | .d (.list _), e, _ => by cases e
  | .d (.dict _), e, _ => by cases e
  | .m _, e, _ => by cases e
  | .o _ _, e, _ => by cases e
  | .p _, e, _ => by cases e
def gTp (n : Nat) (b : AGs) : AG := fun x ρ M N => ∃ ds, tupOf x = some ds ∧ ds.length = n ∧ b (ds.map .d) ρ M N
theorem sg_tup {n : Nat} {gs : TGs} {b : AGs} (h : SGs K gs b) : SG K (gTup K n gs) (gTp n b) := by
  intro x ρ M Na v σ F H N ok r ⟨ds, e, hl, q⟩ k
  obtain ⟨a, xs, rfl, h1, h2⟩ := rep_tupOf e r
  exact ⟨a, xs, rfl, okM_sqt ok.toOkM h1, by rw [dps_len h2]; exact hl, h (ds.map .d) ρ M Na xs σ F H N ok (rep_map h2) q k⟩
def gDct (α β : AE) : AG := fun z ρ M N => α ρ M fun x M1 => β ρ M1 fun y M2 => ∃ a kvs k l1 l2, x = .m a ∧ y = .d (.str k) ∧ M2 = l1 ++ (a, .dK kvs) :: l2 ∧ kvs.length ≤ 1000000 ∧ N ρ (l1 ++ (a, .dK (putD kvs k z)) :: l2)
theorem sg_dct {t u : TE} {α β : AE} (h1 : SE K t α) (h2 : SE K u β) : SG K (gSub t u rSetD) (gDct α β) := by
  intro z ρ M Na vz σ F H N ok r q k
  refine h1 ρ M _ σ F H _ ok q fun x M1 v F1 H1 q1 s1 ok1 r1 => ?_
  refine h2 ρ M1 _ σ F1 H1 _ ok1 q1 fun y M2 w F2 H2 ⟨a, kvs, key, l1, l2, e1, e2, em, hl, q2⟩ s2 ok2 r2 => ?_
  subst e1; subst e2; subst em
  have e' : v = .ref a := r1
  subst e'
  obtain ⟨ks, g1, g2⟩ := ok2.toOkM.mid
  refine ⟨a, upd H2 a (.dK (putK ks (Sum.inr key) vz)), rfl, ?_, ?_⟩
  · rw [rep_str r2]
    exact DPut.k (k := Sum.inr key) g1 (by rw [pair_len g2]; exact size_lt hl)
  · exact k ρ _ σ F2 _ q2 (s1.trans s2) (ok2.write ⟨_, upd_same, put_pd (rep_mono (s1.trans s2) r) g2⟩)
/-- l[i] as a target -/
def gLs (α β : AE) : AG := fun z ρ M N => α ρ M fun x M1 => β ρ M1 fun y M2 => ∃ (a : Addr) (xs : List Va) (i : Int) (j : Nat) (l1 l2 : Sto), x = .m a ∧ y = .d (.int i) ∧ M2 = l1 ++ (a, .lst xs) :: l2 ∧ ixN xs.length i = some j ∧ N ρ (l1 ++ (a, .lst (xs.set j z)) :: l2)
theorem sg_ls {t u : TE} {α β : AE} (h1 : SE K t α) (h2 : SE K u β) : SG K (gSub t u rSetL) (gLs α β) := by
  intro z ρ M Na vz σ F H N ok r q k
  refine h1 ρ M _ σ F H _ ok q fun x M1 v F1 H1 q1 s1 ok1 r1 => ?_
  refine h2 ρ M1 _ σ F1 H1 _ ok1 q1 fun y M2 w F2 H2 ⟨a, xs, i, j, l1, l2, e1, e2, em, hl, q2⟩ s2 ok2 r2 => ?_
  subst e1; subst e2; subst em
  have e' : v = .ref a := r1
  subst e'
  obtain ⟨ks, g1, g2⟩ := ok2.toOkM.mid
  refine ⟨a, ks, i, j, rfl, rep_int r2, g1, by rw [pair_len g2]; exact hl, ?_⟩
  exact k ρ _ σ F2 _ q2 (s1.trans s2) (ok2.write ⟨_, upd_same, paired_set (rep_mono (s1.trans s2) r) j g2⟩)
def sAsg (α : AE) (γ : AG) : AS := fun D ρ M => α ρ M fun x M1 => γ x ρ M1 D.nx
theorem ss_asg {t : TE} {g : TG} {α : AE} {γ : AG} (h1 : SE K t α) (h2 : SG K g γ) : SS K (tAsg t g) (sAsg α γ) := by
  intro ρ M Da σ F H D ok qa k1 _ _ _
  refine h1 ρ M _ σ F H _ ok qa fun x M1 v F1 H1 q1 s1 ok1 r1 => ?_
  exact h2 x ρ M1 Da.nx v σ F1 H1 D.nx ok1 r1 q1 fun ρ2 M2 σ2 F2 H2 q2 s2 => k1 ρ2 M2 σ2 F2 H2 q2 (s1.trans s2)
def sPar (i j : Nat) (β : AA) : AS := fun D ρ M => β ρ M fun xs M1 => ∃ x y, xs = [x, y] ∧ D.nx ((ρ.set i (some x)).set j (some y)) M1
theorem ss_par {i j : Nat} {t : TA} {β : AA} (h : SA K t β) : SS K (tPar i j t) (sPar i j β) := by
  intro ρ M Da σ F H D ok qa k1 _ _ _
  refine h ρ M _ σ F H _ ok qa fun xs M1 vs F1 H1 ⟨x, y, e, q1⟩ s1 ok1 r1 => ?_
  subst e
  cases r1 with
  | cons r1 rr =>
    cases rr with
    | cons r2 rr =>
      cases rr
      exact ⟨_, _, rfl, k1 _ M1 _ F1 H1 q1 s1 ((ok1.set r1 i).set r2 j)⟩

/-! ### while -/
def sWhile (c : AT) (b : AS) : AS := fun D ρ M => ∃ W : Nat → AEnv → Sto → Prop, (∃ m, W m ρ M) ∧ ∀ m ρ M, W m ρ M → c ρ M fun k M1 => if k = true then b { D with nx := fun ρ' M' => ∃ m', m' < m ∧ W m' ρ' M', ct := fun ρ' M' => ∃ m', m' < m ∧ W m' ρ' M', bk := D.nx } ρ M1 else D.nx ρ M1
theorem ss_while {t : TT} {u : TS} {c : AT} {b : AS} (h : ST K t c) (h1 : SS K u b) : SS K (tWhile t u) (sWhile c b) := by
  intro ρ M Da σ F H D ok ⟨W, ⟨m0, w0⟩, turn⟩ k1 k2 k3 k4
  refine ⟨fun m σ' H' => ∃ ρ' M' F', Same F F' ∧ Ok K ρ' M' σ' F' H' ∧ W m ρ' M', ⟨m0, ρ, M, F, Same.refl _, ok, w0⟩, fun m σ' H' ⟨ρ', M', F', s0, ok', w⟩ => ?_⟩
  refine h ρ' M' _ σ' F' H' _ ok' (turn m ρ' M' w) fun c M1 F1 H1 q1 s1 ok1 => ?_
  cases c with
  | false => exact k1 ρ' M1 σ' F1 H1 q1 (s0.trans s1) ok1
  | true =>
    refine ⟨fun σ2 H2 => ∃ m', m' < m ∧ ∃ ρ2 M2 F2, Same F F2 ∧ Ok K ρ2 M2 σ2 F2 H2 ∧ W m' ρ2 M2, fun _ _ z => z, ?_⟩
    have nxt : ∀ ρ2 M2 σ2 F2 H2, (∃ m', m' < m ∧ W m' ρ2 M2) → Same F1 F2 → Ok K ρ2 M2 σ2 F2 H2 → ∃ m', m' < m ∧ ∃ ρ2 M2 F2, Same F F2 ∧ Ok K ρ2 M2 σ2 F2 H2 ∧ W m' ρ2 M2 :=
      fun ρ2 M2 σ2 F2 H2 ⟨m', hm, w'⟩ s2 ok2 => ⟨m', hm, ρ2, M2, F2, (s0.trans s1).trans s2, ok2, w'⟩
    exact h1 ρ' M1 _ σ' F1 H1 _ ok1 q1 nxt (fun x M2 v F2 H2 q2 s2 => k2 x M2 v F2 H2 q2 ((s0.trans s1).trans s2)) (fun ρ2 M2 σ2 F2 H2 q2 s2 => k1 ρ2 M2 σ2 F2 H2 q2 ((s0.trans s1).trans s2)) nxt

/-! ### what is walked -/
structure WalkA (K : Frg) (F : Hp) (J : It) (items : List Va) : Prop where
  goes : ∀ (H : Hp) (i : Nat), Same F H → i < items.length → J.go i H
  stops : ∀ (H : Hp), Same F H → J.stop items.length H
  ylds : ∀ (F' H : Hp) (M : Sto) (i : Nat) (x : V) (H' : Hp) (d : Va), Same F F' → OkM K F' H M → items[i]? = some d → J.yld i H x H' → ∃ F'', Same F' F'' ∧ OkM K F'' H' M ∧ Rep K F'' x d
theorem map_at {ds : List PyData} {i : Nat} {d : Va} (e : (ds.map Va.d)[i]? = some d) : ∃ x, ds[i]? = some x ∧ d = .d x := by
  rw [List.getElem?_map] at e
  cases q : ds[i]? with
  | none => rw [q] at e; cases e
  | some x => rw [q] at e; cases e; exact ⟨x, rfl, rfl⟩
theorem wa_list {F : Hp} {a : Addr} {vs : List V} {ds : List PyData} (h : SqL K F a vs) (hd : DsAll K F vs ds) : WalkA K F (Itl K a) (ds.map .d) where
  goes := fun H i s hi => by
    rw [List.length_map] at hi
    obtain ⟨x, e, _⟩ := dps_get hd (List.getElem?_eq_getElem hi)
    exact ⟨vs, x, s.seq h, e⟩
  stops := fun H s => ⟨vs, s.seq h, by rw [dps_len hd, List.length_map]; exact Nat.le_refl _⟩
  ylds := fun F' H M i x H' d s ok e y => by
    obtain ⟨eH, y⟩ := y
    subst eH
    obtain ⟨z, e', rfl⟩ := map_at e
    obtain ⟨v, e1, e2⟩ := dps_get hd e'
    have e3 := y vs ((s.trans ok.same).seq h)
    rw [e1] at e3
    cases e3
    exact ⟨F', Same.refl _, ok, dp_mono s _ _ e2⟩
theorem wa_tup {F : Hp} {a : Addr} {vs : List V} {ds : List PyData} (h : SqT K F a vs) (hd : DsAll K F vs ds) : WalkA K F (Itt K a) (ds.map .d) where
  goes := fun H i s hi => by
    rw [List.length_map] at hi
    obtain ⟨x, e, _⟩ := dps_get hd (List.getElem?_eq_getElem hi)
    exact ⟨vs, x, Same.sqt s h, e⟩
  stops := fun H s => ⟨vs, Same.sqt s h, by rw [dps_len hd, List.length_map]; exact Nat.le_refl _⟩
  ylds := fun F' H M i x H' d s ok e y => by
    obtain ⟨eH, y⟩ := y
    subst eH
    obtain ⟨z, e', rfl⟩ := map_at e
    obtain ⟨v, e1, e2⟩ := dps_get hd e'
    have e3 := y vs (Same.sqt (s.trans ok.same) h)
    rw [e1] at e3
    cases e3
    exact ⟨F', Same.refl _, ok, dp_mono s _ _ e2⟩
def zipD : List PyData → List PyData → List Va
  | x :: xs, y :: ys => .w [x, y] :: zipD xs ys
  | _, _ => []
theorem zipD_len : ∀ xs ys, (zipD xs ys).length = min xs.length ys.length
  | [], _ => by simp [zipD]
  | _ :: _, [] => by simp [zipD]
  | x :: xs, y :: ys => by simp only [zipD, List.length_cons, zipD_len xs ys]; omega
theorem zipD_get : ∀ {xs ys : List PyData} {i : Nat} {d : Va}, (zipD xs ys)[i]? = some d → ∃ x y, xs[i]? = some x ∧ ys[i]? = some y ∧ d = .w [x, y]
  | [], _, i, d, h => by simp [zipD] at h
  | _ :: _, [], i, d, h => by simp [zipD] at h
  | x :: xs, y :: ys, 0, d, h => by
    have : Va.w [x, y] = d := by simpa [zipD] using h
    exact ⟨x, y, rfl, rfl, this.symm⟩
  | x :: xs, y :: ys, i + 1, d, h => by
    obtain ⟨x', y', h1, h2, h3⟩ := zipD_get (xs := xs) (ys := ys) (i := i) (d := d) (by simpa [zipD] using h)
    exact ⟨x', y', by simpa using h1, by simpa using h2, h3⟩
/-- a new pair, frozen -/
theorem pair_new {F' H : Hp} {M : Sto} {T : Addr} {u v : V} {d e : PyData} (ok : OkM K F' H M) (hT : H T = none) (h1 : Ds K F' u d) (h2 : Ds K F' v e) : ∃ F'', Same F' F'' ∧ OkM K F'' (upd H T (.tup [u, v])) M ∧ Rep K F'' (.ref T) (.w [d, e]) := by
  obtain ⟨ok2, s2⟩ := ok.frozen (o := .tup [u, v]) hT
  exact ⟨_, s2, ok2, T, _, rfl, .inl (.inl upd_same), .cons (dp_mono s2 _ _ h1) (.cons (dp_mono s2 _ _ h2) .nil)⟩
theorem wa_zip {F : Hp} {a b : Addr} {vs ws : List V} {ds es : List PyData} (h : SqL K F a vs) (hd : DsAll K F vs ds) (k : SqL K F b ws) (kd : DsAll K F ws es) : WalkA K F (Itz K a b) (zipD ds es) where
  goes := fun H i s hi => by
    rw [zipD_len] at hi
    obtain ⟨x, e, _⟩ := dps_get hd (List.getElem?_eq_getElem (show i < ds.length by omega))
    obtain ⟨y, e', _⟩ := dps_get kd (List.getElem?_eq_getElem (show i < es.length by omega))
    exact ⟨vs, ws, x, y, s.seq h, s.seq k, e, e'⟩
  stops := fun H s => ⟨vs, ws, s.seq h, s.seq k, by rw [dps_len hd, dps_len kd, zipD_len]; omega⟩
  ylds := fun F' H M i x H' d s ok e y => by
    obtain ⟨T, u, v, rfl, hT, rfl, y1, y2⟩ := y
    obtain ⟨d1, d2, g1, g2, rfl⟩ := zipD_get e
    obtain ⟨u', e1, e2⟩ := dps_get hd g1
    obtain ⟨v', e3, e4⟩ := dps_get kd g2
    have z1 := y1 vs ((s.trans ok.same).seq h)
    rw [e1] at z1; cases z1
    have z2 := y2 ws ((s.trans ok.same).seq k)
    rw [e3] at z2; cases z2
    exact pair_new ok hT (dp_mono s _ _ e2) (dp_mono s _ _ e4)
theorem wa_zipT {F : Hp} {a b : Addr} {vs ws : List V} {ds es : List PyData} (h : SqT K F a vs) (hd : DsAll K F vs ds) (k : SqT K F b ws) (kd : DsAll K F ws es) : WalkA K F (RZ.ItzT K a b) (zipD ds es) where
  goes := fun H i s hi => by
    rw [zipD_len] at hi
    obtain ⟨x, e, _⟩ := dps_get hd (List.getElem?_eq_getElem (show i < ds.length by omega))
    obtain ⟨y, e', _⟩ := dps_get kd (List.getElem?_eq_getElem (show i < es.length by omega))
    exact ⟨vs, ws, x, y, Same.sqt s h, Same.sqt s k, e, e'⟩
  stops := fun H s => ⟨vs, ws, Same.sqt s h, Same.sqt s k, by rw [dps_len hd, dps_len kd, zipD_len]; omega⟩
  ylds := fun F' H M i x H' d s ok e y => by
    obtain ⟨T, u, v, rfl, hT, rfl, y1, y2⟩ := y
    obtain ⟨d1, d2, g1, g2, rfl⟩ := zipD_get e
    obtain ⟨u', e1, e2⟩ := dps_get hd g1
    obtain ⟨v', e3, e4⟩ := dps_get kd g2
    have z1 := y1 vs (Same.sqt (s.trans ok.same) h)
    rw [e1] at z1; cases z1
    have z2 := y2 ws (Same.sqt (s.trans ok.same) k)
    rw [e3] at z2; cases z2
    exact pair_new ok hT (dp_mono s _ _ e2) (dp_mono s _ _ e4)
def enumD : Nat → List PyData → List Va
  | _, [] => []
  | i, d :: r => .w [.int i, d] :: enumD (i + 1) r
theorem enumD_len : ∀ i xs, (enumD i xs).length = xs.length
  | _, [] => rfl
  | i, _ :: r => by simp only [enumD, List.length_cons, enumD_len (i + 1) r]
theorem enumD_get : ∀ {xs : List PyData} {k i : Nat} {d : Va}, (enumD k xs)[i]? = some d → ∃ x, xs[i]? = some x ∧ d = .w [.int ((k + i : Nat) : Int), x]
  | [], k, i, d, h => by simp [enumD] at h
  | x :: xs, k, 0, d, h => by
    have : Va.w [.int (k : Int), x] = d := by simpa [enumD] using h
    exact ⟨x, rfl, this.symm⟩
  | x :: xs, k, i + 1, d, h => by
    obtain ⟨x', h1, h3⟩ := enumD_get (xs := xs) (k := k + 1) (i := i) (d := d) (by simpa [enumD] using h)
    exact ⟨x', by simpa using h1, by rw [h3]; congr 3; omega⟩
theorem wa_enum {F : Hp} {a : Addr} {vs : List V} {ds : List PyData} (h : SqL K F a vs) (hd : DsAll K F vs ds) : WalkA K F (Ite K a) (enumD 0 ds) where
  goes := fun H i s hi => by
    rw [enumD_len] at hi
    obtain ⟨x, e, _⟩ := dps_get hd (List.getElem?_eq_getElem hi)
    exact ⟨vs, x, s.seq h, e⟩
  stops := fun H s => ⟨vs, s.seq h, by rw [dps_len hd, enumD_len]; exact Nat.le_refl _⟩
  ylds := fun F' H M i x H' d s ok e y => by
    obtain ⟨T, u, rfl, hT, rfl, y1⟩ := y
    obtain ⟨d1, g1, rfl⟩ := enumD_get e
    obtain ⟨u', e1, e2⟩ := dps_get hd g1
    have z1 := y1 vs ((s.trans ok.same).seq h)
    rw [e1] at z1; cases z1
    rw [Nat.zero_add]
    exact pair_new ok hT (.int _) (dp_mono s _ _ e2)
def rangeD (n : Nat) : List Va := (List.range n).map fun (i : Nat) => .d (.int (i : Int))
theorem wa_range {F : Hp} {n : Nat} : WalkA K F (Itr 0 n) (rangeD n) where
  goes := fun H i s hi => by
    unfold rangeD at hi
    rw [List.length_map, List.length_range] at hi
    exact hi
  stops := fun H s => by
    unfold rangeD
    rw [List.length_map, List.length_range]
    exact Nat.le_refl _
  ylds := fun F' H M i x H' d s ok e y => by
    obtain ⟨eH, ex⟩ := y
    subst eH; subst ex
    unfold rangeD at e
    rw [List.getElem?_map] at e
    cases q : (List.range n)[i]? with
    | none => rw [q] at e; cases e
    | some j =>
      rw [q] at e
      have hj : j = i := by
        obtain ⟨hl, hv⟩ := List.getElem?_eq_some_iff.mp q
        rw [List.getElem_range] at hv
        exact hv.symm
      subst hj
      cases e
      rw [Int.zero_add]
      exact ⟨F', Same.refl _, ok, .int _⟩
def charsD (x : Str) : List PyData := x.cps.toList.map fun c => .str ⟨#[c]⟩
theorem wa_str {F : Hp} {x : Str} : WalkA K F (Its x) ((charsD x).map .d) where
  goes := fun H i s hi => by
    unfold charsD at hi
    rw [List.length_map, List.length_map, Array.length_toList] at hi
    exact hi
  stops := fun H s => by
    unfold charsD
    rw [List.length_map, List.length_map, Array.length_toList]
    exact Nat.le_refl _
  ylds := fun F' H M i v H' d s ok e y => by
    obtain ⟨eH, c, hc, ev⟩ := y
    subst eH; subst ev
    obtain ⟨z, e', rfl⟩ := map_at e
    unfold charsD at e'
    rw [List.getElem?_map, Array.getElem?_toList, hc] at e'
    cases e'
    exact ⟨F', Same.refl _, ok, .str _⟩
abbrev AI := AEnv → Sto → (List Va → Sto → Prop) → Prop
def SI (K : Frg) (wi : TI) (ι : AI) : Prop := ∀ (ρ : AEnv) (M : Sto) (Qa : List Va → Sto → Prop) (σ : L2.St) (F H : Hp) (R : It → Hp → Prop), Ok K ρ M σ F H → ι ρ M Qa →
  (∀ items M' F' H' J, Qa items M' → Same F F' → Ok K ρ M' σ F' H' → WalkA K F' J items → R J H') → wi σ H R
def iLst (α : AE) : AI := fun ρ M Q => α ρ M fun x M1 => ∃ ds, x = .d (.list ds) ∧ Q (ds.map .d) M1
theorem si_lst {t : TE} {α : AE} (h : SE K t α) : SI K (iList K t) (iLst α) := by
  intro ρ M Qa σ F H R ok qa k
  refine h ρ M _ σ F H _ ok qa fun x M1 v F1 H1 ⟨ds, e, q⟩ s1 ok1 r1 => ?_
  subst e
  obtain ⟨a, vs, rfl, h1, h2⟩ := rep_lst r1
  exact ⟨a, rfl, ⟨vs, okM_sql ok1.toOkM h1⟩, k _ M1 F1 H1 _ q s1 ok1 (wa_list h1 h2)⟩
def iTp (α : AE) : AI := fun ρ M Q => α ρ M fun x M1 => ∃ ds, x = .d (.tuple ds) ∧ Q (ds.map .d) M1
theorem si_tup {t : TE} {α : AE} (h : SE K t α) : SI K (iTup K t) (iTp α) := by
  intro ρ M Qa σ F H R ok qa k
  refine h ρ M _ σ F H _ ok qa fun x M1 v F1 H1 ⟨ds, e, q⟩ s1 ok1 r1 => ?_
  subst e
  obtain ⟨a, vs, rfl, h1, h2⟩ := rep_tup r1
  exact ⟨a, rfl, ⟨vs, okM_sqt ok1.toOkM h1⟩, k _ M1 F1 H1 _ q s1 ok1 (wa_tup h1 h2)⟩
def iSt (α : AE) : AI := fun ρ M Q => α ρ M fun x M1 => ∃ z, x = .d (.str z) ∧ Q ((charsD z).map .d) M1
theorem si_str {t : TE} {α : AE} (h : SE K t α) : SI K (iStr t) (iSt α) := by
  intro ρ M Qa σ F H R ok qa k
  refine h ρ M _ σ F H _ ok qa fun x M1 v F1 H1 ⟨z, e, q⟩ s1 ok1 r1 => ?_
  subst e
  exact ⟨z, rep_str r1, k _ M1 F1 H1 _ q s1 ok1 wa_str⟩
def iZp (β : AA) : AI := fun ρ M Q => β ρ M fun xs M1 => ∃ ds es, xs = [.d (.list ds), .d (.list es)] ∧ Q (zipD ds es) M1
theorem si_zip {t : TA} {β : AA} (h : SA K t β) : SI K (iZip K t) (iZp β) := by
  intro ρ M Qa σ F H R ok qa k
  refine h ρ M _ σ F H _ ok qa fun xs M1 vs F1 H1 ⟨ds, es, e, q⟩ s1 ok1 r1 => ?_
  subst e
  cases r1 with
  | cons r1 rr =>
    cases rr with
    | cons r2 rr =>
      cases rr
      obtain ⟨a, us, rfl, h1, h2⟩ := rep_lst r1
      obtain ⟨b, ws, rfl, h3, h4⟩ := rep_lst r2
      exact ⟨a, b, us, ws, rfl, okM_sql ok1.toOkM h1, okM_sql ok1.toOkM h3, k _ M1 F1 H1 _ q s1 ok1 (wa_zip h1 h2 h3 h4)⟩
/-- zip of two lists, of two tuples -/
def iZpA (β : AA) : AI := fun ρ M Q => β ρ M fun xs M1 => ∃ ds es, (xs = [.d (.list ds), .d (.list es)] ∨ xs = [.d (.tuple ds), .d (.tuple es)]) ∧ Q (zipD ds es) M1
theorem si_zipA {t : TA} {β : AA} (h : SA K t β) : SI K (RZ.iZipA K t) (iZpA β) := by
  intro ρ M Qa σ F H R ok qa k
  refine h ρ M _ σ F H _ ok qa fun xs M1 vs F1 H1 ⟨ds, es, e, q⟩ s1 ok1 r1 => ?_
  rcases e with e | e
  · subst e
    cases r1 with
    | cons r1 rr =>
      cases rr with
      | cons r2 rr =>
        cases rr
        obtain ⟨a, us, rfl, h1, h2⟩ := rep_lst r1
        obtain ⟨b, ws, rfl, h3, h4⟩ := rep_lst r2
        exact ⟨a, b, us, ws, rfl, .inl ⟨okM_sql ok1.toOkM h1, okM_sql ok1.toOkM h3, k _ M1 F1 H1 _ q s1 ok1 (wa_zip h1 h2 h3 h4)⟩⟩
  · subst e
    cases r1 with
    | cons r1 rr =>
      cases rr with
      | cons r2 rr =>
        cases rr
        obtain ⟨a, us, rfl, h1, h2⟩ := rep_tup r1
        obtain ⟨b, ws, rfl, h3, h4⟩ := rep_tup r2
        exact ⟨a, b, us, ws, rfl, .inr ⟨okM_sqt ok1.toOkM h1, okM_sqt ok1.toOkM h3, k _ M1 F1 H1 _ q s1 ok1 (wa_zipT h1 h2 h3 h4)⟩⟩
def iEn (β : AA) : AI := fun ρ M Q => β ρ M fun xs M1 => ∃ ds, xs = [.d (.list ds)] ∧ Q (enumD 0 ds) M1
theorem si_enum {t : TA} {β : AA} (h : SA K t β) : SI K (iEnum K t) (iEn β) := by
  intro ρ M Qa σ F H R ok qa k
  refine h ρ M _ σ F H _ ok qa fun xs M1 vs F1 H1 ⟨ds, e, q⟩ s1 ok1 r1 => ?_
  subst e
  cases r1 with
  | cons r1 rr =>
    cases rr
    obtain ⟨a, us, rfl, h1, h2⟩ := rep_lst r1
    exact ⟨a, us, rfl, okM_sql ok1.toOkM h1, k _ M1 F1 H1 _ q s1 ok1 (wa_enum h1 h2)⟩
def iRg (β : AA) : AI := fun ρ M Q => β ρ M fun xs M1 => ∃ n : Nat, xs = [.d (.int (n : Int))] ∧ n ≤ 1000000 ∧ Q (rangeD n) M1
theorem si_range {t : TA} {β : AA} (h : SA K t β) : SI K (iRng1 t) (iRg β) := by
  intro ρ M Qa σ F H R ok qa k
  refine h ρ M _ σ F H _ ok qa fun xs M1 vs F1 H1 ⟨n, e, hn, q⟩ s1 ok1 r1 => ?_
  subst e
  cases r1 with
  | cons r1 rr =>
    cases rr
    refine ⟨(n : Int), by rw [rep_int r1], by omega, by omega, ?_⟩
    rw [Int.toNat_natCast]
    exact k _ M1 F1 H1 _ q s1 ok1 wa_range

/-! ### for -/
def sFor (ι : AI) (γ : AG) (b : AS) : AS := fun D ρ M => ι ρ M fun items M1 => ∃ Iv : List Va → AEnv → Sto → Prop, Iv items ρ M1 ∧
  (∀ d r ρ M, Iv (d :: r) ρ M → γ d ρ M fun ρ' M' => b { D with nx := Iv r, ct := Iv r, bk := D.nx } ρ' M') ∧ ∀ ρ M, Iv [] ρ M → D.nx ρ M
theorem drop_cons {α : Type} {l : List α} {i : Nat} {d : α} (h : l[i]? = some d) : l.drop i = d :: l.drop (i + 1) := by
  obtain ⟨hl, hv⟩ := List.getElem?_eq_some_iff.mp h
  rw [← hv]
  exact List.drop_eq_getElem_cons hl
theorem ss_for {wi : TI} {g : TG} {t : TS} {ι : AI} {γ : AG} {b : AS} (hi : SI K wi ι) (hg : SG K g γ) (hb : SS K t b) : SS K (tFor wi g t) (sFor ι γ b) := by
  intro ρ M Da σ F H D ok qa k1 k2 k3 k4
  refine hi ρ M _ σ F H _ ok qa fun items M1 F1 H1 J ⟨Iv, i0, turn, fin⟩ s1 ok1 wk => ?_
  refine ⟨fun i m σ' H' => m = items.length - i ∧ i ≤ items.length ∧ ∃ ρ' M' F', Same F1 F' ∧ Ok K ρ' M' σ' F' H' ∧ Iv (items.drop i) ρ' M',
    ⟨items.length, by simp, Nat.zero_le _, ρ, M1, F1, Same.refl _, ok1, i0⟩, ?_⟩
  rintro i m σ' H' ⟨rfl, hle, ρ', M', F', s2, ok2, iv⟩
  by_cases hlt : i < items.length
  · refine .inr ⟨wk.goes H' i (s2.trans ok2.same) hlt, fun σ2 H2 => ∃ ρ2 M2 F2, Same F1 F2 ∧ Ok K ρ2 M2 σ2 F2 H2 ∧ Iv (items.drop (i + 1)) ρ2 M2, fun σ2 H2 z => ⟨items.length - (i + 1), by omega, rfl, hlt, z⟩, fun x H2 y => ?_⟩
    have hd := List.getElem?_eq_getElem hlt
    obtain ⟨F2, s3, ok3, dp⟩ := wk.ylds F' H' M' i x H2 _ s2 ok2.toOkM hd y
    rw [drop_cons hd] at iv
    refine hg items[i] ρ' M' _ x σ' F2 H2 _ ⟨ok3, env_mono s3 ok2.env⟩ dp (turn _ _ ρ' M' iv) fun ρ3 M3 σ3 F3 H3 q3 s4 ok4 => ?_
    have s14 : Same F F3 := ((s1.trans s2).trans s3).trans s4
    have nxt : ∀ ρ4 M4 σ4 F4 H4, Iv (items.drop (i + 1)) ρ4 M4 → Same F3 F4 → Ok K ρ4 M4 σ4 F4 H4 → ∃ ρ2 M2 F2, Same F1 F2 ∧ Ok K ρ2 M2 σ4 F2 H4 ∧ Iv (items.drop (i + 1)) ρ2 M2 :=
      fun ρ4 M4 σ4 F4 H4 q4 s5 ok5 => ⟨ρ4, M4, F4, (((s2.trans s3).trans s4).trans s5), ok5, q4⟩
    exact hb ρ3 M3 _ σ3 F3 H3 _ ok4 q3 nxt (fun x M2 v F2 H2 q2 s5 => k2 x M2 v F2 H2 q2 (s14.trans s5)) (fun ρ2 M2 σ2 F2 H2 q2 s5 => k1 ρ2 M2 σ2 F2 H2 q2 (s14.trans s5)) nxt
  · have e : i = items.length := by omega
    subst e
    rw [List.drop_length] at iv
    exact .inl ⟨wk.stops H' (s2.trans ok2.same), k1 ρ' M' σ' F' H' (fin ρ' M' iv) (s1.trans s2) ok2⟩
end
end LN
namespace LN
open PySem PySem.Spec PyProof.Rows L2 SlX

section
variable {K : Frg}
/-- a mutable list becomes data -/
theorem OkM.freeze {F H : Hp} {M : Sto} {a : Addr} {xs : List Va} {ds : List PyData} (ok : OkM K F H ((a, .lst xs) :: M)) (e : dats xs = some ds) : ∃ F', Same F F' ∧ OkM K F' H M ∧ Ds K F' (.ref a) (.list ds) := by
  obtain ⟨vs, h1, h2⟩ := ok.at_ _ List.mem_cons_self
  have fa : F a = none := ok.fr _ List.mem_cons_self a (foot_self _)
  have s : Same F (upd F a (.lst vs)) := fun b u e => by rw [upd_ne (ne_of_none e fa)]; exact e
  have ok1 : OkM K F H M := OkM.drop (L := [_]) ok
  refine ⟨upd F a (.lst vs), s, ⟨fun b u e => ?_, ok1.nd, fun q hq b hb => ?_, fun q hq => repM_stay s (ok1.at_ q hq) fun _ _ => rfl⟩, .lst (.inl (.inl upd_same)) (dps_mono s _ _ (dats_rep e h2))⟩
  · by_cases hb : b = a
    · subst hb; rw [upd_same] at e; cases e; exact h1
    · rw [upd_ne hb] at e; exact ok.same _ _ e
  · rw [upd_ne fun e => (OkM.apart (l1 := []) ok).2 q (.inr hq) b hb (by rw [e]; exact foot_self _)]
    exact ok1.fr q hq b hb

/-! ### list comprehensions -/
def wipeA (ρ : AEnv) : List Nat → AEnv
  | [] => ρ
  | v :: vs => (wipeA ρ vs).set v none
theorem wipe_pair {F : Hp} {σ : L2.St} {ρ : AEnv} (h : Paired (RepO K F) σ ρ) : ∀ vs : List Nat, Paired (RepO K F) (wipe σ vs) (wipeA ρ vs)
  | [] => h
  | v :: vs => paired_set (R := RepO K F) (show RepO K F none none from trivial) v (wipe_pair h vs)
/-- a target that changes the names vs alone -/
structure WG (g : TG) (vs : List Nat) : Prop where
  keep : ∀ x σ H (N : L2.St → Hp → Prop), g x σ H N → g x σ H fun σ2 H2 => wipe σ2 vs = wipe σ vs ∧ N σ2 H2
  mono : ∀ x σ H (N N' : L2.St → Hp → Prop), (∀ σ2 H2, N σ2 H2 → N' σ2 H2) → g x σ H N → g x σ H N'
structure WGs (g : TGs) (vs : List Nat) : Prop where
  keep : ∀ x σ H (N : L2.St → Hp → Prop), g x σ H N → g x σ H fun σ2 H2 => wipe σ2 vs = wipe σ vs ∧ N σ2 H2
  mono : ∀ x σ H (N N' : L2.St → Hp → Prop), (∀ σ2 H2, N σ2 H2 → N' σ2 H2) → g x σ H N → g x σ H N'
theorem wipe_get (σ : L2.St) : ∀ (vs : List Nat) (j : Nat), (wipe σ vs)[j]? = if j ∈ vs then (σ[j]?).map (fun _ => none) else σ[j]?
  | [], j => by simp [wipe]
  | v :: vs, j => by
    show ((wipe σ vs).set v none)[j]? = _
    rw [List.getElem?_set, wipe_get σ vs j]
    by_cases e : v = j
    · subst e
      rw [if_pos rfl, if_pos List.mem_cons_self, wipe_length]
      by_cases hl : v < σ.length
      · rw [if_pos hl, List.getElem?_eq_getElem hl]; rfl
      · rw [if_neg hl, List.getElem?_eq_none (by omega)]; rfl
    · rw [if_neg e]
      by_cases hj : j ∈ vs
      · rw [if_pos hj, if_pos (List.mem_cons_of_mem _ hj)]
      · rw [if_neg hj, if_neg fun z => (List.mem_cons.mp z).elim (fun q => e q.symm) hj]
theorem wipe_set {σ : L2.St} {vs : List Nat} {i : Nat} (x : Option V) (h : i ∈ vs) : wipe (σ.set i x) vs = wipe σ vs := by
  apply List.ext_getElem?
  intro j
  rw [wipe_get, wipe_get]
  by_cases hj : j ∈ vs
  · rw [if_pos hj, if_pos hj, List.getElem?_set]
    by_cases e : i = j
    · subst e
      rw [if_pos rfl]
      by_cases hl : i < σ.length
      · rw [if_pos hl, List.getElem?_eq_getElem hl]
        rfl
      · rw [if_neg hl, List.getElem?_eq_none (by omega)]
    · rw [if_neg e]
  · rw [if_neg hj, if_neg hj, List.getElem?_set_ne]
    intro e
    exact hj (e ▸ h)
theorem wipe_wipe (σ : L2.St) (vs : List Nat) : wipe (wipe σ vs) vs = wipe σ vs := by
  apply List.ext_getElem?
  intro j
  rw [wipe_get, wipe_get]
  by_cases hj : j ∈ vs
  · rw [if_pos hj, if_pos hj]
    cases σ[j]? <;> rfl
  · rw [if_neg hj, if_neg hj]
theorem wg_nm {i : Nat} {vs : List Nat} (h : i ∈ vs) : WG (gName i) vs := ⟨fun x σ H N q => ⟨wipe_set _ h, q⟩, fun x σ H N N' k q => k _ _ q⟩
theorem wgs_nil {vs : List Nat} : WGs gNil vs := ⟨fun x σ H N ⟨e, q⟩ => ⟨e, rfl, q⟩, fun x σ H N N' k ⟨e, q⟩ => ⟨e, k _ _ q⟩⟩
theorem wgs_cons {g : TG} {gs : TGs} {vs : List Nat} (h1 : WG g vs) (h2 : WGs gs vs) : WGs (gCons g gs) vs where
  keep := fun x σ H N ⟨v, r, e, q⟩ => ⟨v, r, e, h1.mono _ _ _ _ _ (fun σ1 H1 ⟨e1, q1⟩ => h2.mono _ _ _ _ _ (fun σ2 H2 ⟨e2, q2⟩ => ⟨e2.trans e1, q2⟩) (h2.keep _ _ _ _ q1)) (h1.keep _ _ _ _ q)⟩
  mono := fun x σ H N N' k ⟨v, r, e, q⟩ => ⟨v, r, e, h1.mono _ _ _ _ _ (fun σ1 H1 q1 => h2.mono _ _ _ _ _ k q1) q⟩
theorem wg_tup {n : Nat} {gs : TGs} {vs : List Nat} (h : WGs gs vs) : WG (gTup K n gs) vs where
  keep := fun x σ H N ⟨a, xs, e1, e2, e3, q⟩ => ⟨a, xs, e1, e2, e3, h.keep _ _ _ _ q⟩
  mono := fun x σ H N N' k ⟨a, xs, e1, e2, e3, q⟩ => ⟨a, xs, e1, e2, e3, h.mono _ _ _ _ _ k q⟩

/-- [e for target in items if ..]: Iv of the items that are left, of what is made, of the store; the new list stands ahead of the store -/
def LcT (γ : AG) (τ : AT) (ε : AE) (vs : List Nat) (ρ : AEnv) (Q : AQ) (items : List Va) (M1 : Sto) : Prop := items.length ≤ 1000000 ∧ ∀ D, ∃ Iv : List Va → List PyData → Sto → Prop, Iv items [] M1 ∧
  (∀ d r acc M, Iv (d :: r) acc M → γ d (wipeA ρ vs) ((D, .lst (acc.map .d)) :: M) fun ρ2 M2 => τ ρ2 M2 fun b M3 =>
    if b = true then ε ρ2 M3 fun y M4 => ∃ z M5, y = .d z ∧ Sub ((D, .lst (acc.map .d)) :: M5) M4 ∧ Iv r (acc ++ [z]) M5 else ∃ M5, Sub ((D, .lst (acc.map .d)) :: M5) M3 ∧ Iv r acc M5) ∧
  ∀ acc M, Iv [] acc M → Q (.d (.list acc)) M
def aLc (ι : AI) (γ : AG) (τ : AT) (ε : AE) (vs : List Nat) : AE := fun ρ M Q => ι ρ M (LcT γ τ ε vs ρ Q)
theorem se_lc {wi : TI} {g : TG} {tt : TT} {te : TE} {vs : List Nat} {ι : AI} {γ : AG} {τ : AT} {ε : AE} (hi : SI K wi ι) (hg : SG K g γ) (hw : WG g vs) (ht : ST K tt τ) (he : SE K te ε) : SE K (tLc wi g tt te vs) (aLc ι γ τ ε vs) := by
  intro ρ M Qa σ F H Q ok qa k
  refine hi ρ M _ σ F H _ ok qa fun items M1 F1 H1 J ⟨hz, q1⟩ s1 ok1 wk D hD => ?_
  obtain ⟨Iv, i0, turn, fin⟩ := q1 D
  have okD : OkM K F1 (upd H1 D (.lst [])) ((D, .lst (([] : List PyData).map Va.d)) :: M1) := ok1.toOkM.made hD ⟨[], upd_same, .nil⟩
  refine ⟨fun i m H' => m = items.length - i ∧ i ≤ items.length ∧ ∃ acc M' F', acc.length ≤ i ∧ Same F1 F' ∧ OkM K F' H' ((D, .lst (acc.map .d)) :: M') ∧ Iv (items.drop i) acc M',
    ⟨items.length, by simp, Nat.zero_le _, [], M1, F1, Nat.le_refl _, Same.refl _, okD, i0⟩, ?_⟩
  rintro i m H' ⟨rfl, hle, acc, M', F', hac, s2, ok2, iv⟩
  by_cases hlt : i < items.length
  · refine .inr ⟨wk.goes H' i (s2.trans ok2.same) hlt, fun H2 => ∃ acc2 M2 F2, acc2.length ≤ i + 1 ∧ Same F1 F2 ∧ OkM K F2 H2 ((D, .lst (acc2.map .d)) :: M2) ∧ Iv (items.drop (i + 1)) acc2 M2, fun H2 z => ⟨items.length - (i + 1), by omega, rfl, hlt, z⟩, fun x H2 y => ?_⟩
    have hd := List.getElem?_eq_getElem hlt
    obtain ⟨F2, s3, ok3, dp⟩ := wk.ylds F' H' _ i x H2 _ s2 ok2 hd y
    rw [drop_cons hd] at iv
    have s12 : Same F1 F2 := s2.trans s3
    have okW : Ok K (wipeA ρ vs) ((D, .lst (acc.map .d)) :: M') (wipe σ vs) F2 H2 := ⟨ok3, wipe_pair (env_mono s12 ok1.env) vs⟩
    refine hw.mono _ _ _ _ _ (fun σ3 H3 ⟨e3, q3⟩ => ⟨e3.trans (wipe_wipe σ vs), q3⟩) (hw.keep _ _ _ _ ?_)
    refine hg items[i] (wipeA ρ vs) _ _ x (wipe σ vs) F2 H2 _ okW dp (turn _ _ acc M' iv) fun ρ3 M3 σ3 F3 H3 q3 s4 ok4 => ?_
    refine ht ρ3 M3 _ σ3 F3 H3 _ ok4 q3 fun b M4 F4 H4 q4 s5 ok5 => ?_
    cases b with
    | false =>
      obtain ⟨M5, sb, iv5⟩ := q4
      exact ⟨acc, M5, F4, by omega, (s12.trans s4).trans s5, ok5.toOkM.sub sb, iv5⟩
    | true =>
      refine he ρ3 M4 _ σ3 F4 H4 _ ok5 q4 fun y M6 v F6 H6 ⟨z, M5, ey, sb, iv5⟩ s6 ok6 r6 => ?_
      subst ey
      have ok7 := ok6.toOkM.sub sb
      obtain ⟨ws, g1, g2⟩ := ok7.at_ _ List.mem_cons_self
      have hl := pair_len g2
      rw [List.length_map] at hl
      refine ⟨ws, g1, by rw [hl]; exact size_lt (by omega), acc ++ [z], M5, F6, by rw [List.length_append, List.length_singleton]; omega, ((s12.trans s4).trans s5).trans s6, ?_, iv5⟩
      refine OkM.write (l1 := []) ok7 ⟨_, upd_same, ?_⟩
      rw [List.map_append]
      exact paired_app g2 (.cons r6 .nil)
  · have e : i = items.length := by omega
    subst e
    rw [List.drop_length] at iv
    refine .inl ⟨wk.stops H' (s2.trans ok2.same), ?_⟩
    obtain ⟨F3, s3, ok3, dp⟩ := ok2.freeze (dats_map acc)
    exact k _ M' _ F3 H' (fin acc M' iv) ((s1.trans s2).trans s3) ⟨ok3, env_mono (s2.trans s3) ok1.env⟩ dp
end

/-! ### a def keeps its promise -/
def startA (N : List Str) (xs : List Va) : AEnv := xs.map some ++ List.replicate (N.length - xs.length) none
theorem start_pair {K : Frg} {F : Hp} {N : List Str} {vs : List V} {xs : List Va} (h : Paired (Rep K F) vs xs) : Paired (RepO K F) (L2.start N vs) (startA N xs) := by
  unfold L2.start startA
  rw [pair_len h]
  refine paired_app ?_ ?_
  · induction h with
    | nil => exact .nil
    | cons r t ih => exact .cons ⟨_, rfl, r⟩ ih
  · generalize N.length - xs.length = n
    induction n with
    | zero => exact .nil
    | succ n ih => exact .cons trivial ih
end LN
set_option maxHeartbeats 0
namespace LN
open PySem PySem.Spec PyProof.Rows L2
/-! ### the text by places -/
def topS (i : Nat) : Stmt := PySem.Challenge.pw_layernets_k65_whole_one_table_for_all_in.main.body.getD i (.Pass ⟨0, 0, 0, 0⟩)
abbrev s_set_of : Stmt := topS 5
abbrev s_tupled : Stmt := topS 6
abbrev s_common_part : Stmt := topS 11
abbrev s_fraction : Stmt := topS 12
abbrev s_plus : Stmt := topS 13
abbrev s_minus : Stmt := topS 14
abbrev s_times : Stmt := topS 15
abbrev s_over : Stmt := topS 16
abbrev s_is_less : Stmt := topS 17
abbrev s_lesser : Stmt := topS 18
abbrev s_cut_at : Stmt := topS 24
abbrev s_place_for : Stmt := topS 25
abbrev s_Stretches___init__ : Stmt := L2.inClass (topS 26) 0
abbrev s_Stretches_part_at : Stmt := L2.inClass (topS 26) 1
abbrev s_Stretches_weir : Stmt := L2.inClass (topS 26) 2
abbrev s_Stretches_divide : Stmt := L2.inClass (topS 26) 3
abbrev s_Stretches_join : Stmt := L2.inClass (topS 26) 4
abbrev s_Stretches_take : Stmt := L2.inClass (topS 26) 5
abbrev s_stretches_of : Stmt := topS 27
abbrev s_layers_of : Stmt := topS 28
abbrev s_table_of : Stmt := topS 29
abbrev s_borders : Stmt := topS 30
abbrev s_outlets_of : Stmt := topS 31
abbrev s_amount_of : Stmt := topS 32
abbrev s_amounts : Stmt := topS 33
abbrev s_alike : Stmt := topS 35
abbrev s_amount_text : Stmt := topS 44
abbrev s_part_text : Stmt := topS 45
abbrev s_taken_names : Stmt := topS 52
abbrev s_made_names : Stmt := topS 53
abbrev s_stands_behind : Stmt := topS 54
abbrev s_Net___init__ : Stmt := L2.inClass (topS 55) 1
abbrev s_Net_parts : Stmt := L2.inClass (topS 55) 3
abbrev s_Net_outlets : Stmt := L2.inClass (topS 55) 5
abbrev s_fresh_names : Stmt := topS 59
abbrev s_Builder___init__ : Stmt := L2.inClass (topS 60) 0
abbrev s_Builder_fresh : Stmt := L2.inClass (topS 60) 1
abbrev s_Builder_parted : Stmt := L2.inClass (topS 60) 2
abbrev s_Builder_layered : Stmt := L2.inClass (topS 60) 3
abbrev s_Builder_gathered : Stmt := L2.inClass (topS 60) 4
abbrev s_net_of : Stmt := topS 61
abbrev s_leanest : Stmt := topS 62
abbrev s_run : Stmt := topS 66
abbrev s_flow : Stmt := topS 67
abbrev s__law_box : Stmt := topS 69
abbrev s__law_take : Stmt := topS 70
abbrev s__law_cells : Stmt := topS 71
abbrev s__law_of : Stmt := topS 72
abbrev s__law_same : Stmt := topS 73
abbrev s__law_frac : Stmt := topS 74
abbrev s__law_plus : Stmt := topS 75
abbrev s__law_minus : Stmt := topS 76
abbrev s__law_mul : Stmt := topS 77
abbrev s__law_less : Stmt := topS 78
abbrev s__law_amount : Stmt := topS 79
abbrev s__law_parts : Stmt := topS 80
abbrev s__law_walk : Stmt := topS 81
abbrev s__law_by_hand_right : Stmt := topS 82
abbrev s__law_spots : Stmt := topS 83
abbrev s__law_changed : Stmt := topS 84
abbrev s__law_bent_right : Stmt := topS 85
abbrev s__law_case_right : Stmt := topS 86
abbrev s__law_right : Stmt := topS 87
abbrev s_law : Stmt := topS 88
/-! ### what the top has left, as Bools over a part of the heap -/
def dfs0 : List He5.DefA := [
  ⟨fun K => He.ga K "set_of", "set_of", "set_of", L2.defArgs s_set_of, L2.defBody s_set_of, L2.defScope s_set_of, [], []⟩,
  ⟨fun K => He.ga K "tupled", "tupled", "tupled", L2.defArgs s_tupled, L2.defBody s_tupled, L2.defScope s_tupled, [], []⟩,
  ⟨fun K => He.ga K "common_part", "common_part", "common_part", L2.defArgs s_common_part, L2.defBody s_common_part, L2.defScope s_common_part, [], []⟩,
  ⟨fun K => He.ga K "fraction", "fraction", "fraction", L2.defArgs s_fraction, L2.defBody s_fraction, L2.defScope s_fraction, [], []⟩,
  ⟨fun K => He.ga K "plus", "plus", "plus", L2.defArgs s_plus, L2.defBody s_plus, L2.defScope s_plus, [], []⟩,
  ⟨fun K => He.ga K "minus", "minus", "minus", L2.defArgs s_minus, L2.defBody s_minus, L2.defScope s_minus, [], []⟩,
  ⟨fun K => He.ga K "times", "times", "times", L2.defArgs s_times, L2.defBody s_times, L2.defScope s_times, [], []⟩,
  ⟨fun K => He.ga K "over", "over", "over", L2.defArgs s_over, L2.defBody s_over, L2.defScope s_over, [], []⟩,
  ⟨fun K => He.ga K "is_less", "is_less", "is_less", L2.defArgs s_is_less, L2.defBody s_is_less, L2.defScope s_is_less, [], []⟩,
  ⟨fun K => He.ga K "lesser", "lesser", "lesser", L2.defArgs s_lesser, L2.defBody s_lesser, L2.defScope s_lesser, [], []⟩,
  ⟨fun K => He.ga K "cut_at", "cut_at", "cut_at", L2.defArgs s_cut_at, L2.defBody s_cut_at, L2.defScope s_cut_at, [], []⟩,
  ⟨fun K => He.ga K "place_for", "place_for", "place_for", L2.defArgs s_place_for, L2.defBody s_place_for, L2.defScope s_place_for, [], []⟩,
  ⟨fun K => He.ma K (He.ga K "Stretches") "__init__", "__init__", "Stretches.__init__", L2.defArgs s_Stretches___init__, L2.defBody s_Stretches___init__, L2.defScope s_Stretches___init__, [], []⟩,
  ⟨fun K => He.ma K (He.ga K "Stretches") "part_at", "part_at", "Stretches.part_at", L2.defArgs s_Stretches_part_at, L2.defBody s_Stretches_part_at, L2.defScope s_Stretches_part_at, [], []⟩,
  ⟨fun K => He.ma K (He.ga K "Stretches") "weir", "weir", "Stretches.weir", L2.defArgs s_Stretches_weir, L2.defBody s_Stretches_weir, L2.defScope s_Stretches_weir, [], []⟩,
  ⟨fun K => He.ma K (He.ga K "Stretches") "divide", "divide", "Stretches.divide", L2.defArgs s_Stretches_divide, L2.defBody s_Stretches_divide, L2.defScope s_Stretches_divide, [], []⟩,
  ⟨fun K => He.ma K (He.ga K "Stretches") "join", "join", "Stretches.join", L2.defArgs s_Stretches_join, L2.defBody s_Stretches_join, L2.defScope s_Stretches_join, [], []⟩,
  ⟨fun K => He.ma K (He.ga K "Stretches") "take", "take", "Stretches.take", L2.defArgs s_Stretches_take, L2.defBody s_Stretches_take, L2.defScope s_Stretches_take, [], []⟩,
  ⟨fun K => He.ga K "stretches_of", "stretches_of", "stretches_of", L2.defArgs s_stretches_of, L2.defBody s_stretches_of, L2.defScope s_stretches_of, [], []⟩,
  ⟨fun K => He.ga K "layers_of", "layers_of", "layers_of", L2.defArgs s_layers_of, L2.defBody s_layers_of, L2.defScope s_layers_of, [], []⟩]
def dfs1 : List He5.DefA := [
  ⟨fun K => He.ga K "table_of", "table_of", "table_of", L2.defArgs s_table_of, L2.defBody s_table_of, L2.defScope s_table_of, [], []⟩,
  ⟨fun K => He.ga K "borders", "borders", "borders", L2.defArgs s_borders, L2.defBody s_borders, L2.defScope s_borders, [], []⟩,
  ⟨fun K => He.ga K "outlets_of", "outlets_of", "outlets_of", L2.defArgs s_outlets_of, L2.defBody s_outlets_of, L2.defScope s_outlets_of, [], []⟩,
  ⟨fun K => He.ga K "amount_of", "amount_of", "amount_of", L2.defArgs s_amount_of, L2.defBody s_amount_of, L2.defScope s_amount_of, [], []⟩,
  ⟨fun K => He.ga K "amounts", "amounts", "amounts", L2.defArgs s_amounts, L2.defBody s_amounts, L2.defScope s_amounts, [], []⟩,
  ⟨fun K => He.ga K "alike", "alike", "alike", L2.defArgs s_alike, L2.defBody s_alike, L2.defScope s_alike, [], []⟩,
  ⟨fun K => He.ga K "amount_text", "amount_text", "amount_text", L2.defArgs s_amount_text, L2.defBody s_amount_text, L2.defScope s_amount_text, [], []⟩,
  ⟨fun K => He.ga K "part_text", "part_text", "part_text", L2.defArgs s_part_text, L2.defBody s_part_text, L2.defScope s_part_text, [], []⟩,
  ⟨fun K => He.ga K "taken_names", "taken_names", "taken_names", L2.defArgs s_taken_names, L2.defBody s_taken_names, L2.defScope s_taken_names, [], []⟩,
  ⟨fun K => He.ga K "made_names", "made_names", "made_names", L2.defArgs s_made_names, L2.defBody s_made_names, L2.defScope s_made_names, [], []⟩,
  ⟨fun K => He.ga K "stands_behind", "stands_behind", "stands_behind", L2.defArgs s_stands_behind, L2.defBody s_stands_behind, L2.defScope s_stands_behind, [], []⟩,
  ⟨fun K => He.ma K (He.ga K "Net") "__init__", "__init__", "Net.__init__", L2.defArgs s_Net___init__, L2.defBody s_Net___init__, L2.defScope s_Net___init__, [.adr (fun K => He.dflAt ("Net", some "__init__") 0 K)], []⟩,
  ⟨fun K => He5.wf K (He.ga K "Net") "property" "parts", "parts", "Net.parts", L2.defArgs s_Net_parts, L2.defBody s_Net_parts, L2.defScope s_Net_parts, [], []⟩,
  ⟨fun K => He5.wf K (He.ga K "Net") "property" "outlets", "outlets", "Net.outlets", L2.defArgs s_Net_outlets, L2.defBody s_Net_outlets, L2.defScope s_Net_outlets, [], []⟩,
  ⟨fun K => He.ga K "fresh_names", "fresh_names", "fresh_names", L2.defArgs s_fresh_names, L2.defBody s_fresh_names, L2.defScope s_fresh_names, [], []⟩,
  ⟨fun K => He.ma K (He.ga K "Builder") "__init__", "__init__", "Builder.__init__", L2.defArgs s_Builder___init__, L2.defBody s_Builder___init__, L2.defScope s_Builder___init__, [], []⟩,
  ⟨fun K => He.ma K (He.ga K "Builder") "fresh", "fresh", "Builder.fresh", L2.defArgs s_Builder_fresh, L2.defBody s_Builder_fresh, L2.defScope s_Builder_fresh, [], []⟩,
  ⟨fun K => He.ma K (He.ga K "Builder") "parted", "parted", "Builder.parted", L2.defArgs s_Builder_parted, L2.defBody s_Builder_parted, L2.defScope s_Builder_parted, [], []⟩,
  ⟨fun K => He.ma K (He.ga K "Builder") "layered", "layered", "Builder.layered", L2.defArgs s_Builder_layered, L2.defBody s_Builder_layered, L2.defScope s_Builder_layered, [], []⟩,
  ⟨fun K => He.ma K (He.ga K "Builder") "gathered", "gathered", "Builder.gathered", L2.defArgs s_Builder_gathered, L2.defBody s_Builder_gathered, L2.defScope s_Builder_gathered, [], []⟩]
def dfs2 : List He5.DefA := [
  ⟨fun K => He.ga K "net_of", "net_of", "net_of", L2.defArgs s_net_of, L2.defBody s_net_of, L2.defScope s_net_of, [], []⟩,
  ⟨fun K => He.ga K "leanest", "leanest", "leanest", L2.defArgs s_leanest, L2.defBody s_leanest, L2.defScope s_leanest, [], []⟩,
  ⟨fun K => He.ga K "run", "run", "run", L2.defArgs s_run, L2.defBody s_run, L2.defScope s_run, [], []⟩,
  ⟨fun K => He.ga K "flow", "flow", "flow", L2.defArgs s_flow, L2.defBody s_flow, L2.defScope s_flow, [], []⟩,
  ⟨fun K => He.ga K "_law_box", "_law_box", "_law_box", L2.defArgs s__law_box, L2.defBody s__law_box, L2.defScope s__law_box, [], []⟩,
  ⟨fun K => He.ga K "_law_take", "_law_take", "_law_take", L2.defArgs s__law_take, L2.defBody s__law_take, L2.defScope s__law_take, [], []⟩,
  ⟨fun K => He.ga K "_law_cells", "_law_cells", "_law_cells", L2.defArgs s__law_cells, L2.defBody s__law_cells, L2.defScope s__law_cells, [], []⟩,
  ⟨fun K => He.ga K "_law_of", "_law_of", "_law_of", L2.defArgs s__law_of, L2.defBody s__law_of, L2.defScope s__law_of, [], []⟩,
  ⟨fun K => He.ga K "_law_same", "_law_same", "_law_same", L2.defArgs s__law_same, L2.defBody s__law_same, L2.defScope s__law_same, [], []⟩,
  ⟨fun K => He.ga K "_law_frac", "_law_frac", "_law_frac", L2.defArgs s__law_frac, L2.defBody s__law_frac, L2.defScope s__law_frac, [], []⟩,
  ⟨fun K => He.ga K "_law_plus", "_law_plus", "_law_plus", L2.defArgs s__law_plus, L2.defBody s__law_plus, L2.defScope s__law_plus, [], []⟩,
  ⟨fun K => He.ga K "_law_minus", "_law_minus", "_law_minus", L2.defArgs s__law_minus, L2.defBody s__law_minus, L2.defScope s__law_minus, [], []⟩,
  ⟨fun K => He.ga K "_law_mul", "_law_mul", "_law_mul", L2.defArgs s__law_mul, L2.defBody s__law_mul, L2.defScope s__law_mul, [], []⟩,
  ⟨fun K => He.ga K "_law_less", "_law_less", "_law_less", L2.defArgs s__law_less, L2.defBody s__law_less, L2.defScope s__law_less, [], []⟩,
  ⟨fun K => He.ga K "_law_amount", "_law_amount", "_law_amount", L2.defArgs s__law_amount, L2.defBody s__law_amount, L2.defScope s__law_amount, [], []⟩,
  ⟨fun K => He.ga K "_law_parts", "_law_parts", "_law_parts", L2.defArgs s__law_parts, L2.defBody s__law_parts, L2.defScope s__law_parts, [], []⟩,
  ⟨fun K => He.ga K "_law_walk", "_law_walk", "_law_walk", L2.defArgs s__law_walk, L2.defBody s__law_walk, L2.defScope s__law_walk, [], []⟩,
  ⟨fun K => He.ga K "_law_by_hand_right", "_law_by_hand_right", "_law_by_hand_right", L2.defArgs s__law_by_hand_right, L2.defBody s__law_by_hand_right, L2.defScope s__law_by_hand_right, [], []⟩,
  ⟨fun K => He.ga K "_law_spots", "_law_spots", "_law_spots", L2.defArgs s__law_spots, L2.defBody s__law_spots, L2.defScope s__law_spots, [], []⟩,
  ⟨fun K => He.ga K "_law_changed", "_law_changed", "_law_changed", L2.defArgs s__law_changed, L2.defBody s__law_changed, L2.defScope s__law_changed, [], []⟩]
def dfs3 : List He5.DefA := [
  ⟨fun K => He.ga K "_law_bent_right", "_law_bent_right", "_law_bent_right", L2.defArgs s__law_bent_right, L2.defBody s__law_bent_right, L2.defScope s__law_bent_right, [], []⟩,
  ⟨fun K => He.ga K "_law_case_right", "_law_case_right", "_law_case_right", L2.defArgs s__law_case_right, L2.defBody s__law_case_right, L2.defScope s__law_case_right, [], []⟩,
  ⟨fun K => He.ga K "_law_right", "_law_right", "_law_right", L2.defArgs s__law_right, L2.defBody s__law_right, L2.defScope s__law_right, [], []⟩,
  ⟨fun K => He.ga K "law", "law", "law", L2.defArgs s_law, L2.defBody s_law, L2.defScope s_law, [], []⟩]
def dfs : List He5.DefA := dfs0 ++ dfs1 ++ dfs2 ++ dfs3
def fcs0 : List He.Fa := [
  .glo "set_of",
  .glo "tupled",
  .glo "common_part",
  .glo "fraction",
  .glo "plus",
  .glo "minus",
  .glo "times",
  .glo "over",
  .glo "is_less",
  .glo "lesser",
  .glo "cut_at",
  .glo "place_for",
  .glo "stretches_of",
  .glo "layers_of",
  .glo "table_of",
  .glo "borders",
  .glo "outlets_of",
  .glo "amount_of",
  .glo "amounts",
  .glo "alike"]
def fcs1 : List He.Fa := [
  .glo "amount_text",
  .glo "part_text",
  .glo "taken_names",
  .glo "made_names",
  .glo "stands_behind",
  .glo "fresh_names",
  .glo "net_of",
  .glo "leanest",
  .glo "run",
  .glo "flow",
  .glo "_law_box",
  .glo "_law_take",
  .glo "_law_cells",
  .glo "_law_of",
  .glo "_law_same",
  .glo "_law_frac",
  .glo "_law_plus",
  .glo "_law_minus",
  .glo "_law_mul",
  .glo "_law_less"]
def fcs2 : List He.Fa := [
  .glo "_law_amount",
  .glo "_law_parts",
  .glo "_law_walk",
  .glo "_law_by_hand_right",
  .glo "_law_spots",
  .glo "_law_changed",
  .glo "_law_bent_right",
  .glo "_law_case_right",
  .glo "_law_right",
  .glo "law",
  .glo "NONE",
  .glo "WHOLE_fractions",
  .glo "HALF",
  .str "LETTERS" "abcdefghijklmnopqrstuvwxyz",
  .str "DIGITS" "0123456789",
  .str "NOTHING" "-",
  .str "BLANK" " ",
  .str "SLASH" "/",
  .str "BETWEEN" "; ",
  .str "SOURCE_nets" "in"]
def fcs3 : List He.Fa := [
  .str "WEIR_nets" "weir",
  .str "JOIN" "join",
  .str "SOURCE_builds" "in",
  .str "WEIR_walks" "weir",
  .str "DIVIDE" "divide",
  .glo "Stretches",
  .glo "Builder",
  .glo "Net",
  .free "len",
  .free "tuple",
  .free "list",
  .free "set",
  .free "sorted",
  .free "zip",
  .free "enumerate",
  .free "range",
  .free "isinstance",
  .free "abs",
  .free "int",
  .free "str"]
def fcs4 : List He.Fa := [
  .free "all",
  .free "any",
  .free "dict",
  .free "bool",
  .cls "Stretches",
  .cls "Builder",
  .mkr "Stretches",
  .mkr "Builder",
  .mkr "Net",
  .noat "Stretches" "ends",
  .noat "Stretches" "flows",
  .noat "Builder" "own_outlets",
  .noat "Builder" "own_free",
  .noat "Builder" "own_made",
  .noat "Builder" "pieces",
  .meth "Stretches" "__init__",
  .meth "Stretches" "part_at",
  .meth "Stretches" "weir",
  .meth "Stretches" "divide",
  .meth "Stretches" "join"]
def fcs5 : List He.Fa := [
  .meth "Stretches" "take",
  .meth "Builder" "__init__",
  .meth "Builder" "fresh",
  .meth "Builder" "parted",
  .meth "Builder" "layered",
  .meth "Builder" "gathered"]
def fcs : List He.Fa := fcs0 ++ fcs1 ++ fcs2 ++ fcs3 ++ fcs4 ++ fcs5

def eqv? (a b : Option (Option Value)) : Bool := decide (a = b)
/-- a slot's place -/
def slotB (K : Frg) (C : Addr) (f : Str) (i : Nat) : Bool := He.eqO (PySem.W.findIn K (.ref C) f) (some (some (.ref (He.ma K C f)))) && (He.eqO (PySem.W.specialIn K (.ref (He.ma K C f)) "__get__") (some (some (.builtin "member_descriptor.__get__"))) &&
  (decide (PySem.W.takesIn K (.ref (He.ma K C f)) = some true) && (decide (PySem.W.typeIn K (.ref (He.ma K C f)) = some (.type "member_descriptor")) && decide (PySem.W.slotIn K (He.ma K C f) C = some i))))
def sclsB (K : Frg) (C : Addr) : Bool := PySem.W.plainGet K C Str.empty && (PySem.W.isClsIn K C && (PySem.W.plainOver K C && He.eqO (PySem.W.findIn K (.ref C) "__setattr__") (some (some (.builtin "object.__setattr__")))))
def propB (K : Frg) (C : Addr) (f : Str) : Bool := He.eqO (PySem.W.findIn K (.ref C) f) (some (some (.ref (He.ma K C f)))) && (He.eqO (PySem.W.specialIn K (.ref (He.ma K C f)) "__get__") (some (some (.builtin "property.__get__"))) &&
  (decide (PySem.W.takesIn K (.ref (He.ma K C f)) = some true) && (match PySem.W.recIn K (He.ma K C f) "property" with
    | some (.ref _ :: _) => true
    | _ => false)))
/-- a pair of ints, its object without a dict -/
def pairN (i j : Int) : List Value → Bool
  | [.int a _, .int b _] => decide (a = i) && decide (b = j)
  | _ => false
def tupN (K : Frg) (x : Str) (i j : Int) : Bool := match K.lookup (He.ga K x) with
  | some ⟨.type c, none, .seq its _, _⟩ => decide (c = "tuple") && pairN i j its.toList
  | _ => false
def moreB (K : Frg) : Bool := sclsB K (He.ga K "Net") && (slotB K (He.ga K "Net") "own_made" 0 && (slotB K (He.ga K "Net") "own_parts" 1 && (slotB K (He.ga K "Net") "own_taken" 2 && (slotB K (He.ga K "Net") "own_text" 3 &&
  (propB K (He.ga K "Net") "parts" && (propB K (He.ga K "Net") "outlets" && (tupN K "NONE" 0 1 && (tupN K "WHOLE_fractions" 1 1 && tupN K "HALF" 1 2))))))))
def exB (K : Frg) : Bool := (fcs.all fun f => f.ok K) && moreB K
def obsL (K : Frg) : He.AlD := (exB K && dfs.all fun d => d.ok K, dfs.map fun d => He5.fnA K (d.at_ K))
def valL : He.AlD := (true, dfs.map He5.DefA.val)
def SaysL (K : Frg) : Prop := obsL K = valL
def adL0 : List Addr := [3, 6, 4, 19, 26, 31, 36, 37, 38, 45, 52, 59, 66, 73, 80, 87, 94, 104, 124, 143, 152, 157, 201, 212, 219, 224, 229, 234, 241, 246, 253, 254, 261, 268, 275, 280, 287, 294, 299, 385]
def adL1 : List Addr := [392, 397, 440, 451, 458, 465, 470, 477, 484, 491, 498, 503, 510, 517, 524, 531, 538, 545, 552, 559, 564, 571, 576, 581, 586, 593, 598, 0, 18, 25, 30, 35, 44, 51, 58, 65, 72, 79, 86, 93]
def adL2 : List Addr := [103, 123, 142, 151, 156, 200, 211, 218, 223, 228, 233, 240, 245, 252, 260, 267, 274, 279, 286, 293, 298, 384, 396, 439, 450, 457, 464, 469, 476, 483, 490, 497, 502, 509, 516, 523, 530, 537, 544, 551]
def adL3 : List Addr := [558, 563, 570, 575, 580, 585, 592, 597, 15, 16, 17, 20, 21, 22, 23, 24, 27, 28, 29, 32, 33, 34, 39, 40, 41, 42, 43, 46, 47, 48, 49, 50, 53, 54, 55, 56, 57, 60, 61, 62]
def adL4 : List Addr := [63, 64, 67, 68, 69, 70, 71, 74, 75, 76, 77, 78, 81, 82, 83, 84, 85, 88, 89, 90, 91, 92, 102, 105, 121, 122, 140, 141, 146, 147, 148, 149, 150, 153, 154, 155, 171, 176, 181, 186]
def adL5 : List Addr := [191, 198, 199, 202, 203, 206, 207, 208, 209, 210, 213, 214, 215, 216, 217, 220, 221, 222, 225, 226, 227, 230, 231, 232, 235, 236, 237, 238, 239, 242, 243, 244, 247, 248, 249, 250, 251, 255, 256, 257]
def adL6 : List Addr := [258, 259, 262, 263, 264, 265, 266, 269, 270, 271, 272, 273, 276, 277, 278, 281, 282, 283, 284, 285, 288, 289, 290, 291, 292, 295, 296, 297, 307, 314, 323, 332, 340, 346, 352, 360, 367, 374, 381, 382]
def adL7 : List Addr := [386, 387, 388, 389, 393, 394, 395, 409, 416, 423, 430, 437, 438, 441, 442, 445, 446, 447, 448, 449, 452, 453, 454, 455, 456, 459, 460, 461, 462, 463, 466, 467, 468, 471, 472, 473, 474, 475, 478, 479]
def adL8 : List Addr := [480, 481, 482, 485, 486, 487, 488, 489, 492, 493, 494, 495, 496, 499, 500, 501, 504, 505, 506, 507, 508, 511, 512, 513, 514, 515, 518, 519, 520, 521, 522, 525, 526, 527, 528, 529, 532, 533, 534, 535]
def adL9 : List Addr := [536, 539, 540, 541, 542, 543, 546, 547, 548, 549, 550, 553, 554, 555, 556, 557, 560, 561, 562, 565, 566, 567, 568, 569, 572, 573, 574, 577, 578, 579, 582, 583, 584, 587, 588, 589, 590, 591, 594, 595]
def adL10 : List Addr := [596, 120, 139, 170, 175, 180, 185, 190, 197, 313, 309, 321, 322, 331, 339, 345, 351, 359, 366, 373, 380, 408, 415, 422, 429, 436, 115, 116, 117, 118, 119, 134, 135, 136, 137, 138, 165, 166, 167, 168]
def adL11 : List Addr := [169, 172, 173, 174, 177, 178, 179, 182, 183, 184, 187, 188, 189, 192, 193, 194, 195, 196, 310, 311, 312, 308, 320, 324, 330, 338, 344, 350, 358, 361, 362, 363, 364, 365, 368, 369, 370, 371, 372, 375]
def adL12 : List Addr := [376, 377, 378, 379, 405, 406, 407, 410, 411, 412, 413, 414, 417, 418, 419, 420, 421, 424, 425, 426, 427, 428, 431, 432, 433, 434, 435, 315, 316, 317, 318, 319, 325, 326, 327, 328, 329, 333, 334, 335]
def adL13 : List Addr := [336, 337, 341, 342, 343, 347, 348, 349, 353, 354, 355, 356, 357, 2]
/-- where the top has left what the names reach -/
def adL : List Addr := adL0 ++ adL1 ++ adL2 ++ adL3 ++ adL4 ++ adL5 ++ adL6 ++ adL7 ++ adL8 ++ adL9 ++ adL10 ++ adL11 ++ adL12 ++ adL13
def obsG (n : Nat) (g : Addr → Option Obj) : He.AlD := obsL (He.frG g adL)
def hookL (n : Nat) : PySem.W.Hook where
  α := He.AlD
  obs := fun s => obsG n s.heap.get?
  val := fun _ => valL
  says := fun _ h => ∃ K : Frg, K.In h ∧ SaysL K
  of := fun _ _ e => ⟨_, He.frG_in, e⟩
  keeps := fun _ _ _ ⟨K, hK, c⟩ k => ⟨K, PySem.W.Frag.In.keeps hK k, c⟩
theorem obsG_eq {n : Nat} {g : Addr → Option Obj} {s : Shared} (h : ∀ a, g a = s.heap.get? a) : obsG n g = (hookL n).obs s := by
  have e : g = s.heap.get? := funext h
  rw [e] <;> rfl
abbrev RR : PySem.W.OpenRow := PySem.W.OpenLaw.row PySem.Challenge.rw_layernets_k65_whole_one_table_for_all_in
def ob (s : PySem.W.SharedT) : He.AlD := obsG 7 (HandSHeadRun.getT s)
theorem ob_eq (s : PySem.W.SharedT) : ob s = (hookL 7).obs s.abs := obsG_eq (HandSHeadRun.getT_eq s)
def looseN0 : List Str := [
  "LETTERS",
  "DIGITS",
  "MOST_LETTERS",
  "is_name",
  "set_of",
  "tupled",
  "number_in",
  "NONE",
  "WHOLE_fractions",
  "common_part",
  "fraction",
  "plus",
  "minus",
  "times",
  "over",
  "is_less",
  "lesser",
  "FlowError",
  "BadPart",
  "BadText"]
def looseN1 : List Str := [
  "cut_at",
  "place_for",
  "Stretches",
  "stretches_of",
  "layers_of",
  "table_of",
  "borders",
  "outlets_of",
  "amount_of",
  "amounts",
  "alike",
  "NOTHING",
  "BLANK",
  "SLASH",
  "BETWEEN",
  "WHOLE_texts",
  "PAIR",
  "LONG",
  "amount_text",
  "part_text"]
def looseN2 : List Str := [
  "amount_in",
  "part_in",
  "SOURCE_nets",
  "WEIR_nets",
  "JOIN",
  "taken_names",
  "made_names",
  "stands_behind",
  "Net",
  "SOURCE_builds",
  "HALF",
  "fresh_names",
  "Builder",
  "net_of",
  "leanest",
  "WEIR_walks",
  "DIVIDE",
  "run",
  "flow",
  "_law_box"]
def looseN3 : List Str := [
  "_law_take",
  "_law_cells",
  "_law_of",
  "_law_same",
  "_law_frac",
  "_law_plus",
  "_law_minus",
  "_law_mul",
  "_law_less",
  "_law_amount",
  "_law_parts",
  "_law_walk",
  "_law_by_hand_right",
  "_law_spots",
  "_law_changed",
  "_law_bent_right",
  "_law_case_right",
  "_law_right"]
def looseN : List Str := looseN0 ++ looseN1 ++ looseN2 ++ looseN3

end LN
section
set_option maxHeartbeats 0
namespace LN
open PySem PySem.Spec PyProof.Rows L2
theorem run (w : World) : HandSHeadRun.RunEq RR (PySem.W.view RR.prog [88]) (hookL 7) ob 6000 looseN w := by
  intro os
  kernel_rfl
end LN
end
namespace LN
open PySem PySem.Spec PyProof.Rows L2 SlX

section
variable {P : Program} {w : World} {K : Frg} {mg : Str → Option Value} {base : Heap}
/-- the def at f keeps the promise R, called with as many arguments as ps -/
structure Kp (P : Program) (w : World) (K : Frg) (mg : Str → Option Value) (base : Heap) (lv : Nat) (f : Addr) (ps : List Str) (R : AN) : Prop where
  ex : ∃ fd, FnOk P w K mg base CX0 lv f fd ps (spA K R) ∧ Binds K fd ps []
  kp : PySem.W.keepIn K (.ref f) = true
theorem Kp.fnR {lv : Nat} {f : Addr} {ps : List Str} {R : AN} (c : Kp P w K mg base lv f ps R) : FnR P w K mg base CX0 lv f (spA K R) := by
  obtain ⟨fd, F, B⟩ := c.ex
  exact (L2.FnOk.raw F B .nil).imp fun vs H Q E h => by rw [List.append_nil]; exact h
/-- what the head tells -/
structure Tx (K : Frg) (mg : Str → Option Value) : Prop where
  says : SaysL K
  heap : ∃ h : Heap, K.In h ∧ h.Ns mainGlobals mg
theorem Tx.fact (T : Tx K mg) (i : Nat) {f : He.Fa} (h : fcs[i]? = some f := by rfl) : f.ok K = true := by
  have c1 := (He.ba (He.ba (show (exB K && dfs.all fun d => d.ok K) = true from congrArg (fun z : He.AlD => z.1) T.says)).1).1
  exact List.all_eq_true.mp c1 f (List.mem_of_getElem? h)
theorem Tx.more (T : Tx K mg) : moreB K = true := (He.ba (He.ba (show (exB K && dfs.all fun d => d.ok K) = true from congrArg (fun z : He.AlD => z.1) T.says)).1).2
theorem Tx.def_ (T : Tx K mg) (i : Nat) {d : He5.DefA} (h : dfs[i]? = some d := by rfl) : ∃ fd, FunD K d.name d.qual d.params d.body d.scope (d.dvs K) (d.kws K) (d.at_ K) fd := by
  have c2 := (He.ba (show (exB K && dfs.all fun d => d.ok K) = true from congrArg (fun z : He.AlD => z.1) T.says)).2
  have e : dfs.map (fun d => He5.fnA K (d.at_ K)) = dfs.map He5.DefA.val := congrArg (fun z : He.AlD => z.2) T.says
  have e2 : (dfs.map fun d => He5.fnA K (d.at_ K))[i]? = (dfs.map He5.DefA.val)[i]? := by rw [e]
  rw [List.getElem?_map, List.getElem?_map, h] at e2
  exact He5.DefA.funD (Option.some.inj e2) (List.all_eq_true.mp c2 d (List.mem_of_getElem? h))
theorem Tx.glo (T : Tx K mg) (i : Nat) {x : Str} (h : fcs[i]? = some (.glo x) := by rfl) : mg x = some (.ref (He.ga K x)) := let ⟨_, X, G⟩ := T.heap; He.glo_ok X G (T.fact i h)
theorem Tx.free (T : Tx K mg) (i : Nat) {x : Str} (h : fcs[i]? = some (.free x) := by rfl) : mg x = none := let ⟨_, X, G⟩ := T.heap; He.free_ok X G (T.fact i h)
theorem Tx.str (T : Tx K mg) (i : Nat) {x z : Str} (h : fcs[i]? = some (.str x z) := by rfl) : ∃ t, mg x = some (.str z t) := let ⟨_, X, G⟩ := T.heap; He.str_ok X G (T.fact i h)

/-- the rule for a def: its body's two terms, its reading -/
theorem kp_of {x qual : Str} {params : Arguments} {st : List Stmt} {sc : Scope} {dvs : List V} {kws : List (Str × V)} {f : Addr} {fd : FuncData} {N ps : List Str} {k : Nat} {R : AN} (Fn : FunD K x qual params st sc dvs kws f fd) (S : FnScope N ps sc) (B : Binds K fd ps []) (len : ∀ xs M Q, R xs M Q → xs.length = ps.length)
    (body : ∀ (cdv : Value) (A : Around) (outer : List Env) (s : Shared) (H : Hp) (E : XK), Room k (A.deeper (envOfC qual sc s.heap.objs.size f cdv)) →
      ∃ t α, XSs (cxOf CX0 P w K mg base N qual sc f cdv A outer s H E).nox st t α ∧
        ∀ xs M Qa, R xs M Qa → α { nx := fun _ M1 => ∃ M', Sub M' M1 ∧ Qa (.d .none) M', rt := fun v M1 => ∃ M', Sub M' M1 ∧ Qa v M' } (startA N xs) M) : Kp P w K mg base (k + 1) f ps R := by
  refine ⟨⟨fd, Fn.ok S (fun vs H Q E h => ?_) (fun cdv A outer s H vs Q E hr h => ?_), B⟩, Fn.kp⟩
  · obtain ⟨F, xs, M, Qa, ok, rp, r, _⟩ := h
    rw [pair_len rp]
    exact len xs M Qa r
  · obtain ⟨F, xs, M, Qa, ok, rp, r, q⟩ := h
    obtain ⟨t, α, X, hα⟩ := body cdv A outer s H E hr
    refine ⟨t, X.p.nox, ?_⟩
    refine X.s (startA N xs) M _ (L2.start N vs) F H _ ⟨ok, start_pair rp⟩ (hα xs M Qa r) (fun ρ' M1 σ' F' H' ⟨M', sb, qa⟩ s1 ok1 => ?_) (fun v M1 u F' H' ⟨M', sb, qa⟩ s1 ok1 r1 => ?_) (fun _ _ _ _ _ z => z.elim) (fun _ _ _ _ _ z => z.elim)
    · exact q _ M' _ F' H' qa s1 (ok1.toOkM.sub sb) .non
    · exact q v M' u F' H' qa s1 (ok1.sub sb) r1
theorem kp_n {x qual : Str} {params : Arguments} {st : List Stmt} {sc : Scope} {kws : List (Str × V)} {f : Addr} {N ps : List Str} {k : Nat} {R : AN} (Fn : ∃ fd, FunD K x qual params st sc [] kws f fd) (S : FnScope N ps sc)
    (hb : ∀ (kV doc pm : Value) (an : Option Addr) (cdv ct : Value) (us : List Value), us.length = ps.length → bindArgs (PySem.W.fnOf x qual params st sc .none kV doc pm an cdv ct) ⟨us, []⟩ = pure (ps.zip us)) (len : ∀ xs M Q, R xs M Q → xs.length = ps.length)
    (body : ∀ (cdv : Value) (A : Around) (outer : List Env) (s : Shared) (H : Hp) (E : XK), Room k (A.deeper (envOfC qual sc s.heap.objs.size f cdv)) →
      ∃ t α, XSs (cxOf CX0 P w K mg base N qual sc f cdv A outer s H E).nox st t α ∧
        ∀ xs M Qa, R xs M Qa → α { nx := fun _ M1 => ∃ M', Sub M' M1 ∧ Qa (.d .none) M', rt := fun v M1 => ∃ M', Sub M' M1 ∧ Qa v M' } (startA N xs) M) : Kp P w K mg base (k + 1) f ps R := by
  obtain ⟨fd, Fn⟩ := Fn
  exact kp_of Fn S (Fn.bindsN hb) len body
end
section
variable {X : Cx} {lv : Nat} {f C : Addr} {ps : List Str} {R : AN} {x m : Str} {p pos apos : Pos} {e o : Expr} {es : List Expr} {ta : TE} {t : TA}
theorem pe_def (c : Kp X.prog X.w X.K X.mg X.base lv f ps R) (hr : Room lv X.A) (hg : Gl X x) (hm : X.mg x = some (.ref f)) (ha : PA X (e :: es) t) (hd : (x == ("__debug__" : Str)) = false := by decide)
    (hs : starEach (e :: es) X.env = (false, eval e X.env) :: starEach es X.env := by rfl) (hpl : (backTo pos (starEach es X.env)).any (·.1) = false := by rfl) :
    PE X (.Call (.Name x p) (e :: es) [] pos) (tCall (spA X.K R) [] E0 t) := by
  obtain ⟨fd, F, B⟩ := c.ex
  exact pe_call F hr hg hm c.kp B .nil pass0 ha hd hs hpl
theorem pe_def0 (c : Kp X.prog X.w X.K X.mg X.base lv f ps R) (hr : Room lv X.A) (hg : Gl X x) (hm : X.mg x = some (.ref f)) (hd : (x == ("__debug__" : Str)) = false := by decide) :
    PE X (.Call (.Name x p) [] [] pos) (tCall (spA X.K R) [] E0 tNil) := by
  obtain ⟨fd, F, B⟩ := c.ex
  exact pe_call0 F hr hg hm c.kp B .nil pass0 hd
end
end LN
namespace LN
open PySem PySem.Spec PyProof.Rows L2 SlX

section
variable {K : Frg}
theorem se_int {i : Int} : SE K (tC (.int i)) (aC (.d (.int i))) := se_c fun _ => .int i
theorem se_str {x : Str} : SE K (tC (.str x)) (aC (.d (.str x))) := se_c fun _ => .str x
theorem se_non : SE K (tC .non) (aC (.d .none)) := se_c fun _ => .non
theorem se_bl {b : Bool} : SE K (tC (.bl b)) (aC (.d (.bool b))) := se_c fun _ => .bl b
theorem u65 {k : Nat} {A : Around} (hr : Room k A) : A.units + 65 < cLine := by have := hr.un; omega

/-! built-ins, by values -/
def RAbs : AN := fun xs M Q => ∃ i, xs = [.d (.int i)] ∧ Q (.d (.int (i.natAbs : Int))) M
theorem sn_abs : SN K (fun xs H Q => ∃ i, xs = [.int i] ∧ Q (.int (if i < 0 then -i else i)) H) RAbs := by
  intro xs M Qa vs F H Q ok r ⟨i, e, q⟩ k
  subst e
  cases r with
  | cons r1 rr =>
    cases rr
    refine ⟨i, by rw [rep_int r1], ?_⟩
    have e : (if i < 0 then -i else i) = (i.natAbs : Int) := by split <;> omega
    rw [e]
    exact k _ M _ F H q (Same.refl _) ok (.int _)
def RLen : AN := fun xs M Q => (∃ ds, xs = [.d (.list ds)] ∧ Q (.d (.int (ds.length : Int))) M) ∨ (∃ ds, xs = [.d (.tuple ds)] ∧ Q (.d (.int (ds.length : Int))) M) ∨ ∃ a ys l1 l2, xs = [.m a] ∧ M = l1 ++ (a, .lst ys) :: l2 ∧ Q (.d (.int (ys.length : Int))) M
theorem sn_len : SN K (fun xs H Q => ∃ p ys, xs = [.ref p] ∧ (SqL K H p ys ∨ SqT K H p ys) ∧ Q (.int ys.length) H) RLen := by
  intro xs M Qa vs F H Q ok r h k
  rcases h with ⟨ds, e, q⟩ | ⟨ds, e, q⟩ | ⟨a, ys, l1, l2, e, em, q⟩
  · subst e
    cases r with
    | cons r1 rr =>
      cases rr
      obtain ⟨a, us, rfl, h1, h2⟩ := rep_lst r1
      refine ⟨a, us, rfl, .inl (okM_sql ok h1), ?_⟩
      rw [dps_len h2]
      exact k _ M _ F H q (Same.refl _) ok (.int _)
  · subst e
    cases r with
    | cons r1 rr =>
      cases rr
      obtain ⟨a, us, rfl, h1, h2⟩ := rep_tup r1
      refine ⟨a, us, rfl, .inr (okM_sqt ok h1), ?_⟩
      rw [dps_len h2]
      exact k _ M _ F H q (Same.refl _) ok (.int _)
  · subst e
    cases r with
    | cons r1 rr =>
      cases rr
      have e' : _ = V.ref a := r1
      subst e'
      have ok' := ok
      rw [em] at ok'
      obtain ⟨us, h1, h2⟩ := ok'.mid
      refine ⟨a, us, rfl, .inl (.inl (.inl h1)), ?_⟩
      rw [pair_len h2]
      exact k _ M _ F H q (Same.refl _) ok (.int _)
/-- tuple(x) -/
def RTuple : AN := fun xs M Q => (∃ ds, xs = [.d (.list ds)] ∧ Q (.d (.tuple ds)) M) ∨ (∃ ds, xs = [.d (.tuple ds)] ∧ Q (.d (.tuple ds)) M) ∨ ∃ a ys ds l1 l2, xs = [.m a] ∧ M = l1 ++ (a, .lst ys) :: l2 ∧ dats ys = some ds ∧ Q (.d (.tuple ds)) M
theorem sn_tuple : SN K (rTupleS K) RTuple := by
  intro xs M Qa vs F H Q ok r h k
  rcases h with ⟨ds, e, q⟩ | ⟨ds, e, q⟩ | ⟨a, ys, ds, l1, l2, e, em, ed, q⟩
  · subst e
    cases r with
    | cons r1 rr =>
      cases rr
      obtain ⟨a, us, rfl, h1, h2⟩ := rep_lst r1
      exact ⟨a, us, rfl, .inl ⟨okM_sql ok h1, newS ok h2 fun F' H' v s2 ok2 d => k _ M _ _ _ q s2 ok2 d⟩⟩
  · subst e
    cases r with
    | cons r1 rr =>
      cases rr
      obtain ⟨a, us, rfl, h1, h2⟩ := rep_tupS r1
      exact ⟨a, us, rfl, .inr ⟨okM_sqt ok h1.sqt, k _ M _ F H q (Same.refl _) ok (.tup h1 h2)⟩⟩
  · subst e
    cases r with
    | cons r1 rr =>
      cases rr
      have e' : _ = V.ref a := r1
      subst e'
      have ok' := ok
      rw [em] at ok'
      obtain ⟨us, h1, h2⟩ := ok'.mid
      exact ⟨a, us, rfl, .inl ⟨.inl (.inl h1), newS ok (dats_rep ed h2) fun F' H' v s2 ok2 d => k _ M _ _ _ q s2 ok2 d⟩⟩
/-- int(x) -/
def RInt : AN := fun xs M Q => (∃ i, xs = [.d (.int i)] ∧ Q (.d (.int i)) M) ∨ ∃ b : Bool, xs = [.d (.bool b)] ∧ Q (.d (.int (if b then 1 else 0))) M
theorem sn_int : SN K (fun xs H Q => (∃ i, xs = [.int i] ∧ Q (.int i) H) ∨ ∃ k, xs = [.bl k] ∧ Q (.int (if k then 1 else 0)) H) RInt := by
  intro xs M Qa vs F H Q ok r h k
  rcases h with ⟨i, e, q⟩ | ⟨b, e, q⟩
  · subst e
    cases r with
    | cons r1 rr =>
      cases rr
      exact .inl ⟨i, by rw [rep_int r1], k _ M _ F H q (Same.refl _) ok (.int _)⟩
  · subst e
    cases r with
    | cons r1 rr =>
      cases rr
      exact .inr ⟨b, by rw [rep_bool r1], k _ M _ F H q (Same.refl _) ok (.int _)⟩
def RStrInt : AN := fun xs M Q => ∃ i : Int, xs = [.d (.int i)] ∧ i.natAbs.log2 < 1920 ∧ Q (.d (.str (toString i))) M
theorem sn_strint : SN K (fun xs H Q => ∃ i : Int, xs = [.int i] ∧ i.natAbs.log2 < 1920 ∧ Q (.str (toString i)) H) RStrInt := by
  intro xs M Qa vs F H Q ok r ⟨i, e, hl, q⟩ k
  subst e
  cases r with
  | cons r1 rr =>
    cases rr
    exact ⟨i, by rw [rep_int r1], hl, k _ M _ F H q (Same.refl _) ok (.str _)⟩
def boolsD (bs : List Bool) : List PyData := bs.map .bool
theorem rep_bools {F : Hp} : ∀ {bs : List Bool} {vs : List V}, DsAll K F vs (boolsD bs) → vs = bs.map V.bl
  | [], _, h => by cases h; rfl
  | b :: bs, _, h => by
    cases h with
    | cons h1 h2 => cases h1; rw [rep_bools h2]; rfl
def RAll (f : List Bool → Bool) : AN := fun xs M Q => ∃ bs, xs = [.d (.list (boolsD bs))] ∧ Q (.d (.bool (f bs))) M
theorem sn_all : SN K (rAll K) (RAll fun bs => bs.all id) := by
  intro xs M Qa vs F H Q ok r ⟨bs, e, q⟩ k
  subst e
  cases r with
  | cons r1 rr =>
    cases rr
    obtain ⟨a, us, rfl, h1, h2⟩ := rep_lst r1
    refine ⟨a, bs, rfl, ?_, k _ M _ F H q (Same.refl _) ok (.bl _)⟩
    rw [← rep_bools h2]
    exact okM_sql ok h1
theorem sn_any : SN K (rAny K) (RAll fun bs => bs.any id) := by
  intro xs M Qa vs F H Q ok r ⟨bs, e, q⟩ k
  subst e
  cases r with
  | cons r1 rr =>
    cases rr
    obtain ⟨a, us, rfl, h1, h2⟩ := rep_lst r1
    refine ⟨a, bs, rfl, ?_, k _ M _ F H q (Same.refl _) ok (.bl _)⟩
    rw [← rep_bools h2]
    exact okM_sql ok h1
def RNeg : A1 := fun x M Q => ∃ i, x = .d (.int i) ∧ Q (.d (.int (-i))) M
theorem s1_neg : S1 K (rU fun i => .int (-i)) RNeg := by
  intro x M Qa v F H Q ok r ⟨i, e, q⟩ k
  subst e
  exact ⟨i, rep_int r, k _ M _ F H q (Same.refl _) ok (.int _)⟩
/-- *e in an argument list, a display -/
def aStar (α : AE) (β : AA) : AA := fun ρ M Q => α ρ M fun x M1 => ∃ ds, (x = .d (.list ds) ∨ x = .d (.tuple ds)) ∧ β ρ M1 fun xs M2 => Q (ds.map .d ++ xs) M2
theorem sa_star {t : TE} {u : TA} {α : AE} {β : AA} (h1 : SE K t α) (h2 : SA K u β) : SA K (StX.tStar K t u) (aStar α β) := by
  intro ρ M Qa σ F H Q ok qa k
  refine h1 ρ M _ σ F H _ ok qa fun x M1 v F1 H1 ⟨ds, e, q1⟩ s1 ok1 r1 => ?_
  have hx : ∃ p us, v = V.ref p ∧ (SqT K H1 p us ∨ SqL K H1 p us) ∧ DsAll K F1 us ds := by
    rcases e with e | e
    · subst e
      obtain ⟨a, us, rfl, h1, h2⟩ := rep_lst r1
      exact ⟨a, us, rfl, .inr (okM_sql ok1.toOkM h1), h2⟩
    · subst e
      obtain ⟨a, us, rfl, h1, h2⟩ := rep_tup r1
      exact ⟨a, us, rfl, .inl (okM_sqt ok1.toOkM h1), h2⟩
  obtain ⟨p, us, rfl, h3, h4⟩ := hx
  refine ⟨p, us, rfl, h3, ?_⟩
  refine h2 ρ M1 _ σ F1 H1 _ ok1 q1 fun xs M2 vs F2 H2 q2 s2 ok2 r2 => ?_
  exact k _ M2 _ F2 H2 q2 (s1.trans s2) ok2 (paired_app (rep_map (dps_mono s2 _ _ h4)) r2)
end

/-! ### fractions as data -/
def fr (q : Rat) : PyData := .tuple [.int q.num, .int (q.den : Int)]
/-- small enough to be reckoned with -/
def Fit (q : Rat) : Prop := 0 ≤ q ∧ q.num.natAbs < 2 ^ 4000 ∧ q.den < 2 ^ 4000
section
variable {K : Frg} {mg : Str → Option Value}
theorem pairN_ok {i j : Int} : ∀ {l : List Value}, pairN i j l = true → Vals [V.int i, V.int j] l ∧ l.length = 2
  | [.int a t, .int b u], h => by
    unfold pairN at h
    simp only [Bool.and_eq_true, decide_eq_true_eq] at h
    obtain ⟨rfl, rfl⟩ := h
    exact ⟨.cons ⟨t, rfl⟩ (.cons ⟨u, rfl⟩ .nil), rfl⟩
theorem tupN_ok {x : Str} {i j : Int} (h : tupN K x i j = true) (F : Hp) : SqS K F (He.ga K x) [.int i, .int j] := by
  unfold tupN at h
  cases q : K.lookup (He.ga K x) with
  | none => rw [q] at h; cases h
  | some o =>
    rw [q] at h
    obtain ⟨oc, od, dt, osl⟩ := o
    cases oc with
    | type c =>
      cases od with
      | some d => cases dt <;> cases h
      | none =>
        cases dt with
        | seq its n =>
          obtain ⟨h1, h2⟩ := He.ba (show (decide (c = "tuple") && pairN i j its.toList) = true from h)
          obtain ⟨h3, h4⟩ := pairN_ok h2
          refine .inr ⟨_, its, n, q, congrArg Value.type (of_decide_eq_true h1), rfl, rfl, ?_, h3⟩
          rw [← Array.length_toList, h4]
          decide
        | _ => cases h
    | _ => cases od <;> cases dt <;> cases h
theorem Tx.c_NONE (T : Tx K mg) (F : Hp) : Rep K F (.ref (He.ga K "NONE")) (.d (fr 0)) := by
  have h := T.more
  unfold moreB at h
  simp only [Bool.and_eq_true] at h
  exact .tup (tupN_ok h.2.2.2.2.2.2.2.1 F) (.cons (.int 0) (.cons (.int 1) .nil))
theorem Tx.c_WHOLE_fractions (T : Tx K mg) (F : Hp) : Rep K F (.ref (He.ga K "WHOLE_fractions")) (.d (fr 1)) := by
  have h := T.more
  unfold moreB at h
  simp only [Bool.and_eq_true] at h
  exact .tup (tupN_ok h.2.2.2.2.2.2.2.2.1 F) (.cons (.int 1) (.cons (.int 1) .nil))
theorem fr_half : fr (1/2) = .tuple [.int 1, .int 2] := by
  have h1 : ((1 : Rat) / 2).num = 1 := by decide +kernel
  have h2 : ((1 : Rat) / 2).den = 2 := by decide +kernel
  unfold fr
  rw [h1, h2]
  rfl
theorem Tx.c_HALF (T : Tx K mg) (F : Hp) : Rep K F (.ref (He.ga K "HALF")) (.d (fr (1/2))) := by
  have h := T.more
  unfold moreB at h
  simp only [Bool.and_eq_true] at h
  rw [fr_half]
  exact .tup (tupN_ok h.2.2.2.2.2.2.2.2.2 F) (.cons (.int 1) (.cons (.int 2) .nil))
end
end LN
namespace LN
open PySem PySem.Spec PyProof.Rows L2 SlX
theorem iteB {b : Bool} {A B : Prop} (h1 : b = true → A) (h2 : b = false → B) : if b = true then A else B := by
  cases b with
  | true => exact h1 rfl
  | false => exact h2 rfl
theorem eqv_int (i j : Int) : PyData.eqv (.int i) (.int j) = (i == j) := by simp only [PyData.eqv]
theorem log2_lt {n k : Nat} (h : n < 2 ^ k) (h0 : 0 < k) : n.log2 < k := by
  by_cases hn : n = 0
  · subst hn; simpa using h0
  · exact (Nat.log2_lt hn).mpr h
/-- products and quotients of numbers below 2 ^ 8500 -/
theorem mulW {i j : Int} (hi : i.natAbs < 2 ^ 8500) (hj : j.natAbs < 2 ^ 8500) : CMulW i j := wide_mul hi hj (by decide) (by decide) (by decide)
theorem divW {i j : Int} (h0 : 0 < j) (hj : j.natAbs < 2 ^ 8500) : CDivW i j := wide_div h0 hj (by decide) (by decide)
theorem fit_lt {n : Nat} (h : n < 2 ^ 4000) : n < 2 ^ 8500 := Nat.lt_of_lt_of_le h (Nat.pow_le_pow_right (by decide) (by decide))
theorem fit_mul {a b : Nat} (ha : a < 2 ^ 4000) (hb : b < 2 ^ 4000) : a * b < 2 ^ 8000 := by
  have e : (2 : Nat) ^ 8000 = 2 ^ 4000 * 2 ^ 4000 := by rw [← Nat.pow_add]
  rw [e]
  exact Nat.mul_lt_mul'' ha hb
theorem lt85 {n : Nat} (h : n < 2 ^ 8000) : n < 2 ^ 8500 := Nat.lt_of_lt_of_le h (Nat.pow_le_pow_right (by decide) (by decide))
theorem gcd_of_mk {t b : Nat} (hb : 0 < b) : (mkRat (t : Int) b).num = ((t / Nat.gcd t b : Nat) : Int) ∧ (mkRat (t : Int) b).den = b / Nat.gcd t b := by
  rw [Rat.num_mkRat, Rat.den_mkRat, if_neg (by omega), if_neg (by omega), Int.natAbs_natCast, Nat.gcd_comm b t]
  exact ⟨rfl, rfl⟩
section
variable {P : Program} {w : World} {K : Frg} {mg : Str → Option Value} {base : Heap}

def R_common_part : AN := fun xs M Q => ∃ a b : Nat, xs = [.d (.int (a : Int)), .d (.int (b : Int))] ∧ Q (.d (.int ((Nat.gcd a b : Nat) : Int))) M
abbrev N_common_part : List Str := ["one", "other"]
theorem sc_common_part : FnScope N_common_part ["one", "other"] (L2.defScope s_common_part) := ⟨rfl, rfl, rfl, by decide +kernel, rfl, by decide +kernel, by decide +kernel⟩
set_option maxHeartbeats 4000000 in
theorem kp_common_part (T : Tx K mg) : Kp P w K mg base 1 (He.ga K "common_part") ["one", "other"] R_common_part := by
  refine kp_n (k := 0) (T.def_ 2) sc_common_part (fun _ _ _ _ _ _ us hl => match us, hl with | [_, _], _ => rfl) (fun xs M Q h => ?len) (fun cdv A outer s H E hr => ⟨_, _, ⟨
    (pss_cons (ps_while PassesOwn.never (pt_cmpR (op_neD hr.units) (pv 1) pe_int (nomark _)) (pss_one (ps_par (i := 0) (j := 1) rfl sc_common_part.nd rfl rfl (by decide) rfl rfl (pa_cons (pv 1) (pa_cons (pe_op op_mod (pv 0) (pv 1)) pa_nil)) rfl))) (pss_one (ps_ret (pe_callB call_abs (by rfl) (T.free 77) (by decide +kernel) (pa_cons (pv 0) pa_nil))))),
    (ss_seq (ss_while (st_T (se_op s2_ne se_var se_int)) (ss_par (sa_cons se_var (sa_cons (se_op s2_I se_var se_var) sa_nil)))) (ss_ret (se_cb sn_abs (sa_cons se_var sa_nil))))⟩, fun xs M Qa h => ?body⟩)
  case len => obtain ⟨a, b, rfl, _⟩ := h; rfl
  case body =>
    obtain ⟨a, b, rfl, q⟩ := h
    refine ⟨fun m ρ M' => M' = M ∧ ∃ a' b' : Nat, ρ = [some (.d (.int (a' : Int))), some (.d (.int (b' : Int)))] ∧ Nat.gcd a' b' = Nat.gcd a b ∧ m = b', ⟨b, rfl, a, b, rfl, rfl, rfl⟩, ?_⟩
    rintro m ρ M' ⟨rfl, a', b', rfl, hg, rfl⟩
    refine ⟨_, rfl, _, _, rfl, rfl, rfl, rfl, _, rfl, ?_⟩
    refine iteB (fun e => ?_) (fun e => ?_)
    · rw [eqv_int] at e
      have e2 : ¬ ((m : Int) = 0) := by simpa using e
      refine ⟨_, rfl, _, rfl, _, rfl, _, _, rfl, rfl, by omega, _, _, rfl, m % 1 + a' % m, by have := Nat.mod_lt a' (show 0 < m by omega); omega, rfl, m, a' % m, ?_, ?_, by omega⟩
      · rfl
      · rw [Nat.gcd_comm m, ← Nat.gcd_rec, Nat.gcd_comm]; exact hg
    · rw [eqv_int] at e
      have e2 : (m : Int) = 0 := by simpa using e
      have e3 : m = 0 := by omega
      subst e3
      refine ⟨_, rfl, _, rfl, M', Sub.refl _, ?_⟩
      rw [Nat.gcd_zero_right] at hg
      rw [Int.natAbs_natCast, hg]
      exact q

def R_fraction : AN := fun xs M Q => ∃ t b : Nat, xs = [.d (.int (t : Int)), .d (.int (b : Int))] ∧ 0 < b ∧ b < 2 ^ 8500 ∧ Q (.d (fr (mkRat (t : Int) b))) M
abbrev N_fraction : List Str := ["top", "bottom", "part"]
theorem sc_fraction : FnScope N_fraction ["top", "bottom"] (L2.defScope s_fraction) := ⟨rfl, rfl, rfl, by decide +kernel, rfl, by decide +kernel, by decide +kernel⟩
set_option maxHeartbeats 4000000 in
theorem kp_fraction (T : Tx K mg) (c_common_part : Kp P w K mg base 1 (He.ga K "common_part") ["one", "other"] R_common_part) : Kp P w K mg base 2 (He.ga K "fraction") ["top", "bottom"] R_fraction := by
  refine kp_n (k := 1) (T.def_ 3) sc_fraction (fun _ _ _ _ _ _ us hl => match us, hl with | [_, _], _ => rfl) (fun xs M Q h => ?len) (fun cdv A outer s H E hr => ⟨_, _, ⟨
    (pss_cons (ps_set (i := 2) sc_fraction.nd rfl (Or.inl rfl) (pe_def c_common_part (hr.mono (by decide)) (by rfl) (T.glo 2) (pa_cons (pv 0) (pa_cons (pv 1) pa_nil)))) (pss_cons (ps_if (pt_cmpR op_lt (pv 1) pe_int (nomark _)) (pss_one (ps_set (i := 2) sc_fraction.nd rfl (Or.inl rfl) (pe_un un_neg (pv 2)))) pss_nil) (pss_one (ps_ret (pe_tupS (pa_cons (pe_op op_fdivW (pv 0) (pv 2)) (pa_cons (pe_op op_fdivW (pv 1) (pv 2)) pa_nil))))))),
    (ss_seq (ss_asg (se_call (sa_cons se_var (sa_cons se_var sa_nil))) sg_nm) (ss_seq (ss_if (st_T (se_op s2_B0 se_var se_int)) (ss_asg (se_un s1_neg se_var) sg_nm) ss_next) (ss_ret (se_tup (sa_cons (se_op s2_I se_var se_var) (sa_cons (se_op s2_I se_var se_var) sa_nil))))))⟩, fun xs M Qa h => ?body⟩)
  case len => obtain ⟨t, b, rfl, _⟩ := h; rfl
  case body =>
    obtain ⟨t, b, rfl, hb, hz, q⟩ := h
    have hg : 0 < Nat.gcd t b := Nat.gcd_pos_of_pos_right _ hb
    have hgb : Nat.gcd t b ≤ b := Nat.gcd_le_right _ hb
    refine ⟨_, rfl, _, rfl, t, b, rfl, ?_⟩
    refine ⟨_, rfl, _, _, rfl, rfl, _, rfl, iteB (fun e => ?_) (fun _ => ?_)⟩
    · have := of_decide_eq_true e
      omega
    · refine ⟨_, rfl, _, rfl, _, _, rfl, rfl, divW (by omega) (by rw [Int.natAbs_natCast]; omega), _, rfl, _, rfl, _, _, rfl, rfl, divW (by omega) (by rw [Int.natAbs_natCast]; omega), _, rfl, (show 2 ≤ 1000000 by decide), M, Sub.refl _, ?_⟩
      obtain ⟨e1, e2⟩ := gcd_of_mk (t := t) hb
      unfold fr at q
      rw [e1, e2] at q
      exact q


theorem fit_num {a : Rat} (h : Fit a) : ∃ n : Nat, a.num = (n : Int) ∧ n < 2 ^ 4000 := by
  have h0 : 0 ≤ a.num := Rat.num_nonneg.mpr h.1
  exact ⟨a.num.toNat, by omega, by have := h.2.1; omega⟩
theorem mk_add {a b : Rat} {n m : Nat} (ha : a.num = (n : Int)) (hb : b.num = (m : Int)) : a + b = mkRat ((n * b.den + m * a.den : Nat) : Int) (a.den * b.den) := by
  rw [Rat.add_def', ha, hb]; simp
theorem mk_mul {a b : Rat} {n m : Nat} (ha : a.num = (n : Int)) (hb : b.num = (m : Int)) : a * b = mkRat ((n * m : Nat) : Int) (a.den * b.den) := by
  rw [Rat.mul_def', ha, hb]; simp
theorem mk_sub {a b : Rat} {n m : Nat} (ha : a.num = (n : Int)) (hb : b.num = (m : Int)) (hle : b ≤ a) : m * a.den ≤ n * b.den ∧ a - b = mkRat ((n * b.den - m * a.den : Nat) : Int) (a.den * b.den) := by
  have h := (Rat.le_iff b a).mp hle
  rw [ha, hb] at h
  have h2 : m * a.den ≤ n * b.den := by exact_mod_cast h
  refine ⟨h2, ?_⟩
  rw [Rat.sub_def', ha, hb, Int.ofNat_sub h2]; simp
theorem mk_div {a b : Rat} {n m : Nat} (ha : a.num = (n : Int)) (hb : b.num = (m : Int)) (hm : 0 < m) : a / b = mkRat ((n * b.den : Nat) : Int) (a.den * m) := by
  rw [Rat.div_def, Rat.mul_def', Rat.num_inv, Rat.den_inv, hb, ha, if_neg (by omega), Int.natAbs_natCast]
  have : ((m : Int)).sign = 1 := Int.sign_eq_one_of_pos (by omega)
  rw [this]; simp
theorem den_lt {a : Rat} (h : Fit a) : 0 < a.den ∧ a.den < 2 ^ 4000 := ⟨a.den_pos, h.2.2⟩

def R_plus : AN := fun xs M Q => ∃ a b : Rat, xs = [.d (fr a), .d (fr b)] ∧ Fit a ∧ Fit b ∧  Q (.d (fr (a + b))) M
abbrev N_plus : List Str := ["one", "other"]
theorem sc_plus : FnScope N_plus ["one", "other"] (L2.defScope s_plus) := ⟨rfl, rfl, rfl, by decide +kernel, rfl, by decide +kernel, by decide +kernel⟩
set_option maxHeartbeats 4000000 in
theorem kp_plus (T : Tx K mg) (c_fraction : Kp P w K mg base 2 (He.ga K "fraction") ["top", "bottom"] R_fraction) : Kp P w K mg base 3 (He.ga K "plus") ["one", "other"] R_plus := by
  refine kp_n (k := 2) (T.def_ 4) sc_plus (fun _ _ _ _ _ _ us hl => match us, hl with | [_, _], _ => rfl) (fun xs M Q h => ?len) (fun cdv A outer s H E hr => ⟨_, _, ⟨
    (pss_one (ps_ret (pe_def c_fraction (hr.mono (by decide)) (by rfl) (T.glo 3) (pa_cons (pe_op op_add (pe_op op_mulW (pe_ix ix_seq (pv 0) pe_int (fun _ _ => rfl)) (pe_ix ix_seq (pv 1) pe_int (fun _ _ => rfl))) (pe_op op_mulW (pe_ix ix_seq (pv 1) pe_int (fun _ _ => rfl)) (pe_ix ix_seq (pv 0) pe_int (fun _ _ => rfl)))) (pa_cons (pe_op op_mulW (pe_ix ix_seq (pv 0) pe_int (fun _ _ => rfl)) (pe_ix ix_seq (pv 1) pe_int (fun _ _ => rfl))) pa_nil))))),
    (ss_ret (se_call (sa_cons (se_op s2_I0 (se_op s2_I (se_op s2_ix se_var se_int) (se_op s2_ix se_var se_int)) (se_op s2_I (se_op s2_ix se_var se_int) (se_op s2_ix se_var se_int))) (sa_cons (se_op s2_I (se_op s2_ix se_var se_int) (se_op s2_ix se_var se_int)) sa_nil))))⟩, fun xs M Qa h => ?body⟩)
  case len => obtain ⟨a, b, rfl, _⟩ := h; rfl
  case body =>
    obtain ⟨a, b, rfl, ha, hb, q⟩ := h
    obtain ⟨n, hn, ln⟩ := fit_num ha
    obtain ⟨m, hm, lm⟩ := fit_num hb
    obtain ⟨da, la⟩ := den_lt ha
    obtain ⟨db, lb⟩ := den_lt hb
    have z1 : (a.num).natAbs < 2 ^ 8500 := fit_lt (by rw [hn]; exact ln)
    have z2 : (b.num).natAbs < 2 ^ 8500 := fit_lt (by rw [hm]; exact lm)
    have z3 : ((a.den : Int)).natAbs < 2 ^ 8500 := fit_lt (by exact la)
    have z4 : ((b.den : Int)).natAbs < 2 ^ 8500 := fit_lt (by exact lb)

    rw [mk_add hn hm] at q
    refine ⟨_, rfl, _, 0, _, .inl rfl, rfl, rfl, _, rfl, _, 1, _, .inl rfl, rfl, rfl, _, _, rfl, rfl, mulW z1 z4, _, rfl, _, 0, _, .inl rfl, rfl, rfl, _, rfl, _, 1, _, .inl rfl, rfl, rfl, _, _, rfl, rfl, mulW z2 z3, _, _, rfl, rfl, _, rfl, _, 1, _, .inl rfl, rfl, rfl, _, rfl, _, 1, _, .inl rfl, rfl, rfl, _, _, rfl, rfl, mulW z3 z4, n * b.den + m * a.den, a.den * b.den, ?_, Nat.mul_pos da db, lt85 (fit_mul la lb), M, Sub.refl _, q⟩
    rw [hn, hm]; simp

def R_minus : AN := fun xs M Q => ∃ a b : Rat, xs = [.d (fr a), .d (fr b)] ∧ Fit a ∧ Fit b ∧ b ≤ a ∧  Q (.d (fr (a - b))) M
abbrev N_minus : List Str := ["one", "other"]
theorem sc_minus : FnScope N_minus ["one", "other"] (L2.defScope s_minus) := ⟨rfl, rfl, rfl, by decide +kernel, rfl, by decide +kernel, by decide +kernel⟩
set_option maxHeartbeats 4000000 in
theorem kp_minus (T : Tx K mg) (c_fraction : Kp P w K mg base 2 (He.ga K "fraction") ["top", "bottom"] R_fraction) : Kp P w K mg base 3 (He.ga K "minus") ["one", "other"] R_minus := by
  refine kp_n (k := 2) (T.def_ 5) sc_minus (fun _ _ _ _ _ _ us hl => match us, hl with | [_, _], _ => rfl) (fun xs M Q h => ?len) (fun cdv A outer s H E hr => ⟨_, _, ⟨
    (pss_one (ps_ret (pe_def c_fraction (hr.mono (by decide)) (by rfl) (T.glo 3) (pa_cons (pe_op op_sub (pe_op op_mulW (pe_ix ix_seq (pv 0) pe_int (fun _ _ => rfl)) (pe_ix ix_seq (pv 1) pe_int (fun _ _ => rfl))) (pe_op op_mulW (pe_ix ix_seq (pv 1) pe_int (fun _ _ => rfl)) (pe_ix ix_seq (pv 0) pe_int (fun _ _ => rfl)))) (pa_cons (pe_op op_mulW (pe_ix ix_seq (pv 0) pe_int (fun _ _ => rfl)) (pe_ix ix_seq (pv 1) pe_int (fun _ _ => rfl))) pa_nil))))),
    (ss_ret (se_call (sa_cons (se_op s2_I0 (se_op s2_I (se_op s2_ix se_var se_int) (se_op s2_ix se_var se_int)) (se_op s2_I (se_op s2_ix se_var se_int) (se_op s2_ix se_var se_int))) (sa_cons (se_op s2_I (se_op s2_ix se_var se_int) (se_op s2_ix se_var se_int)) sa_nil))))⟩, fun xs M Qa h => ?body⟩)
  case len => obtain ⟨a, b, rfl, _⟩ := h; rfl
  case body =>
    obtain ⟨a, b, rfl, ha, hb, hle, q⟩ := h
    obtain ⟨n, hn, ln⟩ := fit_num ha
    obtain ⟨m, hm, lm⟩ := fit_num hb
    obtain ⟨da, la⟩ := den_lt ha
    obtain ⟨db, lb⟩ := den_lt hb
    have z1 : (a.num).natAbs < 2 ^ 8500 := fit_lt (by rw [hn]; exact ln)
    have z2 : (b.num).natAbs < 2 ^ 8500 := fit_lt (by rw [hm]; exact lm)
    have z3 : ((a.den : Int)).natAbs < 2 ^ 8500 := fit_lt (by exact la)
    have z4 : ((b.den : Int)).natAbs < 2 ^ 8500 := fit_lt (by exact lb)

    obtain ⟨hs, e⟩ := mk_sub hn hm hle
    rw [e] at q
    refine ⟨_, rfl, _, 0, _, .inl rfl, rfl, rfl, _, rfl, _, 1, _, .inl rfl, rfl, rfl, _, _, rfl, rfl, mulW z1 z4, _, rfl, _, 0, _, .inl rfl, rfl, rfl, _, rfl, _, 1, _, .inl rfl, rfl, rfl, _, _, rfl, rfl, mulW z2 z3, _, _, rfl, rfl, _, rfl, _, 1, _, .inl rfl, rfl, rfl, _, rfl, _, 1, _, .inl rfl, rfl, rfl, _, _, rfl, rfl, mulW z3 z4, n * b.den - m * a.den, a.den * b.den, ?_, Nat.mul_pos da db, lt85 (fit_mul la lb), M, Sub.refl _, q⟩
    rw [hn, hm, Int.ofNat_sub hs]; simp

def R_times : AN := fun xs M Q => ∃ a b : Rat, xs = [.d (fr a), .d (fr b)] ∧ Fit a ∧ Fit b ∧  Q (.d (fr (a * b))) M
abbrev N_times : List Str := ["one", "other"]
theorem sc_times : FnScope N_times ["one", "other"] (L2.defScope s_times) := ⟨rfl, rfl, rfl, by decide +kernel, rfl, by decide +kernel, by decide +kernel⟩
set_option maxHeartbeats 4000000 in
theorem kp_times (T : Tx K mg) (c_fraction : Kp P w K mg base 2 (He.ga K "fraction") ["top", "bottom"] R_fraction) : Kp P w K mg base 3 (He.ga K "times") ["one", "other"] R_times := by
  refine kp_n (k := 2) (T.def_ 6) sc_times (fun _ _ _ _ _ _ us hl => match us, hl with | [_, _], _ => rfl) (fun xs M Q h => ?len) (fun cdv A outer s H E hr => ⟨_, _, ⟨
    (pss_one (ps_ret (pe_def c_fraction (hr.mono (by decide)) (by rfl) (T.glo 3) (pa_cons (pe_op op_mulW (pe_ix ix_seq (pv 0) pe_int (fun _ _ => rfl)) (pe_ix ix_seq (pv 1) pe_int (fun _ _ => rfl))) (pa_cons (pe_op op_mulW (pe_ix ix_seq (pv 0) pe_int (fun _ _ => rfl)) (pe_ix ix_seq (pv 1) pe_int (fun _ _ => rfl))) pa_nil))))),
    (ss_ret (se_call (sa_cons (se_op s2_I (se_op s2_ix se_var se_int) (se_op s2_ix se_var se_int)) (sa_cons (se_op s2_I (se_op s2_ix se_var se_int) (se_op s2_ix se_var se_int)) sa_nil))))⟩, fun xs M Qa h => ?body⟩)
  case len => obtain ⟨a, b, rfl, _⟩ := h; rfl
  case body =>
    obtain ⟨a, b, rfl, ha, hb, q⟩ := h
    obtain ⟨n, hn, ln⟩ := fit_num ha
    obtain ⟨m, hm, lm⟩ := fit_num hb
    obtain ⟨da, la⟩ := den_lt ha
    obtain ⟨db, lb⟩ := den_lt hb
    have z1 : (a.num).natAbs < 2 ^ 8500 := fit_lt (by rw [hn]; exact ln)
    have z2 : (b.num).natAbs < 2 ^ 8500 := fit_lt (by rw [hm]; exact lm)
    have z3 : ((a.den : Int)).natAbs < 2 ^ 8500 := fit_lt (by exact la)
    have z4 : ((b.den : Int)).natAbs < 2 ^ 8500 := fit_lt (by exact lb)

    rw [mk_mul hn hm] at q
    refine ⟨_, rfl, _, 0, _, .inl rfl, rfl, rfl, _, rfl, _, 0, _, .inl rfl, rfl, rfl, _, _, rfl, rfl, mulW z1 z2, _, rfl, _, 1, _, .inl rfl, rfl, rfl, _, rfl, _, 1, _, .inl rfl, rfl, rfl, _, _, rfl, rfl, mulW z3 z4, n * m, a.den * b.den, ?_, Nat.mul_pos da db, lt85 (fit_mul la lb), M, Sub.refl _, q⟩
    rw [hn, hm]; simp

def R_over : AN := fun xs M Q => ∃ a b : Rat, xs = [.d (fr a), .d (fr b)] ∧ Fit a ∧ Fit b ∧ 0 < b ∧  Q (.d (fr (a / b))) M
abbrev N_over : List Str := ["one", "other"]
theorem sc_over : FnScope N_over ["one", "other"] (L2.defScope s_over) := ⟨rfl, rfl, rfl, by decide +kernel, rfl, by decide +kernel, by decide +kernel⟩
set_option maxHeartbeats 4000000 in
theorem kp_over (T : Tx K mg) (c_fraction : Kp P w K mg base 2 (He.ga K "fraction") ["top", "bottom"] R_fraction) : Kp P w K mg base 3 (He.ga K "over") ["one", "other"] R_over := by
  refine kp_n (k := 2) (T.def_ 7) sc_over (fun _ _ _ _ _ _ us hl => match us, hl with | [_, _], _ => rfl) (fun xs M Q h => ?len) (fun cdv A outer s H E hr => ⟨_, _, ⟨
    (pss_one (ps_ret (pe_def c_fraction (hr.mono (by decide)) (by rfl) (T.glo 3) (pa_cons (pe_op op_mulW (pe_ix ix_seq (pv 0) pe_int (fun _ _ => rfl)) (pe_ix ix_seq (pv 1) pe_int (fun _ _ => rfl))) (pa_cons (pe_op op_mulW (pe_ix ix_seq (pv 0) pe_int (fun _ _ => rfl)) (pe_ix ix_seq (pv 1) pe_int (fun _ _ => rfl))) pa_nil))))),
    (ss_ret (se_call (sa_cons (se_op s2_I (se_op s2_ix se_var se_int) (se_op s2_ix se_var se_int)) (sa_cons (se_op s2_I (se_op s2_ix se_var se_int) (se_op s2_ix se_var se_int)) sa_nil))))⟩, fun xs M Qa h => ?body⟩)
  case len => obtain ⟨a, b, rfl, _⟩ := h; rfl
  case body =>
    obtain ⟨a, b, rfl, ha, hb, h0, q⟩ := h
    obtain ⟨n, hn, ln⟩ := fit_num ha
    obtain ⟨m, hm, lm⟩ := fit_num hb
    obtain ⟨da, la⟩ := den_lt ha
    obtain ⟨db, lb⟩ := den_lt hb
    have z1 : (a.num).natAbs < 2 ^ 8500 := fit_lt (by rw [hn]; exact ln)
    have z2 : (b.num).natAbs < 2 ^ 8500 := fit_lt (by rw [hm]; exact lm)
    have z3 : ((a.den : Int)).natAbs < 2 ^ 8500 := fit_lt (by exact la)
    have z4 : ((b.den : Int)).natAbs < 2 ^ 8500 := fit_lt (by exact lb)

    have m0 : 0 < m := by
      have := (Rat.lt_iff 0 b).mp h0
      rw [hm] at this
      simp at this
      omega
    rw [mk_div hn hm m0] at q
    refine ⟨_, rfl, _, 0, _, .inl rfl, rfl, rfl, _, rfl, _, 1, _, .inl rfl, rfl, rfl, _, _, rfl, rfl, mulW z1 z4, _, rfl, _, 1, _, .inl rfl, rfl, rfl, _, rfl, _, 0, _, .inl rfl, rfl, rfl, _, _, rfl, rfl, mulW z3 z2, n * b.den, a.den * m, ?_, Nat.mul_pos da m0, lt85 (fit_mul la lm), M, Sub.refl _, q⟩
    rw [hn, hm]; simp

def R_is_less : AN := fun xs M Q => ∃ a b : Rat, xs = [.d (fr a), .d (fr b)] ∧ Fit a ∧ Fit b ∧ Q (.d (.bool (decide (a < b)))) M
abbrev N_is_less : List Str := ["one", "other"]
theorem sc_is_less : FnScope N_is_less ["one", "other"] (L2.defScope s_is_less) := ⟨rfl, rfl, rfl, by decide +kernel, rfl, by decide +kernel, by decide +kernel⟩
set_option maxHeartbeats 4000000 in
theorem kp_is_less (T : Tx K mg) : Kp P w K mg base 1 (He.ga K "is_less") ["one", "other"] R_is_less := by
  refine kp_n (k := 0) (T.def_ 8) sc_is_less (fun _ _ _ _ _ _ us hl => match us, hl with | [_, _], _ => rfl) (fun xs M Q h => ?len) (fun cdv A outer s H E hr => ⟨_, _, ⟨
    (pss_one (ps_ret (pe_cmpR op_lt (pe_op op_mulW (pe_ix ix_seq (pv 0) pe_int (fun _ _ => rfl)) (pe_ix ix_seq (pv 1) pe_int (fun _ _ => rfl))) (pe_op op_mulW (pe_ix ix_seq (pv 1) pe_int (fun _ _ => rfl)) (pe_ix ix_seq (pv 0) pe_int (fun _ _ => rfl))) (nomark _)))),
    (ss_ret (se_op s2_B0 (se_op s2_I (se_op s2_ix se_var se_int) (se_op s2_ix se_var se_int)) (se_op s2_I (se_op s2_ix se_var se_int) (se_op s2_ix se_var se_int))))⟩, fun xs M Qa h => ?body⟩)
  case len => obtain ⟨a, b, rfl, _⟩ := h; rfl
  case body =>
    obtain ⟨a, b, rfl, ha, hb, q⟩ := h
    obtain ⟨n, hn, ln⟩ := fit_num ha
    obtain ⟨m, hm, lm⟩ := fit_num hb
    obtain ⟨da, la⟩ := den_lt ha
    obtain ⟨db, lb⟩ := den_lt hb
    have z1 : (a.num).natAbs < 2 ^ 8500 := fit_lt (by rw [hn]; exact ln)
    have z2 : (b.num).natAbs < 2 ^ 8500 := fit_lt (by rw [hm]; exact lm)
    have z3 : ((a.den : Int)).natAbs < 2 ^ 8500 := fit_lt (by exact la)
    have z4 : ((b.den : Int)).natAbs < 2 ^ 8500 := fit_lt (by exact lb)

    refine ⟨_, rfl, _, 0, _, .inl rfl, rfl, rfl, _, rfl, _, 1, _, .inl rfl, rfl, rfl, _, _, rfl, rfl, mulW z1 z4, _, rfl, _, 0, _, .inl rfl, rfl, rfl, _, rfl, _, 1, _, .inl rfl, rfl, rfl, _, _, rfl, rfl, mulW z2 z3, _, _, rfl, rfl, M, Sub.refl _, ?_⟩
    have e : decide (a < b) = decide (a.num * (b.den : Int) < b.num * (a.den : Int)) := decide_eq_decide.mpr (Rat.lt_iff a b)
    rw [e] at q
    exact q

def R_lesser : AN := fun xs M Q => ∃ a b : Rat, xs = [.d (fr a), .d (fr b)] ∧ Fit a ∧ Fit b ∧ Q (.d (fr (if a < b then a else b))) M
abbrev N_lesser : List Str := ["one", "other"]
theorem sc_lesser : FnScope N_lesser ["one", "other"] (L2.defScope s_lesser) := ⟨rfl, rfl, rfl, by decide +kernel, rfl, by decide +kernel, by decide +kernel⟩
set_option maxHeartbeats 4000000 in
theorem kp_lesser (T : Tx K mg) (c_is_less : Kp P w K mg base 1 (He.ga K "is_less") ["one", "other"] R_is_less) : Kp P w K mg base 2 (He.ga K "lesser") ["one", "other"] R_lesser := by
  refine kp_n (k := 1) (T.def_ 9) sc_lesser (fun _ _ _ _ _ _ us hl => match us, hl with | [_, _], _ => rfl) (fun xs M Q h => ?len) (fun cdv A outer s H E hr => ⟨_, _, ⟨
    (pss_one (ps_ret (pe_ifExp (pt_val (pe_def c_is_less (hr.mono (by decide)) (by rfl) (T.glo 8) (pa_cons (pv 0) (pa_cons (pv 1) pa_nil)))) (pe_callTy call_tupleS (by rfl) (T.free 69) boot_tuple (pa_cons (pv 0) pa_nil)) (pe_callTy call_tupleS (by rfl) (T.free 69) boot_tuple (pa_cons (pv 1) pa_nil))))),
    (ss_ret (se_if (st_B (se_call (sa_cons se_var (sa_cons se_var sa_nil)))) (se_cb sn_tuple (sa_cons se_var sa_nil)) (se_cb sn_tuple (sa_cons se_var sa_nil))))⟩, fun xs M Qa h => ?body⟩)
  case len => obtain ⟨a, b, rfl, _⟩ := h; rfl
  case body =>
    obtain ⟨a, b, rfl, ha, hb, q⟩ := h
    refine ⟨_, rfl, _, rfl, a, b, rfl, ha, hb, _, rfl, iteB (fun e => ?_) (fun e => ?_)⟩
    · rw [if_pos (of_decide_eq_true e)] at q
      exact ⟨_, rfl, .inr (.inl ⟨_, rfl, M, Sub.refl _, q⟩)⟩
    · rw [if_neg (of_decide_eq_false e)] at q
      exact ⟨_, rfl, .inr (.inl ⟨_, rfl, M, Sub.refl _, q⟩)⟩

end
end LN
namespace LN
open PySem PySem.Spec PyProof.Rows L2 SlX

section
variable {K : Frg}
theorem lenle {ds : List PyData} (n : Nat) (e : ds.length = n) (h : n ≤ 1000000) : ds.length ≤ 1000000 := by rw [e]; exact h
/-! texts -/
def strsD (ys : List Str) : List PyData := ys.map .str
theorem rep_strs {F : Hp} : ∀ {ys : List Str} {vs : List V}, DsAll K F vs (strsD ys) → vs = ys.map V.str
  | [], _, h => by cases h; rfl
  | b :: bs, _, h => by
    cases h with
    | cons h1 h2 => cases h1; rw [rep_strs h2]; rfl
theorem strs_rep {F : Hp} : ∀ {ys : List Str}, DsAll K F (ys.map V.str) (strsD ys)
  | [] => .nil
  | b :: bs => .cons (.str b) (strs_rep (ys := bs))
def aJoin (α β : AE) : AE := fun ρ M Q => α ρ M fun x M1 => ∃ a, x = .d (.str a) ∧ β ρ M1 fun y M2 => ∃ ys : List Str, (y = .d (.list (strsD ys)) ∨ y = .d (.tuple (strsD ys))) ∧ (ys.map (·.length)).sum + ys.length * a.length ≤ 16777216 ∧ Q (.d (.str (Txt.join a ys))) M2
theorem se_join {t u : TE} {α β : AE} (h1 : SE K t α) (h2 : SE K u β) : SE K (tM1 (fun x xs H Q => ∃ a p, ∃ ys : List Str, x = .str a ∧ xs = [.ref p] ∧ (SqL K H p (ys.map V.str) ∨ SqT K H p (ys.map V.str)) ∧
      (ys.map (·.length)).sum + ys.length * a.length ≤ 16777216 ∧ Q (.str (Txt.join a ys)) H) t u) (aJoin α β) := by
  intro ρ M Qa σ F H Q ok qa k
  refine h1 ρ M _ σ F H _ ok qa fun x M1 v F1 H1 ⟨a, e, q1⟩ s1 ok1 r1 => ?_
  subst e
  refine ⟨⟨a, rep_str r1⟩, ?_⟩
  refine h2 ρ M1 _ σ F1 H1 _ ok1 q1 fun y M2 w F2 H2 ⟨ys, e, hl, q2⟩ s2 ok2 r2 => ?_
  have key : ∃ p, w = .ref p ∧ (SqL K H2 p (ys.map V.str) ∨ SqT K H2 p (ys.map V.str)) := by
    rcases e with e | e
    · subst e
      obtain ⟨p, us, rfl, g1, g2⟩ := rep_lst r2
      rw [rep_strs g2] at g1
      exact ⟨p, rfl, .inl (okM_sql ok2.toOkM g1)⟩
    · subst e
      obtain ⟨p, us, rfl, g1, g2⟩ := rep_tup r2
      rw [rep_strs g2] at g1
      exact ⟨p, rfl, .inr (okM_sqt ok2.toOkM g1)⟩
  obtain ⟨p, rfl, g⟩ := key
  exact ⟨a, p, ys, rep_str r1, rfl, g, hl, k _ M2 _ F2 H2 q2 (s1.trans s2) ok2 (.str _)⟩
/-- sorted(x), x a list of texts, of data or mutable -/
def RSortS : AN := fun xs M Q => ∃ ys : List Str, ys.length < 64 ∧ (xs = [.d (.list (strsD ys))] ∨ ∃ a us l1 l2, xs = [.m a] ∧ M = l1 ++ (a, .lst us) :: l2 ∧ us = (strsD ys).map .d) ∧ ∀ zs, zs.Perm ys → sortedS zs = true → Q (.d (.list (strsD zs))) M
theorem sn_sortedS : SN K (rSortedS K) RSortS := by
  intro xs M Qa vs F H Q ok r ⟨ys, hl, h, q⟩ k
  have key : ∃ a, vs = [V.ref a] ∧ SqL K H a (ys.map V.str) := by
    rcases h with e | ⟨a, us, l1, l2, e, em, eu⟩
    · subst e
      cases r with
      | cons r1 rr =>
        cases rr
        obtain ⟨a, us, rfl, h1, h2⟩ := rep_lst r1
        rw [rep_strs h2] at h1
        exact ⟨a, rfl, okM_sql ok h1⟩
    · subst e; subst eu
      cases r with
      | cons r1 rr =>
        cases rr
        have e' : _ = V.ref a := r1
        subst e'
        have ok' := ok
        rw [em] at ok'
        obtain ⟨ws, h1, h2⟩ := ok'.mid
        have h3 := rep_strs (dats_rep (dats_map _) h2)
        rw [h3] at h1
        exact ⟨a, rfl, .inl (.inl h1)⟩
  obtain ⟨a, rfl, h1⟩ := key
  refine ⟨a, ys, rfl, h1, hl, fun zs p hp hs hn => ?_⟩
  obtain ⟨ok2, s2⟩ := ok.frozen (o := .lst (zs.map V.str)) hn
  exact k _ M _ _ _ (q zs hp hs) s2 ok2 (.lst (.inl (.inl upd_same)) strs_rep)
/-- list(x), to be changed -/
def RListM : AN := fun xs M Q => ∃ ds, (xs = [.d (.list ds)] ∨ xs = [.d (.tuple ds)]) ∧ ∀ p, Q (.m p) ((p, .lst (ds.map .d)) :: M)
theorem sn_list : SN K (fun xs H Q => ∃ p ys, xs = [.ref p] ∧ (SqL K H p ys ∨ SqT K H p ys) ∧ ∀ l, H l = none → Q (.ref l) (upd H l (.lst ys))) RListM := by
  intro xs M Qa vs F H Q ok r ⟨ds, h, q⟩ k
  have key : ∃ a us, vs = [V.ref a] ∧ (SqL K H a us ∨ SqT K H a us) ∧ DsAll K F us ds := by
    rcases h with e | e
    · subst e
      cases r with
      | cons r1 rr =>
        cases rr
        obtain ⟨a, us, rfl, h1, h2⟩ := rep_lst r1
        exact ⟨a, us, rfl, .inl (okM_sql ok h1), h2⟩
    · subst e
      cases r with
      | cons r1 rr =>
        cases rr
        obtain ⟨a, us, rfl, h1, h2⟩ := rep_tup r1
        exact ⟨a, us, rfl, .inr (okM_sqt ok h1), h2⟩
  obtain ⟨a, us, rfl, h1, h2⟩ := key
  refine ⟨a, us, rfl, h1, fun l hl => ?_⟩
  exact k _ _ _ F _ (q l) (Same.refl _) (ok.made hl ⟨us, upd_same, rep_map h2⟩) rfl
/-- x in t, t a tuple of data -/
def RInT (f : Bool → Bool) : A2 := fun x y M Q => ∃ a ds, x = .d a ∧ y = .d (.tuple ds) ∧ SeqAt.shaped a = true ∧ SeqAt.shaped (.tuple ds) = true ∧ Q (.d (.bool (f (ds.any fun z => PyData.eqv z a)))) M
def rInDT (K : Frg) (f : Bool → Bool) : R2 := fun x y H Q => ∃ d ds, Dp K H x d ∧ Dp K H y (.tuple ds) ∧ SeqAt.shaped d = true ∧ SeqAt.shaped (.tuple ds) = true ∧ Q (.bl (f (ds.any fun z => PyData.eqv z d))) H
theorem op_inDT {X : Cx} (hu : X.A.units + 65 < cLine) : OpR X (compareOp .In) (rInDT X.K id) := by
  intro pins s σ H x y v u Q I rx ry ⟨d, ds, hd, he, sd, se, q⟩
  obtain ⟨as, r1⟩ := Dp.reads I d x v hd rx
  obtain ⟨bs, r2⟩ := Dp.reads I (.tuple ds) y u he ry
  exact SeqAt.in_tuple_reads r2 r1 (SeqAt.canLay_of_shaped se) (SeqAt.canLay_of_shaped sd) (room_in_shaped sd hu) ⟨.bl _, H, I, rfl, q⟩
theorem op_notInDT {X : Cx} (hu : X.A.units + 65 < cLine) : OpR X (compareOp .NotIn) (rInDT X.K not) := by
  intro pins s σ H x y v u Q I rx ry ⟨d, ds, hd, he, sd, se, q⟩
  obtain ⟨as, r1⟩ := Dp.reads I d x v hd rx
  obtain ⟨bs, r2⟩ := Dp.reads I (.tuple ds) y u he ry
  exact SeqAt.notIn_tuple_reads r2 r1 (SeqAt.canLay_of_shaped se) (SeqAt.canLay_of_shaped sd) (room_in_shaped sd hu) ⟨.bl _, H, I, rfl, q⟩
theorem s2_inT {f : Bool → Bool} : S2 K (rInDT K f) (RInT f) := by
  intro x y M Qa v w F H Q ok rx ry ⟨a, ds, ex, ey, ha, hb, q⟩ k
  subst ex; subst ey
  exact ⟨a, ds, okM_dp ok rx, okM_dp ok ry, ha, hb, k _ M _ F H q (Same.refl _) ok (.bl _)⟩
/-! list + list, list * n -/
def rCatL (K : Frg) : R2 := fun x y H Q => ∃ l b xs zs, x = .ref l ∧ y = .ref b ∧ SqL K H l xs ∧ SqL K H b zs ∧ xs.length + zs.length ≤ sizeLine ∧ ∀ p, H p = none → Q (.ref p) (upd H p (.lst (xs ++ zs)))
theorem op_catL {X : Cx} : OpR X (binaryOp .Add) (rCatL X.K) := by
  intro pins s σ H x y v u Q I rx ry ⟨l, b, xs, zs, ex, ey, hH, hB, hz, q⟩
  subst ex; subst ey
  cases rx
  cases ry
  obtain ⟨its, r, ⟨⟨c1, d1, t1, l1⟩, n, e, ec, ed, et⟩, _⟩ := I.list hH
  obtain ⟨its2, r2, ⟨⟨c2, d2, t2, l2⟩, n2, e2, ec2, ed2, et2⟩, _⟩ := I.list hB
  simp only at ec ed et ec2 ed2 et2
  subst ec; subst ed; subst et; subst ec2; subst ed2; subst et2
  have g1 := r.length
  have g2 := r2.length
  have hh : its.toArray.size + its2.toArray.size ≤ sizeLine := by rw [List.size_toArray, List.size_toArray]; omega
  refine concat_meets ⟨_, e, rfl⟩ ⟨_, e2, rfl⟩ noFill_list_add seq_list_add PySem.F.slot_list_add PySem.F.entry_list_add (PySem.F.args_list_add_2 _ _) (list_addW l b its.toArray its2.toArray n n2 none none l1 l2 hh) ⟨e, e2, ?_⟩
  have ea : its.toArray ++ its2.toArray = (its ++ its2).toArray := by simp
  rw [ea]
  exact ⟨.ref _, _, I.lnew (t' := s.toks) (r.append r2) (by rw [List.length_append]; omega), rfl, q _ I.fresh⟩
theorem s2_catL : S2 K (rCatL K) RCat := by
  intro x y M Qa v w F H Q ok rx ry ⟨ds, es, ex, ey, hl, q⟩ k
  subst ex; subst ey
  obtain ⟨a, xs, rfl, h1, h2⟩ := rep_lst rx
  obtain ⟨b, ys, rfl, k1, k2⟩ := rep_lst ry
  refine ⟨a, b, xs, ys, rfl, rfl, okM_sql ok h1, okM_sql ok k1, by rw [dps_len h2, dps_len k2]; exact size_ok hl, fun p hp => ?_⟩
  obtain ⟨ok2, s2⟩ := ok.frozen (o := .lst (xs ++ ys)) hp
  exact k _ M _ _ _ q s2 ok2 (.lst (.inl (.inl upd_same)) (dps_app (dps_mono s2 _ _ h2) (dps_mono s2 _ _ k2)))
/-- a mutable list and data -/
def RCatM : A2 := fun x y M Q => ∃ a xs es l1 l2, x = .m a ∧ y = .d (.list es) ∧ M = l1 ++ (a, .lst xs) :: l2 ∧ xs.length + es.length ≤ 1000000 ∧ ∀ p, Q (.m p) ((p, .lst (xs ++ es.map .d)) :: M)
theorem s2_catM : S2 K (rCatL K) RCatM := by
  intro x y M Qa v w F H Q ok rx ry ⟨a, xs, es, l1, l2, ex, ey, em, hl, q⟩ k
  subst ex; subst ey
  have e' : v = .ref a := rx
  subst e'
  obtain ⟨b, ys, rfl, k1, k2⟩ := rep_lst ry
  have ok' := ok
  rw [em] at ok'
  obtain ⟨ws, h1, h2⟩ := ok'.mid
  refine ⟨a, b, ws, ys, rfl, rfl, .inl (.inl h1), okM_sql ok k1, by rw [pair_len h2, dps_len k2]; exact size_ok hl, fun p hp => ?_⟩
  exact k _ _ _ F _ (q p) (Same.refl _) (ok.made hp ⟨_, upd_same, paired_app h2 (rep_map k2)⟩) rfl
/-- a new list of data, twice -/
def RRepM : A2 := fun x y M Q => ∃ a xs ds l1 l2, x = .m a ∧ y = .d (.int 2) ∧ M = l1 ++ (a, .lst xs) :: l2 ∧ dats xs = some ds ∧ ds.length * 2 ≤ 1000000 ∧ Q (.d (.list (ds ++ ds))) M
theorem s2_repM : S2 K rRep RRepM := by
  intro x y M Qa v w F H Q ok rx ry ⟨a, xs, ds, l1, l2, ex, ey, em, ed, hl, q⟩ k
  subst ex; subst ey
  have e' : v = .ref a := rx
  subst e'
  have ok' := ok
  rw [em] at ok'
  obtain ⟨ws, h1, h2⟩ := ok'.mid
  have dp := dats_rep ed h2
  refine ⟨a, 2, ws, rfl, rep_int ry, h1, by decide, by decide, by rw [dps_len dp]; exact size_ok hl, fun p hp => ?_⟩
  have e : (List.replicate (2 : Int).toNat ws).flatten = ws ++ ws := by
    show (List.replicate 2 ws).flatten = ws ++ ws
    simp [List.replicate]
  rw [e]
  obtain ⟨ok2, s2⟩ := ok.frozen (o := .lst (ws ++ ws)) hp
  exact k _ M _ _ _ q s2 ok2 (.lst (.inl (.inl upd_same)) (dps_app (dps_mono s2 _ _ dp) (dps_mono s2 _ _ dp)))
/-- x or y, x a mutable list -/
def aOrT (α β : AE) : AE := fun ρ M Q => α ρ M fun x M1 => ∃ a xs l1 l2, x = .m a ∧ M1 = l1 ++ (a, .lst xs) :: l2 ∧ if xs.isEmpty = true then β ρ M1 Q else Q x M1
theorem se_orT {t u : TE} {α β : AE} (h1 : SE K t α) (h2 : SE K u β) : SE K (tOrT K t u) (aOrT α β) := by
  intro ρ M Qa σ F H Q ok qa k
  refine h1 ρ M _ σ F H _ ok qa fun x M1 v F1 H1 ⟨a, xs, l1, l2, ex, em, q1⟩ s1 ok1 r1 => ?_
  subst ex
  have e' : v = .ref a := r1
  subst e'
  have ok' := ok1.toOkM
  rw [em] at ok'
  obtain ⟨ws, g1, g2⟩ := ok'.mid
  refine ⟨!ws.isEmpty, .inl ⟨ws, .inl (.inl g1), rfl⟩, ?_⟩
  have hl := pair_len g2
  cases ws with
  | nil =>
    cases xs with
    | cons _ _ => simp at hl
    | nil => exact h2 ρ M1 _ σ F1 H1 _ ok1 q1 fun b M2 v F2 H2 q2 s2 ok2 => k b M2 v F2 H2 q2 (s1.trans s2) ok2
  | cons w ws =>
    cases xs with
    | nil => simp at hl
    | cons y ys => exact k _ M1 _ F1 H1 q1 s1 ok1 rfl
/-! statements -/
def sPar3 (i j l : Nat) (β : AA) : AS := fun D ρ M => β ρ M fun xs M1 => ∃ x y z, xs = [x, y, z] ∧ D.nx (((ρ.set i (some x)).set j (some y)).set l (some z)) M1
theorem ss_par3 {i j l : Nat} {t : TA} {β : AA} (h : SA K t β) : SS K (tPar3 i j l t) (sPar3 i j l β) := by
  intro ρ M Da σ F H D ok qa kn kr kb kc
  refine h ρ M _ σ F H _ ok qa fun xs M1 vs F1 H1 ⟨x, y, z, e, q⟩ s1 ok1 r1 => ?_
  subst e
  cases r1 with
  | cons a1 t1 =>
    cases t1 with
    | cons a2 t2 =>
      cases t2 with
      | cons a3 t3 =>
        cases t3
        exact ⟨_, _, _, rfl, kn _ M1 _ F1 H1 q s1 (((ok1.set a1 i).set a2 j).set a3 l)⟩
def sRetN : AS := fun D _ M => D.rt (.d .none) M
theorem ss_retN : SS K tRetN sRetN := fun ρ M Da σ F H D ok qa _ kr _ _ => kr _ M _ F H qa (Same.refl _) ok.toOkM .non
/-! one-key displays -/
def aDisp1 (α β : AE) : AE := fun ρ M Q => ∀ p, α ρ ((p, .dK []) :: M) fun x M1 => ∃ k, x = .d (.str k) ∧ β ρ M1 fun y M2 => ∃ M3, Sub ((p, .dK []) :: M3) M2 ∧ Q (.m p) ((p, .dK [(k, y)]) :: M3)
theorem se_disp1 {tk tv : TE} {α β : AE} (h1 : SE K tk α) (h2 : SE K tv β) : SE K (tDisp [(tk, tv)]) (aDisp1 α β) := by
  intro ρ M Qa σ F H Q ok qa k p hp
  have okD : Ok K ρ ((p, .dK []) :: M) σ F (upd H p (.dK [])) := ⟨ok.toOkM.made hp ⟨[], upd_same, .nil⟩, ok.env⟩
  refine h1 ρ _ _ σ F _ _ okD (qa p) fun x M1 v F1 H1 ⟨z, e, q1⟩ s1 ok1 r1 => ?_
  subst e
  refine h2 ρ M1 _ σ F1 H1 _ ok1 q1 fun y M2 w F2 H2 ⟨M3, sb, q2⟩ s2 ok2 r2 => ?_
  have ok3 := ok2.sub sb
  obtain ⟨ks, g1, g2⟩ := ok3.toOkM.at_ _ List.mem_cons_self
  have e0 : ks = [] := by cases g2; rfl
  subst e0
  refine ⟨g1, [(Sum.inr z, w)], by rw [rep_str r1]; rfl, by show 1 ≤ 15; decide, ?_⟩
  exact k _ _ _ F2 _ q2 (s1.trans s2) ⟨OkM.write (l1 := []) ok3.toOkM ⟨_, upd_same, .cons ⟨rfl, r2⟩ .nil⟩, env_mono (s1.trans s2) ok.env⟩ rfl
theorem pps_one {X : Cx} {pos : Pos} {k v : Expr} {tk tv : TE} (hk : PE X k tk) (hv : PE X v tv) : PPs X pos [some k] [v] [(tk, tv)] := pps_cons hk hv pps_nil
end
end LN
namespace LN
open PySem PySem.Spec PyProof.Rows L2 SlX

section
variable {K : Frg}
/-! ### isinstance of data -/
def tyN : PyData → String
  | .none => "NoneType"
  | .bool _ => "bool"
  | .int _ => "int"
  | .str _ => "str"
  | .list _ => "list"
  | .tuple _ => "tuple"
  | .dict _ => "dict"
theorem tyx_dp {F H : Hp} (s : Same F H) : ∀ {d : PyData} {v : V}, Ds K F v d → TyX K H v (.type (tyN d))
  | .none, _, h => by cases h; exact .base .non
  | .bool b, _, h => by cases h; exact .base (.bl b)
  | .int i, _, h => by cases h; exact .base (.int i)
  | .str x, _, h => by cases h; exact .base (.str x)
  | .list ds, _, h => by
    cases h with
    | lst hs ha =>
      rcases hs with (e | ⟨o, e⟩) | ⟨o, its, n, e, c, _⟩
      · exact .base (.lst (s _ _ e))
      · exact .base (.frz (s _ _ e))
      · exact .kList e c
  | .tuple ds, _, h => by
    cases h with
    | tup hs ha =>
      rcases hs.sqt with (e | ⟨o, e⟩) | ⟨o, its, n, e, c, _⟩
      · exact .base (.tup (s _ _ e))
      · exact .fTuple (s _ _ e)
      · exact .kTuple e c
  | .dict _, _, h => by cases h
def aIsi (f : PyData → Bool) (α : AE) : AE := fun ρ M Q => α ρ M fun x M1 => ∃ d, x = .d d ∧ Q (.d (.bool (f d))) M1
theorem se_isi1 {T : String} {f : PyData → Bool} {t : TE} {α : AE} (hk : ∀ d, kitB (tyN d) T = some (f d)) (h : SE K t α) : SE K (tCB (rIsi K) (tCons t (tCons (tC (.ty T)) tNil))) (aIsi f α) := by
  intro ρ M Qa σ F H Q ok qa k
  refine h ρ M _ σ F H _ ok qa fun x M1 v F1 H1 ⟨d, e, q⟩ s1 ok1 r1 => ?_
  subst e
  exact ⟨v, .ty T, .type (tyN d), .type T, f d, rfl, .ty T, tyx_dp ok1.same r1, kit_ty (hk d), k _ M1 _ F1 H1 q s1 ok1 (.bl _)⟩
theorem se_isiT2 {T U : String} {f : PyData → Bool} {t : TE} {α : AE} (hk : ∀ d, ∃ a b, kitB (tyN d) T = some a ∧ kitB (tyN d) U = some b ∧ f d = (a || b)) (h : SE K t α) : SE K (tCB (rIsiT K) (tCons t (tCons (tTup (tCons (tC (.ty T)) (tCons (tC (.ty U)) tNil))) tNil))) (aIsi f α) := by
  intro ρ M Qa σ F H Q ok qa k
  refine h ρ M _ σ F H _ ok qa fun x M1 v F1 H1 ⟨d, e, q⟩ s1 ok1 r1 => ?_
  subst e
  refine ⟨by show 2 ≤ sizeLine; decide, fun p hp => ?_⟩
  have ok2 := ok1.toOkM.other (o := .tup [.ty T, .ty U]) hp
  obtain ⟨a, b, h1, h2, h3⟩ := hk d
  refine ⟨v, p, [.ty T, .ty U], .type (tyN d), [.type T, .type U], f d, rfl, upd_same, .cons (.ty T) (.cons (.ty U) .nil), tyx_dp ok2.same r1, ?_, k _ M1 _ F1 _ q s1 ⟨ok2, ok1.env⟩ (.bl _)⟩
  refine kitAny_cons (kit_ty h1) (fun e => kitAny_cons (kit_ty h2) (fun e2 => ?_) fun e2 => ?_) fun e => ?_
  · rw [h3, e, e2]; rfl
  · rw [h3, e, e2]; rfl
  · rw [h3, e]; rfl
def isL : PyData → Bool
  | .list _ => true
  | _ => false
def isT : PyData → Bool
  | .tuple _ => true
  | _ => false
def isB : PyData → Bool
  | .bool _ => true
  | _ => false
def isI : PyData → Bool
  | .bool _ => true
  | .int _ => true
  | _ => false
def isLT : PyData → Bool
  | .list _ => true
  | .tuple _ => true
  | _ => false
def isBS : PyData → Bool
  | .bool _ => true
  | .str _ => true
  | _ => false
theorem kL : ∀ d, kitB (tyN d) "list" = some (isL d) := fun d => by cases d <;> simp only [tyN, isL, isT, isB, isI] <;> decide +kernel
theorem kT : ∀ d, kitB (tyN d) "tuple" = some (isT d) := fun d => by cases d <;> simp only [tyN, isL, isT, isB, isI] <;> decide +kernel
theorem kB : ∀ d, kitB (tyN d) "bool" = some (isB d) := fun d => by cases d <;> simp only [tyN, isL, isT, isB, isI] <;> decide +kernel
theorem kI : ∀ d, kitB (tyN d) "int" = some (isI d) := fun d => by cases d <;> simp only [tyN, isL, isT, isB, isI] <;> decide +kernel
def isS : PyData → Bool
  | .str _ => true
  | _ => false
theorem kS : ∀ d, kitB (tyN d) "str" = some (isS d) := fun d => by cases d <;> simp only [tyN, isS] <;> decide +kernel
theorem kLT : ∀ d, ∃ a b, kitB (tyN d) "list" = some a ∧ kitB (tyN d) "tuple" = some b ∧ isLT d = (a || b) := fun d => ⟨isL d, isT d, kL d, kT d, by cases d <;> rfl⟩
theorem kBS : ∀ d, ∃ a b, kitB (tyN d) "bool" = some a ∧ kitB (tyN d) "str" = some b ∧ isBS d = (a || b) := fun d => ⟨isB d, isS d, kB d, kS d, by cases d <;> rfl⟩

def gSlA (C : Addr) (i : Nat) (α : AE) : AG := fun y ρ M N => α ρ M fun x M2 => ∃ a dx vs l1 l2, x = .m a ∧ M2 = l1 ++ (a, .sl C dx vs) :: l2 ∧ N ρ (l1 ++ (a, .sl C dx (putO i y vs)) :: l2)
def gSl (K : Frg) (to : TE) (f : Str) : TG := fun y σ H N => to σ H fun x H2 => ∃ a C dx p vs i, x = .ref a ∧ Slt H2 a C dx vs ∧ SCls K C ∧ Slot1 K C f p i ∧ N σ (slH H2 a C dx (putS i y vs))
theorem sg_slot {C p : Addr} {f : Str} {i : Nat} {t : TE} {α : AE} (hc : SCls K C) (hs : Slot1 K C f p i) (h : SE K t α) : SG K (gSl K t f) (gSlA C i α) := by
  intro y ρ M Na v σ F H N ok r qa k
  refine h ρ M _ σ F H _ ok qa fun x M2 u F2 H2 ⟨a, dx, vs, l1, l2, ex, em, q2⟩ s2 ok2 r2 => ?_
  subst ex
  have e' : u = .ref a := r2
  subst e'
  have ok3 := ok2.toOkM
  rw [em] at ok3
  obtain ⟨us, g1, g2, g4⟩ := ok3.at_ _ (List.mem_append_right _ List.mem_cons_self)
  refine ⟨a, C, dx, p, us, i, rfl, g1, hc, hs, ?_⟩
  exact k _ _ _ F2 _ q2 s2 ⟨OkM.slot ok3 (rep_mono s2 r) g4, ok2.env⟩
/-! ### comprehensions over data that change nothing -/
theorem lcP {ι : AI} {γ : AG} {τ : AT} {ε : AE} {vs : List Nat} {ρ : AEnv} {M : Sto} {Q : AQ} (f : Va → Option PyData) (h : ι ρ M fun items M1 => items.length ≤ 1000000 ∧
    (∀ d ∈ items, ∀ p, γ d (wipeA ρ vs) (p :: M1) fun ρ2 M2 => τ ρ2 M2 fun b M3 => if b = true then ε ρ2 M3 fun y M4 => ∃ z, f d = some z ∧ y = .d z ∧ Sub (p :: M1) M4 else f d = none ∧ Sub (p :: M1) M3) ∧ Q (.d (.list (items.filterMap f))) M1)
    (mono : ∀ Q1 Q2, (∀ items M1, Q1 items M1 → Q2 items M1) → ι ρ M Q1 → ι ρ M Q2)
    (mg : ∀ x ρ M Q1 Q2, (∀ r m, Q1 r m → Q2 r m) → γ x ρ M Q1 → γ x ρ M Q2) (mt : ∀ ρ M Q1 Q2, (∀ r m, Q1 r m → Q2 r m) → τ ρ M Q1 → τ ρ M Q2) (me : ∀ ρ M (Q1 Q2 : AQ), (∀ r m, Q1 r m → Q2 r m) → ε ρ M Q1 → ε ρ M Q2) : aLc ι γ τ ε vs ρ M Q := by
  refine mono _ _ (fun items M1 ⟨hl, ht, q⟩ => ⟨hl, fun D => ⟨fun rest acc M => M = M1 ∧ ∃ pre, items = pre ++ rest ∧ acc = pre.filterMap f, ⟨rfl, [], rfl, rfl⟩, ?_, ?_⟩⟩) h
  · rintro d r acc M ⟨rfl, pre, e1, e2⟩
    refine mg _ _ _ _ _ (fun ρ2 M2 q2 => mt _ _ _ _ (fun b M3 q3 => ?_) q2) (ht d (by rw [e1]; simp) (D, .lst (acc.map .d)))
    cases b with
    | true =>
      refine me _ _ _ _ (fun y M4 ⟨z, e3, e4, sb⟩ => ⟨z, _, e4, sb, rfl, pre ++ [d], by rw [e1]; simp, ?_⟩) q3
      rw [e2, List.filterMap_append]
      simp [e3]
    | false =>
      obtain ⟨e3, sb⟩ := q3
      refine ⟨_, sb, rfl, pre ++ [d], by rw [e1]; simp, ?_⟩
      rw [e2, List.filterMap_append]
      simp [e3]
  · rintro acc M ⟨rfl, pre, e1, e2⟩
    rw [List.append_nil] at e1
    subst e1
    rw [e2]
    exact q
end
section
variable {X : Cx} {lv j : Nat} {f C : Addr} {ps : List Str} {R : AN} {x m : Str} {p pos apos : Pos} {e o : Expr} {es : List Expr} {ta te : TE} {t : TA}
theorem pe_isi1 {T : Str} {TT : String} {p2 : Pos} (he : PE X e te) (hg : Gl X "isinstance") (hm : X.mg "isinstance" = none) (hg2 : Gl X T) (hm2 : X.mg T = none) (hb : bootBuiltins T = some (.type TT)) (hn : T ≠ "__name__" := by decide) (hd : (T == ("__debug__" : Str)) = false := by decide)
    (na : starEach [e, .Name T p2] X.env = (false, eval e X.env) :: starEach [.Name T p2] X.env := by rfl) (na2 : starEach [.Name T p2] X.env = (false, eval (.Name T p2) X.env) :: starEach [] X.env := by rfl) (hpl : (backTo pos (starEach [.Name T p2] X.env)).any (·.1) = false := by rfl) :
    PE X (.Call (.Name "isinstance" p) [e, .Name T p2] [] pos) (tCB (rIsi X.K) (tCons te (tCons (tC (.ty TT)) tNil))) :=
  pe_callB call_isi hg hm (by decide +kernel) (pa_cons he (pa_cons (pe_bltn hg2 hm2 hb rfl hn hd) pa_nil na2) na) (he := na) (hpl := hpl)
/-- a def as a method -/
theorem pe_mt_ {pl : Sem Bool} (he : PE X o ta) (c : Cls X.K C) (hm : Meth X.K C m f) (c' : Kp X.prog X.w X.K X.mg X.base lv f ps R) (hr : Room lv X.A) (ha : PA X (e :: es) t)
    (hst : starEach (e :: es) X.env = (false, eval e X.env) :: starEach es X.env := by rfl) (hpl : (backTo pos (starEach es X.env)).any (·.1) = false := by rfl)
    (ht : eval (.Call (.Attribute o m apos) (e :: es) [] pos) X.env = (do
      let ov ← eval o X.env
      standAt apos.atName
      let (f, first) ← holding [ov] (getMethod ov m pl)
      callWith pos f first (backTo pos (starEach (e :: es) X.env)) (backToKw pos (keywordEach [] X.env))) := by rfl) :
    PE X (.Call (.Attribute o m apos) (e :: es) [] pos) (tMeth C m (spA X.K R) [] E0 ta t) := by
  obtain ⟨fd, F, B⟩ := c'.ex
  exact pe_meth he c hm F hr B .nil pass0 ha hst hpl ht
theorem pe_mt0_ {pl : Sem Bool} (he : PE X o ta) (c : Cls X.K C) (hm : Meth X.K C m f) (c' : Kp X.prog X.w X.K X.mg X.base lv f ps R) (hr : Room lv X.A)
    (ht : eval (.Call (.Attribute o m apos) [] [] pos) X.env = (do
      let ov ← eval o X.env
      standAt apos.atName
      let (f, first) ← holding [ov] (getMethod ov m pl)
      callWith pos f first (backTo pos (starEach [] X.env)) (backToKw pos (keywordEach [] X.env))) := by rfl) :
    PE X (.Call (.Attribute o m apos) [] [] pos) (tMeth C m (spA X.K R) [] E0 ta tNil) := by
  obtain ⟨fd, F, B⟩ := c'.ex
  exact pe_meth0 he c hm F hr B .nil pass0 ht
theorem pe_mk (M : Mk X.K C f) (c' : Kp X.prog X.w X.K X.mg X.base lv f ps R) (hr : Room (lv + 1) X.A) (hg : Gl X x) (hm : X.mg x = some (.ref C)) (ha : PA X (e :: es) t) (hdb : (x == ("__debug__" : Str)) = false := by decide)
    (he : starEach (e :: es) X.env = (false, eval e X.env) :: starEach es X.env := by rfl) (hpl : (backTo pos (starEach es X.env)).any (·.1) = false := by rfl) : PE X (.Call (.Name x p) (e :: es) [] pos) (tMake C (spA X.K R) [] E0 t) := by
  obtain ⟨fd, F, B⟩ := c'.ex
  exact pe_make M F hr hg hm B .nil pass0 ha hdb he hpl
theorem pe_mk0 (M : Mk X.K C f) (c' : Kp X.prog X.w X.K X.mg X.base lv f ps R) (hr : Room (lv + 1) X.A) (hg : Gl X x) (hm : X.mg x = some (.ref C)) (hdb : (x == ("__debug__" : Str)) = false := by decide) : PE X (.Call (.Name x p) [] [] pos) (tMake C (spA X.K R) [] E0 tNil) := by
  obtain ⟨fd, F, B⟩ := c'.ex
  exact pe_make0 M F hr hg hm B .nil pass0 hdb
/-- a property of a class with slots -/
structure PrS (K : Frg) (C g : Addr) (f : Str) : Prop where
  ex : ∃ p, PySem.W.findIn K (.ref C) f = some (some (.ref p)) ∧ PySem.W.specialIn K (.ref p) "__get__" = some (some (.builtin "property.__get__")) ∧ PySem.W.takesIn K (.ref p) = some true ∧ ∃ rest, PySem.W.recIn K p "property" = some (.ref g :: rest)
theorem pe_propD {pos : Pos} (he : PE X e ta) (c : SCls X.K C) (h : PrS X.K C f m) (c' : Kp X.prog X.w X.K X.mg X.base lv f ps R) (hr : Room (lv + 1) X.A) (hb : attributeBase e m X.env (eval e X.env) = eval e X.env := by rfl) : PE X (.Attribute e m pos) (tPropSl C (spA X.K R) E0 ta) := by
  obtain ⟨p, h1, h2, h3, h4⟩ := h.ex
  exact pe_propSl he c h1 h2 h3 h4 c'.fnR hr (fun _ _ _ _ z => z.elim) hb
theorem pg_slot {f : Str} {pos : Pos} (ho : PE X o ta)
    (ha : ∀ v, assign (.Attribute o f pos) X.env v = (do
      let ov ← holding [v] (eval o X.env)
      standAt pos.atName
      holding [v, ov] (setAttr ov f v)
      release [v, ov] []) := by intro _; rfl) : PG X (.Attribute o f pos) (gSl X.K ta f) := by
  refine ⟨fun pins s σ H v u Q I r h => ?_⟩
  rw [ha]
  refine wpAny_bind (wpAny_holding (thn (ho.run pins s σ H _ I h) fun ov s1 ⟨x, H1, I1, r1, a, C, dx, p, vs, i, ex, hs, c, t, q1⟩ => ?_))
  subst ex
  obtain rfl : ov = Value.ref a := r1
  refine wpAny_bind (wpAny_standAt (wpAny_bind (wpAny_holding (setslot_ok I1 hs c t r fun s2 I2 => ?_))))
  exact wpAny_release ⟨σ, _, I2, q1⟩
end
end LN
namespace LN
open PySem PySem.Spec PyProof.Rows L2 SlX

section
variable {K : Frg}
/-- [e for .. in .. for .. in ..]: Iv of the outer items left, Jv of the inner items left (of this turn's inner list), of what is made, of the store -/
def aLc2 (ι : AI) (γ : AG) (τ : AT) (ι1 : AI) (γ1 : AG) (ε : AE) (vs vs1 : List Nat) : AE := fun ρ M Q => ι ρ M fun items M1 => items.length ≤ 1000 ∧ ∀ D, ∃ Iv : List Va → List PyData → Sto → Prop, Iv items [] M1 ∧
  (∀ d r acc M, Iv (d :: r) acc M → acc.length ≤ 100000 ∧ γ d (wipeA ρ vs) ((D, .lst (acc.map .d)) :: M) fun ρ2 M2 => τ ρ2 M2 fun b M3 =>
    if b = true then ι1 ρ2 M3 fun items1 M4 => items1.length ≤ 1000 ∧ ∃ Jv : List Va → List PyData → Sto → Prop, (∃ M5, Sub ((D, .lst (acc.map .d)) :: M5) M4 ∧ Jv items1 acc M5) ∧
      (∀ d1 r1 acc M, Jv (d1 :: r1) acc M → γ1 d1 (wipeA ρ2 vs1) ((D, .lst (acc.map .d)) :: M) fun ρ3 M6 => ε ρ3 M6 fun y M7 => ∃ z M8, y = .d z ∧ Sub ((D, .lst (acc.map .d)) :: M8) M7 ∧ Jv r1 (acc ++ [z]) M8) ∧
      (∀ acc M, Jv [] acc M → Iv r acc M)
    else ∃ M5, Sub ((D, .lst (acc.map .d)) :: M5) M3 ∧ Iv r acc M5) ∧
  ∀ acc M, Iv [] acc M → Q (.d (.list acc)) M
set_option maxHeartbeats 1000000 in
theorem se_lc2 {wi wi1 : TI} {g g1 : TG} {tt : TT} {te : TE} {vs vs1 : List Nat} {ι ι1 : AI} {γ γ1 : AG} {τ : AT} {ε : AE} (hi : SI K wi ι) (hg : SG K g γ) (hw : WG g vs) (ht : ST K tt τ) (hi1 : SI K wi1 ι1) (hg1 : SG K g1 γ1) (hw1 : WG g1 vs1) (he : SE K te ε) : SE K (tLc2 wi g tt wi1 g1 tYes te vs vs1) (aLc2 ι γ τ ι1 γ1 ε vs vs1) := by
  intro ρ M Qa σ F H Q ok qa k
  refine hi ρ M _ σ F H _ ok qa fun items M1 F1 H1 J ⟨hz, q1⟩ s1 ok1 wk D hD => ?_
  obtain ⟨Iv, i0, turn, fin⟩ := q1 D
  have okD : OkM K F1 (upd H1 D (.lst [])) ((D, .lst (([] : List PyData).map Va.d)) :: M1) := ok1.toOkM.made hD ⟨[], upd_same, .nil⟩
  refine ⟨fun i m H' => m = items.length - i ∧ i ≤ items.length ∧ ∃ acc M' F', Same F1 F' ∧ OkM K F' H' ((D, .lst (acc.map .d)) :: M') ∧ Iv (items.drop i) acc M',
    ⟨items.length, by simp, Nat.zero_le _, [], M1, F1, Same.refl _, okD, i0⟩, ?_⟩
  rintro i m H' ⟨rfl, hle, acc, M', F', s2, ok2, iv⟩
  by_cases hlt : i < items.length
  · refine .inr ⟨wk.goes H' i (s2.trans ok2.same) hlt, fun H2 => ∃ acc2 M2 F2, Same F1 F2 ∧ OkM K F2 H2 ((D, .lst (acc2.map .d)) :: M2) ∧ Iv (items.drop (i + 1)) acc2 M2, fun H2 z => ⟨items.length - (i + 1), by omega, rfl, hlt, z⟩, fun x H2 y => ?_⟩
    have hd := List.getElem?_eq_getElem hlt
    obtain ⟨F2, s3, ok3, dp⟩ := wk.ylds F' H' _ i x H2 _ s2 ok2 hd y
    rw [drop_cons hd] at iv
    have s12 : Same F1 F2 := s2.trans s3
    have okW : Ok K (wipeA ρ vs) ((D, .lst (acc.map .d)) :: M') (wipe σ vs) F2 H2 := ⟨ok3, wipe_pair (env_mono s12 ok1.env) vs⟩
    refine hw.mono _ _ _ _ _ (fun σ3 H3 ⟨e3, q3⟩ => ⟨e3.trans (wipe_wipe σ vs), q3⟩) (hw.keep _ _ _ _ ?_)
    obtain ⟨hacc, turn'⟩ := turn _ _ acc M' iv
    refine hg items[i] (wipeA ρ vs) _ _ x (wipe σ vs) F2 H2 _ okW dp turn' fun ρ3 M3 σ3 F3 H3 q3 s4 ok4 => ?_
    refine ht ρ3 M3 _ σ3 F3 H3 _ ok4 q3 fun b M4 F4 H4 q4 s5 ok5 => ?_
    cases b with
    | false =>
      obtain ⟨M5, sb, iv5⟩ := q4
      exact ⟨acc, M5, F4, (s12.trans s4).trans s5, ok5.toOkM.sub sb, iv5⟩
    | true =>
      refine hi1 ρ3 M4 _ σ3 F4 H4 _ ok5 q4 fun items1 M6 F6 H6 J1 ⟨hz1, Jv, ⟨M5, sb5, j0⟩, turn1, fin1⟩ s6 ok6 wk1 => ?_
      refine ⟨fun i1 m1 H' => m1 = items1.length - i1 ∧ i1 ≤ items1.length ∧ ∃ acc1 M' F', acc1.length ≤ 100000 + i1 ∧ Same F6 F' ∧ OkM K F' H' ((D, .lst (acc1.map .d)) :: M') ∧ Jv (items1.drop i1) acc1 M',
        ⟨items1.length, by simp, Nat.zero_le _, acc, M5, F6, hacc, Same.refl _, ok6.toOkM.sub sb5, j0⟩, ?_⟩
      rintro i1 m1 H7 ⟨rfl, hle1, acc1, M7, F7, hac1, s7, ok7, jv⟩
      by_cases hlt1 : i1 < items1.length
      · refine .inr ⟨wk1.goes H7 i1 (s7.trans ok7.same) hlt1, fun H2 => ∃ acc2 M2 F2, acc2.length ≤ 100000 + (i1 + 1) ∧ Same F6 F2 ∧ OkM K F2 H2 ((D, .lst (acc2.map .d)) :: M2) ∧ Jv (items1.drop (i1 + 1)) acc2 M2, fun H2 z => ⟨items1.length - (i1 + 1), by omega, rfl, hlt1, z⟩, fun x1 H8 y1 => ?_⟩
        have hd1 := List.getElem?_eq_getElem hlt1
        obtain ⟨F8, s8, ok8, dp8⟩ := wk1.ylds F7 H7 _ i1 x1 H8 _ s7 ok7 hd1 y1
        rw [drop_cons hd1] at jv
        have s68 : Same F6 F8 := s7.trans s8
        have okW1 : Ok K (wipeA ρ3 vs1) ((D, .lst (acc1.map .d)) :: M7) (wipe σ3 vs1) F8 H8 := ⟨ok8, wipe_pair (env_mono s68 ok6.env) vs1⟩
        refine hw1.mono _ _ _ _ _ (fun σ3' H3 ⟨e3, q3⟩ => ⟨e3.trans (wipe_wipe σ3 vs1), q3⟩) (hw1.keep _ _ _ _ ?_)
        refine hg1 items1[i1] (wipeA ρ3 vs1) _ _ x1 (wipe σ3 vs1) F8 H8 _ okW1 dp8 (turn1 _ _ acc1 M7 jv) fun ρ9 M9 σ9 F9 H9 q9 s9 ok9 => ?_
        show tYes σ9 H9 _
        refine he ρ9 M9 _ σ9 F9 H9 _ ok9 q9 fun y M10 v F10 H10 ⟨z, M11, ey, sb, jv11⟩ s10 ok10 r10 => ?_
        subst ey
        have ok11 := ok10.toOkM.sub sb
        obtain ⟨ws, g1, g2⟩ := ok11.at_ _ List.mem_cons_self
        have hl := pair_len g2
        rw [List.length_map] at hl
        refine ⟨ws, g1, by rw [hl]; exact size_lt (by omega), acc1 ++ [z], M11, F10, by rw [List.length_append, List.length_singleton]; omega, (s68.trans s9).trans s10, ?_, jv11⟩
        refine OkM.write (l1 := []) ok11 ⟨_, upd_same, ?_⟩
        rw [List.map_append]
        exact paired_app g2 (.cons r10 .nil)
      · have e : i1 = items1.length := by omega
        subst e
        rw [List.drop_length] at jv
        exact .inl ⟨wk1.stops H7 (s7.trans ok7.same), acc1, M7, F7, (((s12.trans s4).trans s5).trans s6).trans s7, ok7, fin1 _ _ jv⟩
  · have e : i = items.length := by omega
    subst e
    rw [List.drop_length] at iv
    refine .inl ⟨wk.stops H' (s2.trans ok2.same), ?_⟩
    obtain ⟨F3, s3, ok3, dp⟩ := ok2.freeze (dats_map acc)
    exact k _ M' _ F3 H' (fin acc M' iv) ((s1.trans s2).trans s3) ⟨ok3, env_mono (s2.trans s3) ok1.env⟩ dp
/-- {k: v for .. in ..}: the new dict stands in the store from the start -/
def aDc (ι : AI) (γ : AG) (κ ε : AE) (vs : List Nat) : AE := fun ρ M Q => ι ρ M fun items M1 => ∀ D, ∃ Iv : List Va → Sto → Prop, Iv items ((D, .dK []) :: M1) ∧
  (∀ d r M, Iv (d :: r) M → γ d (wipeA ρ vs) M fun ρ2 M2 => κ ρ2 M2 fun y M3 => ε ρ2 M3 fun z M4 => ∃ k kvs l1 l2, y = .d (.str k) ∧ M4 = l1 ++ (D, .dK kvs) :: l2 ∧ kvs.length ≤ 100000 ∧ Iv r (l1 ++ (D, .dK (putD kvs k z)) :: l2)) ∧
  ∀ M, Iv [] M → Q (.m D) M
set_option maxHeartbeats 1000000 in
theorem se_dc {wi : TI} {g : TG} {tk te : TE} {vs : List Nat} {ι : AI} {γ : AG} {κ ε : AE} (hi : SI K wi ι) (hg : SG K g γ) (hw : WG g vs) (hk : SE K tk κ) (he : SE K te ε) : SE K (tDc wi g tYes tk te vs) (aDc ι γ κ ε vs) := by
  intro ρ M Qa σ F H Q ok qa k
  refine hi ρ M _ σ F H _ ok qa fun items M1 F1 H1 J q1 s1 ok1 wk D hD => ?_
  obtain ⟨Iv, i0, turn, fin⟩ := q1 D
  have okD : OkM K F1 (upd H1 D (.dK [])) ((D, .dK []) :: M1) := ok1.toOkM.made hD ⟨[], upd_same, .nil⟩
  refine ⟨fun i m H' => m = items.length - i ∧ i ≤ items.length ∧ ∃ M' F', Same F1 F' ∧ OkM K F' H' M' ∧ Iv (items.drop i) M',
    ⟨items.length, by simp, Nat.zero_le _, _, F1, Same.refl _, okD, i0⟩, ?_⟩
  rintro i m H' ⟨rfl, hle, M', F', s2, ok2, iv⟩
  by_cases hlt : i < items.length
  · refine .inr ⟨wk.goes H' i (s2.trans ok2.same) hlt, fun H2 => ∃ M2 F2, Same F1 F2 ∧ OkM K F2 H2 M2 ∧ Iv (items.drop (i + 1)) M2, fun H2 z => ⟨items.length - (i + 1), by omega, rfl, hlt, z⟩, fun x H2 y => ?_⟩
    have hd := List.getElem?_eq_getElem hlt
    obtain ⟨F2, s3, ok3, dp⟩ := wk.ylds F' H' _ i x H2 _ s2 ok2 hd y
    rw [drop_cons hd] at iv
    have s12 : Same F1 F2 := s2.trans s3
    have okW : Ok K (wipeA ρ vs) M' (wipe σ vs) F2 H2 := ⟨ok3, wipe_pair (env_mono s12 ok1.env) vs⟩
    refine hw.mono _ _ _ _ _ (fun σ3 H3 ⟨e3, q3⟩ => ⟨e3.trans (wipe_wipe σ vs), q3⟩) (hw.keep _ _ _ _ ?_)
    refine hg items[i] (wipeA ρ vs) _ _ x (wipe σ vs) F2 H2 _ okW dp (turn _ _ M' iv) fun ρ3 M3 σ3 F3 H3 q3 s4 ok4 => ?_
    show tYes σ3 H3 _
    refine hk ρ3 M3 _ σ3 F3 H3 _ ok4 q3 fun y M4 u F4 H4 q4 s5 ok5 r5 => ?_
    refine he ρ3 M4 _ σ3 F4 H4 _ ok5 q4 fun z M6 v F6 H6 ⟨kk, kvs, l1, l2, ey, em, hl, iv6⟩ s6 ok6 r6 => ?_
    subst ey; subst em
    obtain ⟨ks, g1, g2⟩ := ok6.toOkM.mid
    refine ⟨ks, Sum.inr kk, rep_str r5, g1, by rw [pair_len g2]; exact size_lt (by omega), _, F6, ((s12.trans s4).trans s5).trans s6, ?_, iv6⟩
    exact OkM.write ok6.toOkM ⟨_, upd_same, put_pd r6 g2⟩
  · have e : i = items.length := by omega
    subst e
    rw [List.drop_length] at iv
    refine .inl ⟨wk.stops H' (s2.trans ok2.same), ?_⟩
    exact k _ M' _ F' H' (fin M' iv) (s1.trans s2) ⟨ok2, env_mono s2 ok1.env⟩ rfl
end
end LN
namespace LN
open PySem PySem.Spec PyProof.Rows L2 SlX

section
variable {K : Frg}
/-- F without d -/
def less (F : Hp) (d : Addr) : Hp := fun b => if b = d then none else F b
section
variable {F : Hp} {d : Addr} {od : Obj} {ks : List (Key × V)} (e : F d = some (.frz od (.dK ks)))
include e
theorem less_ne {b : Addr} {u : HO} (h : F b = some u) (hu : ∀ o k, u ≠ .frz o (.dK k)) : less F d b = some u := by
  unfold less
  by_cases q : b = d
  · subst q
    rw [e] at h
    cases h
    exact absurd rfl (hu _ _)
  · rw [if_neg q]; exact h
theorem less_sqt {a : Addr} {xs : List V} (h : SqT K F a xs) : SqT K (less F d) a xs := by
  rcases h with (h | ⟨o, h⟩) | h
  · exact .inl (.inl (less_ne e h fun _ _ z => nomatch z))
  · exact .inl (.inr ⟨o, less_ne e h fun _ _ z => by injection z with _ z; cases z⟩)
  · exact .inr h
theorem less_sql {a : Addr} {xs : List V} (h : SqL K F a xs) : SqL K (less F d) a xs := by
  rcases h with (h | ⟨o, h⟩) | h
  · exact .inl (.inl (less_ne e h fun _ _ z => nomatch z))
  · exact .inl (.inr ⟨o, less_ne e h fun _ _ z => by injection z with _ z; cases z⟩)
  · exact .inr h
theorem less_sqs {a : Addr} {xs : List V} (h : SqS K F a xs) : SqS K (less F d) a xs := by
  rcases h with ⟨o, h, r⟩ | h
  · exact .inl ⟨o, less_ne e h (fun _ _ z => by injection z with _ z; cases z), r⟩
  · exact .inr h
mutual
theorem less_dp : ∀ (x : PyData) (v : V), Ds K F v x → Ds K (less F d) v x
  | .none, _, h => by cases h; exact .non
  | .bool b, _, h => by cases h; exact .bl b
  | .int i, _, h => by cases h; exact .int i
  | .str x, _, h => by cases h; exact .str x
  | .list ds, _, h => by
    cases h with
    | lst hs ha => exact .lst (less_sql e hs) (less_dps ds _ ha)
  | .tuple ds, _, h => by
    cases h with
    | tup hs ha => exact .tup (less_sqs e hs) (less_dps ds _ ha)
  | .dict _, _, h => by cases h
theorem less_dps : ∀ (ds : List PyData) (vs : List V), DsAll K F vs ds → DsAll K (less F d) vs ds
  | [], _, h => by cases h; exact .nil
  | x :: ds, _, h => by
    cases h with
    | cons h1 h2 => exact .cons (less_dp x _ h1) (less_dps ds _ h2)
end
theorem less_slt {a C dx : Addr} {vs : List (Option V)} (h : Slt F a C dx vs) : Slt (less F d) a C dx vs := by
  rcases h with ⟨h1, h2⟩ | ⟨h1, h2⟩
  · exact .inl ⟨less_ne e h1 (fun _ _ z => nomatch z), h2⟩
  · exact .inr ⟨less_ne e h1 (fun _ _ z => by unfold SlO at z; cases z), less_ne e h2 (fun _ _ z => nomatch z)⟩
theorem less_repB {v : V} : ∀ {x : Vb}, RepB K F v x → RepB K (less F d) v x
  | .d x, h => less_dp e x v h
  | .m a, h => h
  | .o C fs, ⟨a, dx, vs, h1, h2, h3⟩ => ⟨a, dx, vs, h1, less_slt e h2, fun i x hx => let ⟨u, p, q⟩ := h3 i x hx; ⟨u, p, less_dp e x u q⟩⟩
theorem less_rep {v : V} : ∀ {x : Va}, Rep K F v x → Rep K (less F d) v x
  | .d x, h => less_dp e x v h
  | .m a, h => h
  | .w ds, ⟨a, xs, h1, h2, h3⟩ => ⟨a, xs, h1, less_sqt e h2, less_dps e ds xs h3⟩
  | .p bs, ⟨a, xs, h1, h2, h3⟩ => ⟨a, xs, h1, less_sqt e h2, L2.Paired.mapP h3 fun _ _ => less_repB e⟩
  | .o C fs, ⟨a, dx, vs, h1, h2, h3⟩ => ⟨a, dx, vs, h1, less_slt e h2, fun i x hx => let ⟨u, p, q⟩ := h3 i x hx; ⟨u, p, less_dp e x u q⟩⟩
end
theorem repM_map {F F' H H' : Hp} {a : Addr} {o : MO} (hr : ∀ v x, Rep K F v x → Rep K F' v x) (h : RepM K F H a o) (ha : ∀ b ∈ foot (a, o), H' b = H b) : RepM K F' H' a o := by
  cases o with
  | lst xs =>
    obtain ⟨vs, h1, h2⟩ := h
    exact ⟨vs, (ha a (foot_self _)).trans h1, L2.Paired.mapP h2 fun _ _ => hr _ _⟩
  | dK kvs =>
    obtain ⟨vs, h1, h2⟩ := h
    exact ⟨vs, (ha a (foot_self _)).trans h1, L2.Paired.mapP h2 fun _ _ ⟨p, q⟩ => ⟨p, hr _ _ q⟩⟩
  | ins C fs =>
    obtain ⟨dx, vs, h1, h2⟩ := h
    exact ⟨dx, vs, (ha a (foot_self _)).trans h1, L2.Paired.mapP h2 fun _ _ ⟨p, q⟩ => ⟨p, hr _ _ q⟩⟩
  | sl C dx vs =>
    obtain ⟨us, h1, h2, h4⟩ := h
    have k0 := ha a (foot_self _)
    have k1 : H' dx = H dx := ha dx (List.mem_cons_of_mem _ List.mem_cons_self)
    refine ⟨us, ?_, ?_, fun i x hx => let ⟨u, p, q⟩ := h4 i x hx; ⟨u, p, hr _ _ q⟩⟩
    · rcases h1 with ⟨p, q⟩ | ⟨p, q⟩
      · exact .inl ⟨k0.trans p, q⟩
      · exact .inr ⟨k0.trans p, k1.trans q⟩
    · rcases h2 with p | p
      · exact .inl (k1.trans p)
      · exact .inr (k1.trans p)
/-- a dict's items as data -/
def itemsD (kvs : List (Str × PyData)) : List PyData := kvs.map fun p => .tuple [.str p.1, p.2]
/-- .. as what a loop over them walks -/
def itemsV (kvs : List (Str × PyData)) : List Va := kvs.map fun p => .w [.str p.1, p.2]
def datK (kvs : List (Str × PyData)) : List (Str × Va) := kvs.map fun p => (p.1, .d p.2)
theorem pd_get {F : Hp} : ∀ {ks : List (Key × V)} {kvs : List (Str × PyData)} {i : Nat}, PD K F ks (datK kvs) → ks.length = kvs.length ∧ ∀ d, (itemsV kvs)[i]? = some d → ∃ k x v, ks[i]? = some (Sum.inr k, v) ∧ d = .w [.str k, x] ∧ Ds K F v x
  | [], [], i, h => ⟨rfl, fun d e => by simp [itemsV] at e⟩
  | p :: ks, [], i, h => by cases h
  | [], q :: kvs, i, h => by cases h
  | p :: ks, q :: kvs, i, h => by
    cases h with
    | cons r t =>
      refine ⟨by have := (pd_get (i := i) t).1; simp only [List.length_cons]; omega, fun d e => ?_⟩
      cases i with
      | zero =>
        have : Va.w [.str q.1, q.2] = d := by simpa [itemsV] using e
        obtain ⟨p1, p2⟩ := p
        obtain ⟨r1, r2⟩ := r
        have r1 : p1 = Sum.inr q.1 := r1
        subst r1
        exact ⟨q.1, q.2, p2, rfl, this.symm, r2⟩
      | succ i =>
        obtain ⟨k, x, v, h1, h2, h3⟩ := (pd_get (i := i) t).2 d (by simpa [itemsV] using e)
        exact ⟨k, x, v, by simpa using h1, h2, h3⟩
theorem wa_items {F : Hp} {d : Addr} {od : Obj} {ks : List (Key × V)} {kvs : List (Str × PyData)} (h : F d = some (.frz od (.dK ks))) (hp : PD K F ks (datK kvs)) : WalkA K F (Iti d od ks) (itemsV kvs) where
  goes := fun H i s hi => ⟨s _ _ h, by rw [(pd_get (i := 0) hp).1]; simpa [itemsV] using hi⟩
  stops := fun H s => ⟨s _ _ h, by rw [(pd_get (i := 0) hp).1]; simp [itemsV]⟩
  ylds := fun F' H M i x H' dd s ok e y => by
    obtain ⟨T, k, v, hk, rfl, hT, rfl⟩ := y
    obtain ⟨k', x', v', h1, rfl, h3⟩ := (pd_get (i := i) hp).2 dd e
    rw [h1] at hk
    cases hk
    exact pair_new ok hT (.str _) (dp_mono s _ _ h3)
/-- {k: v for .. in d.items()}, d a dict of data: the dict itself is out of the store meanwhile -/
def aDcI (α : AE) (γ : AG) (κ ε : AE) (vs : List Nat) : AE := fun ρ M Q => ∃ d kvs l1 l2, M = l1 ++ (d, .dK (datK kvs)) :: l2 ∧ (∀ P : Prop, (α ρ (l1 ++ l2) fun x M1 => x = .m d ∧ M1 = l1 ++ l2 ∧ P) ↔ P) ∧ ∀ D, ∃ Iv : List Va → Sto → Prop, Iv (itemsV kvs) ((D, .dK []) :: (l1 ++ l2)) ∧
  (∀ x r M, Iv (x :: r) M → γ x (wipeA ρ vs) M fun ρ2 M2 => κ ρ2 M2 fun y M3 => ε ρ2 M3 fun z M4 => ∃ k kvs l1 l2, y = .d (.str k) ∧ M4 = l1 ++ (D, .dK kvs) :: l2 ∧ kvs.length ≤ 100000 ∧ Iv r (l1 ++ (D, .dK (putD kvs k z)) :: l2)) ∧
  ∀ M, Iv [] M → Q (.m D) ((d, .dK (datK kvs)) :: M)
set_option maxHeartbeats 1000000 in
theorem se_dcI {td : TE} {g : TG} {tk te : TE} {vs : List Nat} {α : AE} {γ : AG} {κ ε : AE} (ha : SE K td α) (hg : SG K g γ) (hw : WG g vs) (hk : SE K tk κ) (he : SE K te ε) : SE K (tLockE (tDc (iItems td) g tYes tk te vs)) (aDcI α γ κ ε vs) := by
  intro ρ M Qa σ F H Q ok ⟨d, kvs, l1, l2, em, hα, q1⟩ k
  subst em
  obtain ⟨ks, hd, pd⟩ := ok.toOkM.mid
  have fd : F d = none := ok.fr _ (List.mem_append_right _ List.mem_cons_self) d (foot_self _)
  have ap := ok.toOkM.apart.2
  refine ⟨d, .dK ks, hd, True.intro, fun od => ?_⟩
  have s1 : Same F (upd F d (.frz od (.dK ks))) := fun b u z => by rw [upd_ne (ne_of_none z fd)]; exact z
  have ok0 : OkM K F H (l1 ++ l2) := ok.toOkM.sub ⟨[(d, .dK (datK kvs))], List.perm_middle⟩
  have hne : ∀ q ∈ l1 ++ l2, ∀ b ∈ foot q, b ≠ d := fun q hq b hb z => ap q (List.mem_append.mp hq) b hb (by rw [z]; exact foot_self _)
  have ok1 : OkM K (upd F d (.frz od (.dK ks))) (upd H d (.frz od (.dK ks))) (l1 ++ l2) := by
    refine ⟨fun b u z => ?_, ok0.nd, fun q hq b hb => ?_, fun q hq => repM_stay s1 (ok0.at_ q hq) fun b hb => upd_ne (hne q hq b hb)⟩
    · by_cases hb : b = d
      · subst hb; rw [upd_same] at z ⊢; exact z
      · rw [upd_ne hb] at z ⊢; exact ok.same _ _ z
    · rw [upd_ne (hne q hq b hb)]; exact ok0.fr q hq b hb
  have okE : Ok K ρ (l1 ++ l2) σ (upd F d (.frz od (.dK ks))) (upd H d (.frz od (.dK ks))) := ⟨ok1, env_mono s1 ok.env⟩
  refine ha ρ (l1 ++ l2) (fun x M1 => x = .m d ∧ M1 = l1 ++ l2 ∧ True) σ _ _ _ okE ((hα True).mpr trivial) fun x M1 v F1 H1 ⟨ex, em, _⟩ s2 ok2 r2 => ?_
  subst ex; subst em
  have ev : v = .ref d := r2
  subst ev
  have fd1 : F1 d = some (.frz od (.dK ks)) := s2 _ _ upd_same
  refine ⟨d, od, ks, rfl, ok2.same _ _ fd1, ?_⟩
  have pd1 : PD K F1 ks (datK kvs) := L2.Paired.mapP pd fun _ _ ⟨a, b⟩ => ⟨a, rep_mono (s1.trans s2) b⟩
  have wk := wa_items fd1 pd1
  intro D hD
  obtain ⟨Iv, i0, turn, fin⟩ := q1 D
  have okD : OkM K F1 (upd H1 D (.dK [])) ((D, .dK []) :: (l1 ++ l2)) := ok2.toOkM.made hD ⟨[], upd_same, .nil⟩
  refine ⟨fun i m H' => m = (itemsV kvs).length - i ∧ i ≤ (itemsV kvs).length ∧ ∃ M' F', Same F1 F' ∧ OkM K F' H' M' ∧ Iv ((itemsV kvs).drop i) M',
    ⟨(itemsV kvs).length, by simp, Nat.zero_le _, _, F1, Same.refl _, okD, i0⟩, ?_⟩
  rintro i m H' ⟨rfl, hle, M', F', s3, ok3, iv⟩
  by_cases hlt : i < (itemsV kvs).length
  · refine .inr ⟨wk.goes H' i (s3.trans ok3.same) hlt, fun H2 => ∃ M2 F2, Same F1 F2 ∧ OkM K F2 H2 M2 ∧ Iv ((itemsV kvs).drop (i + 1)) M2, fun H2 z => ⟨(itemsV kvs).length - (i + 1), by omega, rfl, hlt, z⟩, fun x H2 y => ?_⟩
    have hd := List.getElem?_eq_getElem hlt
    obtain ⟨F2, s4, ok4, dp⟩ := wk.ylds F' H' _ i x H2 _ s3 ok3 hd y
    rw [drop_cons hd] at iv
    have s12 : Same F1 F2 := s3.trans s4
    have okW : Ok K (wipeA ρ vs) M' (wipe σ vs) F2 H2 := ⟨ok4, wipe_pair (env_mono s12 ok2.env) vs⟩
    refine hw.mono _ _ _ _ _ (fun σ3 H3 ⟨e3, q3⟩ => ⟨e3.trans (wipe_wipe σ vs), q3⟩) (hw.keep _ _ _ _ ?_)
    refine hg (itemsV kvs)[i] (wipeA ρ vs) _ _ x (wipe σ vs) F2 H2 _ okW dp (turn _ _ M' iv) fun ρ3 M3 σ3 F3 H3 q3 s5 ok5 => ?_
    show tYes σ3 H3 _
    refine hk ρ3 M3 _ σ3 F3 H3 _ ok5 q3 fun y M4 u F4 H4 q4 s6 ok6 r6 => ?_
    refine he ρ3 M4 _ σ3 F4 H4 _ ok6 q4 fun z M6 v F6 H6 ⟨kk, kvs', l1', l2', ey, em, hl, iv6⟩ s7 ok7 r7 => ?_
    subst ey; subst em
    obtain ⟨ks', g1, g2⟩ := ok7.toOkM.mid
    refine ⟨ks', Sum.inr kk, rep_str r6, g1, by rw [pair_len g2]; exact size_lt (by omega), _, F6, ((s12.trans s5).trans s6).trans s7, ?_, iv6⟩
    exact OkM.write ok7.toOkM ⟨_, upd_same, put_pd r7 g2⟩
  · have e : i = (itemsV kvs).length := by omega
    rw [e, List.drop_length] at iv
    have h1 := wk.stops H' (s3.trans ok3.same)
    refine .inl ⟨by rw [e]; exact h1, ?_⟩
    have fd3 : F' d = some (.frz od (.dK ks)) := s3 _ _ fd1
    refine ⟨ok3.same _ _ fd3, ?_⟩
    -- the dict comes back
    have hne3 : ∀ q ∈ M', ∀ b ∈ foot q, b ≠ d := fun q hq b hb z => by
      have := ok3.fr q hq b hb
      rw [z, fd3] at this
      cases this
    have sL : Same F (less F' d) := fun b u z => by
      unfold less
      rw [if_neg (ne_of_none z fd)]
      exact (s1.trans (s2.trans s3)) _ _ z
    have ok9 : OkM K (less F' d) (upd H' d (.dK ks)) M' := by
      refine ⟨fun b u z => ?_, ok3.nd, fun q hq b hb => ?_, fun q hq => repM_map (fun v x => less_rep fd3) (ok3.at_ q hq) fun b hb => upd_ne (hne3 q hq b hb)⟩
      · unfold less at z
        by_cases hb : b = d
        · rw [if_pos hb] at z; cases z
        · rw [if_neg hb] at z
          rw [upd_ne hb]
          exact ok3.same _ _ z
      · unfold less
        rw [if_neg (hne3 q hq b hb)]
        exact ok3.fr q hq b hb
    refine k _ _ _ (less F' d) _ (fin M' iv) sL ⟨ok9.made' (List.nodup_cons.mpr ⟨by simp, List.nodup_nil⟩) (fun b hb => ?_) ⟨ks, upd_same, L2.Paired.mapP pd fun _ _ ⟨a, b⟩ => ⟨a, rep_mono sL b⟩⟩, env_mono sL ok.env⟩ rfl
    have hb' : b = d := List.mem_singleton.mp hb
    subst hb'
    exact ⟨by unfold less; rw [if_pos rfl], fun q hq z => hne3 q hq b z rfl⟩
end
end LN
namespace LN
open PySem PySem.Spec PyProof.Rows L2 SlX
section
variable {K : Frg} {mg : Str → Option Value}
theorem Tx.s_LETTERS (T : Tx K mg) : ∃ t, mg "LETTERS" = some (.str "abcdefghijklmnopqrstuvwxyz" t) := T.str 53
theorem Tx.s_DIGITS (T : Tx K mg) : ∃ t, mg "DIGITS" = some (.str "0123456789" t) := T.str 54
theorem Tx.s_NOTHING (T : Tx K mg) : ∃ t, mg "NOTHING" = some (.str "-" t) := T.str 55
theorem Tx.s_BLANK (T : Tx K mg) : ∃ t, mg "BLANK" = some (.str " " t) := T.str 56
theorem Tx.s_SLASH (T : Tx K mg) : ∃ t, mg "SLASH" = some (.str "/" t) := T.str 57
theorem Tx.s_BETWEEN (T : Tx K mg) : ∃ t, mg "BETWEEN" = some (.str "; " t) := T.str 58
theorem Tx.s_SOURCE_nets (T : Tx K mg) : ∃ t, mg "SOURCE_nets" = some (.str "in" t) := T.str 59
theorem Tx.s_WEIR_nets (T : Tx K mg) : ∃ t, mg "WEIR_nets" = some (.str "weir" t) := T.str 60
theorem Tx.s_JOIN (T : Tx K mg) : ∃ t, mg "JOIN" = some (.str "join" t) := T.str 61
theorem Tx.s_SOURCE_builds (T : Tx K mg) : ∃ t, mg "SOURCE_builds" = some (.str "in" t) := T.str 62
theorem Tx.s_WEIR_walks (T : Tx K mg) : ∃ t, mg "WEIR_walks" = some (.str "weir" t) := T.str 63
theorem Tx.s_DIVIDE (T : Tx K mg) : ∃ t, mg "DIVIDE" = some (.str "divide" t) := T.str 64
theorem Tx.cls_Stretches (T : Tx K mg) : Cls K (He.ga K "Stretches") := He.cls_ok (T.fact 84 (f := .cls "Stretches"))
theorem Tx.cls_Builder (T : Tx K mg) : Cls K (He.ga K "Builder") := He.cls_ok (T.fact 85 (f := .cls "Builder"))
theorem Tx.mk_Stretches (T : Tx K mg) : Mk K (He.ga K "Stretches") (He.ma K (He.ga K "Stretches") "__init__") := He.mkr_ok (T.fact 86 (f := .mkr "Stretches"))
theorem Tx.mk_Builder (T : Tx K mg) : Mk K (He.ga K "Builder") (He.ma K (He.ga K "Builder") "__init__") := He.mkr_ok (T.fact 87 (f := .mkr "Builder"))
theorem Tx.mk_Net (T : Tx K mg) : Mk K (He.ga K "Net") (He.ma K (He.ga K "Net") "__init__") := He.mkr_ok (T.fact 88 (f := .mkr "Net"))
theorem Tx.no_Stretches_ends (T : Tx K mg) : NoAttr K (He.ga K "Stretches") "ends" := He.noat_ok (T.fact 89 (f := .noat "Stretches" "ends"))
theorem Tx.no_Stretches_flows (T : Tx K mg) : NoAttr K (He.ga K "Stretches") "flows" := He.noat_ok (T.fact 90 (f := .noat "Stretches" "flows"))
theorem Tx.no_Builder_own_outlets (T : Tx K mg) : NoAttr K (He.ga K "Builder") "own_outlets" := He.noat_ok (T.fact 91 (f := .noat "Builder" "own_outlets"))
theorem Tx.no_Builder_own_free (T : Tx K mg) : NoAttr K (He.ga K "Builder") "own_free" := He.noat_ok (T.fact 92 (f := .noat "Builder" "own_free"))
theorem Tx.no_Builder_own_made (T : Tx K mg) : NoAttr K (He.ga K "Builder") "own_made" := He.noat_ok (T.fact 93 (f := .noat "Builder" "own_made"))
theorem Tx.no_Builder_pieces (T : Tx K mg) : NoAttr K (He.ga K "Builder") "pieces" := He.noat_ok (T.fact 94 (f := .noat "Builder" "pieces"))
theorem Tx.me_Stretches___init__ (T : Tx K mg) : Meth K (He.ga K "Stretches") "__init__" (He.ma K (He.ga K "Stretches") "__init__") := He.meth_ok (T.fact 95 (f := .meth "Stretches" "__init__"))
theorem Tx.me_Stretches_part_at (T : Tx K mg) : Meth K (He.ga K "Stretches") "part_at" (He.ma K (He.ga K "Stretches") "part_at") := He.meth_ok (T.fact 96 (f := .meth "Stretches" "part_at"))
theorem Tx.me_Stretches_weir (T : Tx K mg) : Meth K (He.ga K "Stretches") "weir" (He.ma K (He.ga K "Stretches") "weir") := He.meth_ok (T.fact 97 (f := .meth "Stretches" "weir"))
theorem Tx.me_Stretches_divide (T : Tx K mg) : Meth K (He.ga K "Stretches") "divide" (He.ma K (He.ga K "Stretches") "divide") := He.meth_ok (T.fact 98 (f := .meth "Stretches" "divide"))
theorem Tx.me_Stretches_join (T : Tx K mg) : Meth K (He.ga K "Stretches") "join" (He.ma K (He.ga K "Stretches") "join") := He.meth_ok (T.fact 99 (f := .meth "Stretches" "join"))
theorem Tx.me_Stretches_take (T : Tx K mg) : Meth K (He.ga K "Stretches") "take" (He.ma K (He.ga K "Stretches") "take") := He.meth_ok (T.fact 100 (f := .meth "Stretches" "take"))
theorem Tx.me_Builder___init__ (T : Tx K mg) : Meth K (He.ga K "Builder") "__init__" (He.ma K (He.ga K "Builder") "__init__") := He.meth_ok (T.fact 101 (f := .meth "Builder" "__init__"))
theorem Tx.me_Builder_fresh (T : Tx K mg) : Meth K (He.ga K "Builder") "fresh" (He.ma K (He.ga K "Builder") "fresh") := He.meth_ok (T.fact 102 (f := .meth "Builder" "fresh"))
theorem Tx.me_Builder_parted (T : Tx K mg) : Meth K (He.ga K "Builder") "parted" (He.ma K (He.ga K "Builder") "parted") := He.meth_ok (T.fact 103 (f := .meth "Builder" "parted"))
theorem Tx.me_Builder_layered (T : Tx K mg) : Meth K (He.ga K "Builder") "layered" (He.ma K (He.ga K "Builder") "layered") := He.meth_ok (T.fact 104 (f := .meth "Builder" "layered"))
theorem Tx.me_Builder_gathered (T : Tx K mg) : Meth K (He.ga K "Builder") "gathered" (He.ma K (He.ga K "Builder") "gathered") := He.meth_ok (T.fact 105 (f := .meth "Builder" "gathered"))
theorem slotB_ok {C : Addr} {f : Str} {i : Nat} (hi : i < 1000) (h : slotB K C f i = true) : Slot1 K C f (He.ma K C f) i := by
  unfold slotB at h
  simp only [Bool.and_eq_true] at h
  exact ⟨He.eqO_ok h.1, He.eqO_ok h.2.1, of_decide_eq_true h.2.2.1, of_decide_eq_true h.2.2.2.1, of_decide_eq_true h.2.2.2.2, hi⟩
theorem Tx.scls (T : Tx K mg) : SCls K (He.ga K "Net") := by
  have h := T.more
  unfold moreB sclsB at h
  simp only [Bool.and_eq_true] at h
  exact ⟨h.1.1, h.1.2.1, h.1.2.2.1, He.eqO_ok h.1.2.2.2⟩
theorem Tx.sl_own_made (T : Tx K mg) : Slot1 K (He.ga K "Net") "own_made" (He.ma K (He.ga K "Net") "own_made") 0 := by
  have h := T.more
  unfold moreB at h
  simp only [Bool.and_eq_true] at h
  exact slotB_ok (by decide) h.2.1
theorem Tx.sl_own_parts (T : Tx K mg) : Slot1 K (He.ga K "Net") "own_parts" (He.ma K (He.ga K "Net") "own_parts") 1 := by
  have h := T.more
  unfold moreB at h
  simp only [Bool.and_eq_true] at h
  exact slotB_ok (by decide) h.2.2.1
theorem Tx.sl_own_taken (T : Tx K mg) : Slot1 K (He.ga K "Net") "own_taken" (He.ma K (He.ga K "Net") "own_taken") 2 := by
  have h := T.more
  unfold moreB at h
  simp only [Bool.and_eq_true] at h
  exact slotB_ok (by decide) h.2.2.2.1
theorem Tx.sl_own_text (T : Tx K mg) : Slot1 K (He.ga K "Net") "own_text" (He.ma K (He.ga K "Net") "own_text") 3 := by
  have h := T.more
  unfold moreB at h
  simp only [Bool.and_eq_true] at h
  exact slotB_ok (by decide) h.2.2.2.2.1
theorem propB_ok {C : Addr} {f : Str} (h : propB K C f = true) : PrS K C (He5.wf K C "property" f) f := by
  unfold propB at h
  simp only [Bool.and_eq_true] at h
  refine ⟨He.ma K C f, He.eqO_ok h.1, He.eqO_ok h.2.1, of_decide_eq_true h.2.2.1, ?_⟩
  have h4 := h.2.2.2
  unfold He5.wf
  generalize PySem.W.recIn K (He.ma K C f) "property" = z at h4 ⊢
  match z, h4 with
  | some (.ref g :: r), _ => exact ⟨r, rfl⟩
theorem Tx.pr_parts (T : Tx K mg) : PrS K (He.ga K "Net") (He5.wf K (He.ga K "Net") "property" "parts") "parts" := by
  have h := T.more
  unfold moreB at h
  simp only [Bool.and_eq_true] at h
  exact propB_ok h.2.2.2.2.2.1
theorem Tx.pr_outlets (T : Tx K mg) : PrS K (He.ga K "Net") (He5.wf K (He.ga K "Net") "property" "outlets") "outlets" := by
  have h := T.more
  unfold moreB at h
  simp only [Bool.and_eq_true] at h
  exact propB_ok h.2.2.2.2.2.2.1
end
end LN
namespace LN
open PySem PySem.Spec PyProof.Rows L2 SlX

def ltS (a b : Str) : Bool := decide (a.cps.toList < b.cps.toList)
/-- a tuple whose first is the text y -/
def TxP (h : Heap) (v : Value) (y : Str) (x : Value) : Prop := ∃ (a : Addr) (o : Obj) (t : Tok) (n : Nat), v = .ref a ∧ h.get? a = some o ∧ o.cls = .type "tuple" ∧ o.data = .seq #[.str y t, x] n
section
variable {P : Program} {w : World} {A : Around} {E : Value → Shared → Prop} {s : Shared}
theorem lt_asym' {a b : List Nat} (h : a < b) : ¬ b < a := fun h2 => List.lt_irrefl a (List.lt_trans h h2)
theorem tot' {a b : List Nat} (h1 : ¬ a < b) (h2 : ¬ b < a) : a = b := by
  have h3 : b ≤ a := List.not_lt.mp h1
  have h4 : a ≤ b := List.not_lt.mp h2
  exact List.le_antisymm h4 h3
theorem cps_inj {a b : Str} (h : a.cps.toList = b.cps.toList) : a = b := by
  cases a; cases b
  simp only at h
  rw [Array.toList_inj.mp h]
theorem swo_tx (k : Value → Str) : SrtO.Swo fun v u => ltS (k v) (k u) := by
  refine ⟨fun x y h => ?_, fun x y z h1 h2 => ?_⟩
  · exact decide_eq_false (lt_asym' (of_decide_eq_true h))
  · have a := of_decide_eq_false h1
    have b := of_decide_eq_false h2
    refine decide_eq_false fun c => ?_
    by_cases e : (k y).cps.toList < (k z).cps.toList
    · exact a (List.lt_trans e c)
    · have e2 := tot' e b
      rw [e2] at a
      exact a c
theorem eqBool_self {x : Value} {Q : Bool → Shared → Prop} (h : Q true s) : wpAny (model P w) A (eqBool x x) Q E s := by
  unfold eqBool
  refine wpAny_holding ?_
  refine wpAny_ite_split (fun _ => wpAny_bind (wpAny_rule (wpAny_pure h))) (fun hab => ?_)
  exact absurd (beq_self_eq_true x) hab
theorem tx_cmp {vs : List Value} {k : Value → Str} (hp : ∀ v ∈ vs, ∃ x, TxP s.heap v (k v) x) (inj : ∀ v ∈ vs, ∀ u ∈ vs, k v = k u → v = u) : SrtO.Cmp P w A s (tuples' true) (fun p => p.1 ∈ vs) (SrtO.lt2 fun v u => ltS (k v) (k u)) := by
  intro p q hm hm'
  obtain ⟨x, a, o, t, n, e, ho, hc, hd⟩ := hp _ hm
  obtain ⟨x', a', o', t', n', e', ho', hc', hd'⟩ := hp _ hm'
  show wpAny (model P w) A (keyLt' (tuples' true) p.1 q.1) (fun r s' => s' = s ∧ r = ltS (k p.1) (k q.1)) (fun _ _ => False) s
  by_cases ek : k p.1 = k q.1
  · have e0 : p.1 = q.1 := inj _ hm _ hm' ek
    have ea : a = a' := by
      have := e.symm.trans (e0.trans e')
      cases this; rfl
    subst ea
    rw [ho] at ho'
    cases ho'
    rw [hd] at hd'
    have ex : x = x' := by
      injection hd' with h1 h2
      simp at h1
      exact h1.2
    subst ex
    rw [e0, e']
    refine PySem.W.kat_lt ho hd ho hd ?_
    refine PySem.W.kat_cons (eqBool_self ?_)
    refine PySem.W.kat_yes (PySem.W.kat_cons (eqBool_self ?_))
    exact PySem.W.kat_yes (PySem.W.kat_nil ⟨rfl, by unfold ltS; rw [decide_eq_false (List.lt_irrefl _), decide_eq_false (Nat.lt_irrefl _)]⟩)
  · rw [e, e']
    rw [e, e'] at ek
    rw [e] at hd
    rw [e'] at hd'
    refine PySem.W.kat_lt ho hd ho' hd' ?_
    refine PySem.W.kat_cons (eqBool_str ?_)
    rw [show (k (Value.ref a) == k (Value.ref a')) = false from beq_eq_false_iff_ne.mpr ek]
    exact PySem.W.kat_no (oneLt_str ⟨rfl, rfl⟩)
theorem tx_firsts {h : Heap} {k : Value → Str} : ∀ {vs : List Value}, (∀ v ∈ vs, ∃ x, TxP h v (k v) x) → ∃ fs : List Value, PySem.W.KatTups h vs fs ∧ fs.length = vs.length ∧ ∀ f ∈ fs, ∃ x t, f = Value.str x t
  | [], _ => ⟨[], PySem.W.KatTups.nil, rfl, fun _ m => by simp at m⟩
  | v :: vs, hp => by
    obtain ⟨fs, h1, h2, h3⟩ := tx_firsts (vs := vs) fun u m => hp u (List.mem_cons_of_mem _ m)
    obtain ⟨x, a, o, t, n, e, ho, hc, hd⟩ := hp v List.mem_cons_self
    refine ⟨.str (k v) t :: fs, ?_, by rw [List.length_cons, List.length_cons, h2], fun f m => ?_⟩
    · rw [show (v :: vs : List Value) = Value.ref a :: vs by rw [e]]
      exact PySem.W.KatTups.cons ho hc hd rfl h1
    · rcases List.mem_cons.mp m with z | z
      · exact ⟨_, _, z⟩
      · exact h3 f z
theorem tx_sortable {a : Addr} {vs : List Value} {k : Value → Str} (h0 : 0 < vs.length) (hp : ∀ v ∈ vs, ∃ x, TxP s.heap v (k v) x) (inj : ∀ v ∈ vs, ∀ u ∈ vs, k v = k u → v = u) (ha : ∀ o, s.heap.get? a = some o → o.cls ≠ .type "tuple") :
    SrtO.SortableO P w A s a vs fun v u => ltS (k v) (k u) := by
  intro h' keep
  have hp' : ∀ v ∈ vs, ∃ x, TxP h' v (k v) x := fun v m => by
    obtain ⟨x, b, o, t, n, e, ho, hc, hd⟩ := hp v m
    exact ⟨x, b, o, t, n, e, keep b o (fun z => by subst z; exact ha o ho hc) ho, hc, hd⟩
  obtain ⟨fs, h1, h2, h3⟩ := tx_firsts hp'
  refine ⟨tuples' true, fun Q E hq => ?_, tx_cmp (s := { s with heap := h' }) hp' inj⟩
  refine PySem.W.kat_kind (T := .type "str") h1 (by omega) (fun f m => ?_) (by rfl) ?_
  · obtain ⟨x, t, e⟩ := h3 f m
    rw [e]
    exact PySem.W.Looks.now
  · have e : (Value.type "str" != Value.type "tuple") = true := by decide +kernel
    rw [e]
    exact hq
end
/-- sorted(l), l a list of pairs in strict order by their first, texts -/
def rSortTx (K : Frg) : List V → Hp → VK → Prop := fun vs H Q => ∃ (a : Addr) (ps : List Addr) (ks : List (Str × V)), vs = [V.ref a] ∧ SqL K H a (ps.map V.ref) ∧ Paired (fun p k => SqT K H p [.str k.1, k.2]) ps ks ∧ (ks.map (·.1)).Pairwise (fun a b => ltS a b = true) ∧
  ∀ p, H p = none → Q (.ref p) (upd H p (.lst (ps.map V.ref)))
section
variable {X : Cx}
theorem tx_of {pins : List (Addr × Obj)} {σ : L2.St} {H : Hp} {s : Shared} (I : Inv X pins σ H s) : ∀ {ps : List Addr} {ks : List (Str × V)}, Paired (fun p k => SqT X.K H p [.str k.1, k.2]) ps ks → Paired (fun p k => ∃ x, TxP s.heap (.ref p) k.1 x) ps ks
  | _, _, .nil => .nil
  | p :: ps, k :: ks, .cons h t => by
    refine .cons ?_ (tx_of I t)
    obtain ⟨its, rv, ⟨o, ho, hc, n, hd⟩, _⟩ := I.tuple h
    obtain ⟨u, y, ei, ru, ry⟩ := vals2 rv
    obtain ⟨t, eu⟩ := (show ∃ t, u = Value.str k.1 t from ru)
    subst ei; subst eu
    exact ⟨y, p, o, t, n, rfl, ho, hc, hd⟩
theorem paired_mem {α β : Type} {R : α → β → Prop} {a : α} : ∀ {xs : List α} {ys : List β}, Paired R xs ys → a ∈ xs → ∃ b ∈ ys, R a b
  | _, _, .nil, m => by simp at m
  | _, _, .cons r t, m => by
    rcases List.mem_cons.mp m with z | z
    · subst z; exact ⟨_, List.mem_cons_self, r⟩
    · obtain ⟨b, h1, h2⟩ := paired_mem t z
      exact ⟨b, List.mem_cons_of_mem _ h1, h2⟩
/-- the text that a pair begins with -/
def firstTx (h : Heap) (v : Value) : Str := match v with
  | .ref a => match h.get? a with
    | some o => match o.data with
      | .seq xs _ => match (xs[0]? : Option Value) with
        | some (.str y _) => y
        | _ => Str.empty
      | _ => Str.empty
    | none => Str.empty
  | _ => Str.empty
theorem inj_pw {α β : Type} {f : α → β} : ∀ {l : List α}, l.Pairwise (fun a b => f a ≠ f b) → ∀ a ∈ l, ∀ b ∈ l, f a = f b → a = b
  | [], _, a, ha, _, _, _ => by simp at ha
  | x :: l, h, a, ha, b, hb, e => by
    obtain ⟨h1, h2⟩ := List.pairwise_cons.mp h
    rcases List.mem_cons.mp ha with z | z
    · rcases List.mem_cons.mp hb with y | y
      · rw [z, y]
      · rw [z] at e; exact absurd e (h1 b y)
    · rcases List.mem_cons.mp hb with y | y
      · rw [y] at e; exact absurd e.symm (h1 a z)
      · exact inj_pw h2 a z b y e
theorem firstTx_of {h : Heap} {v : Value} {y : Str} {x : Value} (t : TxP h v y x) : firstTx h v = y := by
  obtain ⟨a, o, t, n, rfl, ho, hc, hd⟩ := t
  unfold firstTx
  simp only [ho, hd]
  rfl
theorem first_map {h : Heap} : ∀ {ps : List Addr} {ks : List (Str × V)}, Paired (fun p k => ∃ x, TxP h (.ref p) k.1 x) ps ks → (ps.map Value.ref).map (firstTx h) = ks.map (·.1)
  | _, _, .nil => rfl
  | _, _, .cons r t => by
    obtain ⟨x, r⟩ := r
    simp only [List.map_cons]
    rw [firstTx_of r, first_map t]
theorem cr_sortTx (hc : X.calm = true) : CallR X (.builtin "sorted") (rSortTx X.K) := by
  intro pins s σ H vs us Q I r ⟨a, ps, ks, ev, hs, hp, ho, q⟩
  subst ev
  obtain ⟨its, rv, hl, hz⟩ := I.list hs
  rw [Vals.ref1 r]
  have ei := refs_at rv
  subst ei
  have hx := tx_of I hp
  have hmap := first_map hx
  have each : ∀ v ∈ ps.map Value.ref, ∃ x, TxP s.heap v (firstTx s.heap v) x := fun v m => by
    obtain ⟨p, m1, rfl⟩ := List.mem_map.mp m
    obtain ⟨k, _, x, t⟩ := paired_mem hx m1
    exact ⟨x, by rw [firstTx_of t]; exact t⟩
  have hpw : (ps.map Value.ref).Pairwise (fun v u => ltS (firstTx s.heap v) (firstTx s.heap u) = true) := by
    rw [← hmap] at ho
    exact List.pairwise_map.mp ho
  have inj : ∀ v ∈ ps.map Value.ref, ∀ u ∈ ps.map Value.ref, firstTx s.heap v = firstTx s.heap u → v = u := by
    refine inj_pw (hpw.imp fun {a b} h e => ?_)
    rw [e] at h
    exact List.lt_irrefl _ (of_decide_eq_true h)
  refine SrtO.sorted_ord (swo_tx (firstTx s.heap)) hl.isList (by rw [List.length_map]; rw [List.length_map] at hz; exact hz) (fun h2 h₁ a' ha kk => ?_) fun out h1 h2 => ?_
  · refine tx_sortable (s := { s with heap := h₁ }) (by omega) (fun v m => ?_) inj fun o e => ?_
    · obtain ⟨x, b, o, t, n, e, ho, hc, hd⟩ := each v m
      exact ⟨x, b, o, t, n, e, (kk b o ho).2, hc, hd⟩
    · have e' : some o = some (seqObj "list" (ps.map Value.ref).toArray 0) := e.symm.trans ha
      cases e'
      intro c
      exact absurd (Value.type.inj c) (by decide)
  · have eo : out = ps.map Value.ref := by
      refine List.Perm.eq_of_pairwise (le := fun v u => ltS (firstTx s.heap u) (firstTx s.heap v) = false) (fun v u hv hu e1 e2 => ?_) h1 (hpw.imp fun {v u} h => ?_) h2.perm
      · refine inj v (h2.perm.mem_iff.mp hv) u hu (cps_inj (tot' (of_decide_eq_false e2) (of_decide_eq_false e1)))
      · exact decide_eq_false (lt_asym' (of_decide_eq_true h))
    subst eo
    obtain ⟨ep, he'⟩ := PyProof.Rows.sortedAll_at s.heap (ps.map Value.ref) (ps.map Value.ref).toArray
    exact ⟨.ref _, upd H (s.heap.objs.size + 1) (.lst (ps.map V.ref)), I.laid (t' := s.toks) (fun _ _ => PyProof.Rows.sortedAll_old) (Nat.le_succ _) ⟨hz, ps.map Value.ref, ep, rv, he'⟩, rfl, q _ (I.hok.fresh (Nat.le_succ _))⟩
end
section
variable {K : Frg}
def pairsD (ks : List (Str × PyData)) : List PyData := itemsD ks
theorem dps_pairs {F : Hp} : ∀ {ks : List (Str × PyData)} {us : List V}, DsAll K F us (itemsD ks) → ∃ (ps : List Addr) (vs : List V), us = ps.map V.ref ∧ vs.length = ks.length ∧ Paired (fun p k => SqT K F p [.str k.1, k.2]) ps ((ks.map (·.1)).zip vs) ∧ DsAll K F vs (ks.map (·.2))
  | [], _, h => by cases h; exact ⟨[], [], rfl, rfl, .nil, .nil⟩
  | (k, x) :: ks, _, h => by
    cases h with
    | cons h1 h2 =>
      obtain ⟨ps, vs, e, el, hp, hd⟩ := dps_pairs h2
      have h1' : Ds K F _ (.tuple [.str k, x]) := h1
      cases h1' with
      | tup hs ha =>
        cases ha with
        | cons a1 a2 =>
          cases a1
          cases a2 with
          | cons b1 b2 =>
            cases b2
            exact ⟨_ :: ps, _ :: vs, by rw [e]; rfl, by simp [el], .cons hs.sqt hp, .cons b1 hd⟩
/-- sorted(l), l a list of data, pairs in strict order by their texts -/
def RSortTx : AN := fun xs M Q => ∃ ks : List (Str × PyData), (xs = [.d (.list (itemsD ks))] ∨ ∃ a us l1 l2, xs = [.m a] ∧ M = l1 ++ (a, .lst us) :: l2 ∧ us = (itemsD ks).map .d) ∧ (ks.map (·.1)).Pairwise (fun a b => ltS a b = true) ∧ Q (.d (.list (itemsD ks))) M
theorem sn_sortTx : SN K (rSortTx K) RSortTx := by
  intro xs M Qa vs F H Q ok r ⟨ks, h, ho, q⟩ k
  have key : ∃ a us, vs = [V.ref a] ∧ SqL K H a us ∧ DsAll K F us (itemsD ks) := by
    rcases h with e | ⟨a, us, l1, l2, e, em, eu⟩
    · subst e
      cases r with
      | cons r1 rr =>
        cases rr
        obtain ⟨a, us, rfl, h1, h2⟩ := rep_lst r1
        exact ⟨a, us, rfl, okM_sql ok h1, h2⟩
    · subst e; subst eu
      cases r with
      | cons r1 rr =>
        cases rr
        have e' : _ = V.ref a := r1
        subst e'
        have ok' := ok
        rw [em] at ok'
        obtain ⟨ws, h1, h2⟩ := ok'.mid
        exact ⟨a, ws, rfl, .inl (.inl h1), dats_rep (dats_map _) h2⟩
  obtain ⟨a, us, rfl, h1, h2⟩ := key
  obtain ⟨ps, zs, rfl, el, hp, hd⟩ := dps_pairs h2
  refine ⟨a, ps, (ks.map (·.1)).zip zs, rfl, h1, L2.Paired.mapP hp fun _ _ => okM_sqt ok, ?_, fun p hn => ?_⟩
  · have e : ((ks.map (·.1)).zip zs).map (·.1) = ks.map (·.1) := List.map_fst_zip (by simp [el])
    rw [e]; exact ho
  · obtain ⟨ok2, s2⟩ := ok.frozen (o := .lst (ps.map V.ref)) hn
    exact k _ M _ _ _ q s2 ok2 (.lst (.inl (.inl upd_same)) (dps_mono s2 _ _ h2))
end
end LN
namespace LN
open PySem PySem.Spec PyProof.Rows L2 SlX
open PySem.Froz (SD sObj TxOk addTx tailTx is_str add_ok add_x)

/-! ### sets of texts, whose tables can be walked -/
/-- the new set object -/
abbrev nuSet (w : World) : Obj := { cls := .type "set", dict := none, data := .set #[] 0 (.fresh 0 0 (!w.params.followText "set-order")) }
def txOf (v : Value) : Str := match v with
  | .str x _ => x
  | _ => Str.empty
/-- a set of the texts l at a -/
def STx (P : Program) (w : World) (h : Heap) (a : Addr) (l : List Str) : Prop := ∃ D : SD, h.get? a = some (sObj "set" D) ∧ TxOk P w D l ∧ (D.1.toList.map fun e => txOf e.2).Perm l ∧ Ris D.2.2.place.toList ∧ (w.params.followText "set-order" = true ∨ D.2.2.led = true)
theorem STx.at {P : Program} {w : World} {h h' : Heap} {a : Addr} {l : List Str} (S : STx P w h a l) (k : ∀ o, h.get? a = some o → h'.get? a = some o) : STx P w h' a l := let ⟨D, h1, r⟩ := S; ⟨D, k _ h1, r⟩
theorem tail_perm (ep : Nat) (es : Array (Int × Value)) (t : SetTable) (b : Bool) : (tailTx ep es t b).1.toList.Perm es.toList := by
  unfold tailTx
  split
  · exact relayAll_perm _ _ _
  · exact List.Perm.refl _
theorem tail_ris (ep : Nat) (es : Array (Int × Value)) (t : SetTable) (b : Bool) (r : Ris t.place.toList) : Ris (tailTx ep es t b).2.2.place.toList := by
  unfold tailTx
  split
  · exact relayAll_ris _ _ _
  · exact r
theorem tail_led (ep : Nat) (es : Array (Int × Value)) (t : SetTable) (b : Bool) : (tailTx ep es t b).2.2.led = t.led := by
  unfold tailTx
  split
  · exact relayAll_led _ _ _
  · rfl
def offP (t : SetTable) : SetTable := if t.plain = true then { t with plain := false } else t
theorem offP_place (t : SetTable) : (offP t).place = t.place := by unfold offP; split <;> rfl
theorem offP_led (t : SetTable) : (offP t).led = t.led := by unfold offP; split <;> rfl
theorem addTx_eq (h : Int) (v : Value) (D : SD) : addTx h v D = tailTx D.2.1 (layNew D.2.2 D.1 h v).1 (offP (layNew D.2.2 D.1 h v).2.1) (layNew D.2.2 D.1 h v).2.2.1 := rfl
theorem addTx_perm (h : Int) (v : Value) (D : SD) : (addTx h v D).1.toList.Perm (D.1.push (h, v)).toList := by
  rw [addTx_eq]
  exact (tail_perm _ _ _ _).trans (layNew_perm D.2.2 D.1 h v)
theorem addTx_ris (h : Int) (v : Value) (D : SD) (r : Ris D.2.2.place.toList) : Ris (addTx h v D).2.2.place.toList := by
  rw [addTx_eq]
  refine tail_ris _ _ _ _ ?_
  rw [offP_place]
  exact layNew_ris D.2.2 D.1 h v r
theorem addTx_led (h : Int) (v : Value) (D : SD) : (addTx h v D).2.2.led = D.2.2.led := by
  rw [addTx_eq, tail_led, offP_led]
  exact layNew_led D.2.2 D.1 h v
section
variable {P : Program} {w : World} {A : Around} {E : Value → Shared → Prop} {s : Shared}
/-- one more text -/
theorem stx_add {a : Addr} {l : List Str} {k : Str} {u : Tok} {Q : Bool → Shared → Prop} (S : STx P w s.heap a l) (room : l.length + 1 < scanBound)
    (hQ : ∀ (b : Bool) (g : Heap), Heap.SameBut a s.heap g → STx P w g a (if k ∈ l then l else k :: l) → Q b { s with heap := g }) : wpAny (model P w) A (setAddHashed a (.str k u) (hashStr w k)) Q E s := by
  obtain ⟨D, ho, ok, pm, rs, ld⟩ := S
  by_cases hk : k ∈ l
  · rw [if_pos hk] at hQ
    have hq := hQ false s.heap (Heap.SameBut.refl a s.heap) ⟨D, ho, ok, pm, rs, ld⟩
    obtain ⟨es, ep, t⟩ := D
    have kk : (strKind P w).is k (.str k u) = true := is_str k u
    have sz0 : es.size = l.length := ok.sz
    obtain ⟨e0, m0, q0⟩ := (ok.mem k).mp hk
    unfold setAddHashed setAddHashedIn
    refine wpAny_holding (wpAny_bind (wpAny_setState_of ho rfl ok.fit ?_))
    dsimp only
    rw [byScan_of (x := Value.str k u) rfl (show es.size < scanBound by omega) ok.el]
    simp only [↓reduceIte]
    unfold setAddByScan
    refine wpAny_bind (wpAny_bind (wpAny_rule (wpAny_bind (wpAny_setScan_of (knd := strKind P w) (k := k) kk ho rfl ok.fit ok.el ?_))))
    cases hf : List.findIdx? (fun e => (strKind P w).is k e.2) es.toList with
    | some j => exact wpAny_pure (wpAny_pure hq)
    | none =>
      have c := List.findIdx?_eq_none_iff.mp hf e0 m0
      rw [q0] at c
      cases c
  · rw [if_neg hk] at hQ
    refine add_x ho ok hk room (hQ true _ (Heap.SameBut.update s.heap a _) ⟨addTx (hashStr w k) (.str k u) D, ?_, add_ok u ok, ?_, addTx_ris _ _ D rs, ?_⟩)
    · exact PySem.Froz.get_upd _ ho rfl
    · have q := (addTx_perm (hashStr w k) (.str k u) D).map (fun e => txOf e.2)
      rw [Array.toList_push, List.map_append] at q
      exact q.trans ((List.perm_append_comm).trans (List.Perm.cons k pm))
    · rw [addTx_led]; exact ld
/-- the set behind the texts xs -/
def gather : List Str → List Str → List Str
  | l, [] => l
  | l, x :: r => gather (if x ∈ l then l else x :: l) r
theorem gather_app : ∀ (xs l : List Str) (y : Str), gather l (xs ++ [y]) = if y ∈ gather l xs then gather l xs else y :: gather l xs
  | [], l, y => rfl
  | x :: r, l, y => gather_app r _ y
theorem gather_len : ∀ (xs l : List Str), (gather l xs).length ≤ l.length + xs.length
  | [], l => Nat.le_refl _
  | x :: r, l => by
    have q := gather_len r (if x ∈ l then l else x :: l)
    have z : (if x ∈ l then l else x :: l).length ≤ l.length + 1 := by split <;> simp
    show (gather (if x ∈ l then l else x :: l) r).length ≤ l.length + (r.length + 1)
    omega
theorem gather_mem : ∀ (xs l : List Str) (k : Str), k ∈ gather l xs ↔ k ∈ l ∨ k ∈ xs
  | [], l, k => by simp [gather]
  | x :: r, l, k => by
    show k ∈ gather (if x ∈ l then l else x :: l) r ↔ _
    rw [gather_mem r]
    by_cases h : x ∈ l
    · rw [if_pos h, List.mem_cons]
      constructor
      · rintro (q | q)
        · exact .inl q
        · exact .inr (.inr q)
      · rintro (q | q | q)
        · exact .inl q
        · exact .inl (q ▸ h)
        · exact .inr q
    · rw [if_neg h, List.mem_cons, List.mem_cons]
      constructor
      · rintro ((q | q) | q)
        · exact .inr (.inl q)
        · exact .inl q
        · exact .inr (.inr q)
      · rintro (q | q | q)
        · exact .inl (.inr q)
        · exact .inl (.inl q)
        · exact .inr q
theorem gather_nodup : ∀ (xs l : List Str), l.Nodup → (gather l xs).Nodup
  | [], l, h => h
  | x :: r, l, h => by
    refine gather_nodup r _ ?_
    split
    · exact h
    · rename_i z
      exact List.nodup_cons.mpr ⟨z, h⟩
theorem stx_loop {I : Addr} {fp wr : List Addr} {G : Array GenState → Array GenState → Prop} {n : Nat} {Pv : Nat → Value → Prop} {St : Nat → Shared → Prop} {R : Result → Shared → Prop}
    (W : WalksS P w A.in1 I fp wr G n Pv St) (S : Addr) (out : S ∉ fp) (xs : List Str) (hn : n = xs.length) (few : xs.length + 1 < scanBound) (val : ∀ i v, Pv i v → ∃ y t, xs[i]? = some y ∧ v = .str y t) (goal : ∀ z, Moved (S :: wr) G s z → STx P w z.heap S (gather [] xs) → R (.ok (.ret .none)) z) :
    ∀ (m i : Nat) (z : Shared), n - i = m → i ≤ n → Moved (S :: wr) G s z → St i z → STx P w z.heap S (gather [] (xs.take i)) → codeAny (model P w) A (.builtin "set.update.loop" ⟨[.ref S, .ref I], []⟩) R z := by
  have nw : S ∉ wr := fun q => out (W.sub _ q)
  have up : ∀ b ∈ wr, b ∈ S :: wr := fun b q => List.mem_cons_of_mem _ q
  intro m
  induction m with
  | zero =>
    intro i z e1 e2 mv st sx
    have ei : i = n := by omega
    subst ei
    refine codeAny_builtin F.entry_set_update_loop ?_
    rw [Around.under_plainId F.plain_set_update_loop _]
    refine wpAny_bind (m := pyNext (.ref I)) (W.done z _ _ st fun y mv2 => wpAny_pure (goal y (Moved.trans W.gtrans mv (mv2.mono up)) ?_))
    rw [List.take_of_length_le (by omega)] at sx
    exact sx.at fun o q => mv2.heap S o nw q
  | succ m ih =>
    intro i z e1 e2 mv st sx
    have lt : i < n := by omega
    refine codeAny_builtin F.entry_set_update_loop ?_
    rw [Around.under_plainId F.plain_set_update_loop _]
    refine wpAny_bind (m := pyNext (.ref I)) (W.item i z _ _ lt st fun v y pv st2 mv2 => ?_)
    obtain ⟨c, t, ec, rfl⟩ := val i v pv
    have sx2 : STx P w y.heap S (gather [] (xs.take i)) := sx.at fun o q => mv2.heap S o nw q
    have few2 : (gather [] (xs.take i)).length + 1 < scanBound := by
      have q := gather_len (xs.take i) []
      have q2 : (xs.take i).length ≤ xs.length := by rw [List.length_take]; exact Nat.min_le_right _ _
      simp only [List.length_nil] at q
      omega
    refine wpAny_bind (m := holding [Value.str c t] (setAdd S (.str c t))) (wpAny_holding ?_)
    unfold setAdd
    refine wpAny_holding (wpAny_bind ((strKind P w).pyHash (k := c) (is_str c t) ?_))
    refine stx_add (s := { y with toks := y.toks + 1 }) sx2 few2 fun b g sb sx3 => ?_
    have sx4 : STx P w g S (gather [] (xs.take (i + 1))) := by
      rw [List.take_add_one, ec]
      show STx P w g S (gather [] (xs.take i ++ [c]))
      rw [gather_app]
      exact sx3
    refine wpAny_pure ⟨plainId_quiet F.plain_set_update_loop _, ih (i + 1) _ (by omega) lt ?_ (W.frame _ y _ _ st2 (Nat.le_succ _) fun b q o e => ?_) sx4⟩
    · refine Moved.trans W.gtrans mv ((mv2.mono up).then_heap (Nat.le_succ _) fun b o q e => ?_)
      exact (sb.2 b fun z => q (by rw [z]; exact List.mem_cons_self)).trans e
    · exact (sb.2 b fun z => out (by rw [← z]; exact q)).trans e

set_option maxHeartbeats 3200000 in
theorem stx_list {l : Addr} {items : Array Value} (xs : List Str) {Q : Value → Shared → Prop} (calm : A.handled = none) (hl : s.heap.IsList l items) (hit : StrsAre items.toList xs) (few : xs.length + 1 < scanBound)
    (h : ∀ (g : Heap) (tk : Nat), STx P w g s.heap.objs.size (gather [] xs) → (∀ b o, s.heap.get? b = some o → g.get? b = some o) → Q (.ref s.heap.objs.size) { s with heap := g, toks := tk }) : wpAny (model P w) A (call (.type "set") [.ref l]) Q E s := by
  have isz : items.size = xs.length := by rw [← StrsAre.len_eq hit, Array.length_toList]
  obtain ⟨_, _, mro1⟩ := F.called_set.mro
  have made1 := F.called_set.made
  have sub1 := F.called_set.sub
  refine wpAny_call (codeAny_of_tree ?_)
  show wpAny _ _ (callAny (.type "set") _) _ _ _
  refine wpAny_pure ⟨Code.quiet_builtin _ (by decide +kernel), codeAny_builtin F.entry_type_call ?_⟩
  rw [Around.under_plain (weight_type_call_type "set" [.ref l] []) rfl]
  have not1 := F.called_set.notType
  have can1 := F.called_set.canCreate
  have tc1 := F.typeCall_set_1 (.ref l)
  repeat (any_goals (first | assumption | wp_step))
  refine codeAny_mono (code_set_led1 (.ref l) (E := E) (Q₁ := fun obj z => obj = .ref s.heap.objs.size ∧ z = { s with heap := s.heap.push (nuSet w) }) ⟨rfl, rfl⟩) fun r z hr => ?_
  cases r with
  | error e => exact hr
  | ok fl =>
    cases fl with
    | ret obj =>
      obtain ⟨rfl, rfl⟩ := hr
      have new1 : (s.heap.push (nuSet w)).get? s.heap.objs.size = some (nuSet w) := Heap.get?_push_size _ rfl
      have ty1 : Shared.TypeIs { s with heap := s.heap.push (nuSet w) } (.ref s.heap.objs.size) "set" := ⟨_, new1, rfl⟩
      have look1 := F.called_set.init.lookup
      have bind1 := F.called_set.init.bind (.ref s.heap.objs.size)
      repeat (any_goals (first | assumption | wp_step))
      refine codeAny_mono (codeAny_call_builtin (R := wants (fun r z => r = .none ∧ ∃ g tk, z = { s with heap := g, toks := tk } ∧ STx P w g s.heap.objs.size (gather [] xs) ∧ (∀ b o, s.heap.get? b = some o → g.get? b = some o)) E) F.called_set.init.plain F.entry_set_init (check_set_init_1 ty1 ?_)) fun r₂ z₂ hr₂ => ?_
      · obtain ⟨⟨ocls, odict, odata, oslots⟩, hol, hcl, nl, hdl⟩ := hl
        simp only at hcl hdl
        subst hcl; subst hdl
        have hol2 : (s.heap.push (nuSet w)).get? l = some { cls := .type "list", dict := odict, data := .seq items nl, slots := oslots } := Heap.get?_push_of_some _ hol
        have ss1 := F.sub_list_set
        have ss2 := F.sub_list_frozenset
        have nd1 : (Value.type "list" == Value.type "dict") = false := by decide
        have hl1 : (s.heap.push (nuSet w)).IsList l items := ⟨_, hol2, rfl, nl, rfl⟩
        have lS : l < s.heap.objs.size := Heap.lt_size hol
        have sz1 : (s.heap.push (nuSet w)).objs.size = s.heap.objs.size + 1 := Heap.size_push ..
        unfold Builtin.«set.__init__» noKeywords Builtin.Frozenset.updateFrom
        generalize hPI : pyIter = PI
        wp_walk
        subst hPI
        refine wpAny_pyIter_list hl1 (wpAny_bind (wpAny_runValue ?_))
        have calm3 : A.in1.in1.in1.handled = none := by simp [calm]
        have lI : l ≠ (s.heap.push (nuSet w)).objs.size := by rw [sz1]; exact Nat.ne_of_lt (Nat.lt_succ_of_lt lS)
        refine stx_loop (s := { s with heap := (s.heap.push (nuSet w)).push { cls := .type "list_iterator", data := .fields #[.ref l, .int 0 0] } }) ((Walks.list calm3 _ l lI items).toS) s.heap.objs.size (by
            rw [sz1]; simp only [List.mem_cons, List.not_mem_nil, or_false, not_or]; exact ⟨Nat.ne_of_lt (Nat.lt_succ_self _), Nat.ne_of_gt lS⟩) xs isz few (fun i v hv => ?_) (fun z mv sx => ?_) (items.size - 0) 0 _ (by omega) (Nat.zero_le _) ?_ ⟨⟨_, Heap.get?_push_size _ rfl, rfl, rfl⟩, (hl1.push _)⟩ ?_
        · have hi : i < xs.length := by rw [← isz]; exact (Array.getElem?_eq_some_iff.mp hv).1
          obtain ⟨t, e⟩ := SS.strs_at hit i v (by rw [Array.getElem?_toList]; exact hv)
          refine ⟨xs[i], t, List.getElem?_eq_getElem hi, ?_⟩
          rw [e, List.getD_eq_getElem?_getD, List.getElem?_eq_getElem hi] <;> rfl
        · obtain ⟨g, g2, d2, tk, os2⟩ := z
          have eg : g2 = s.gens := mv.gens
          have ed : d2 = s.drawn := mv.drawn
          have eo : os2 = s.os := mv.os
          subst eg; subst ed; subst eo
          refine wpAny_pure (wpAny_pure ⟨rfl, g, tk, rfl, sx, fun b o e => ?_⟩)
          have lb : b < s.heap.objs.size := Heap.lt_size e
          refine mv.heap b o (fun q => ?_) (Heap.get?_push_of_some _ (Heap.get?_push_of_some _ e))
          simp only [List.mem_cons, List.not_mem_nil, or_false] at q
          rw [sz1] at q
          rcases q with q | q
          · exact absurd lb (by rw [q]; exact Nat.lt_irrefl _)
          · exact absurd lb (by rw [q]; exact Nat.not_lt_of_le (Nat.le_succ _))
        · exact Moved.refl (fun _ => rfl)
        · exact ⟨(#[], 0, .fresh 0 0 (!w.params.followText "set-order")), Heap.get?_push_of_some _ new1, TxOk.nil rfl, List.Perm.refl _, List.Pairwise.nil, by
            show _ ∨ (!w.params.followText "set-order") = true
            cases w.params.followText "set-order" <;> simp⟩
      · cases r₂ with
        | error e => exact hr₂
        | ok fl₂ =>
          cases fl₂ with
          | ret r =>
            obtain ⟨rfl, g, tk, rfl, sx, kp⟩ := hr₂
            repeat (any_goals (first | assumption | wp_step))
            exact h _ _ sx kp
          | _ => exact hr₂.elim
    | _ => exact hr.elim

set_option maxHeartbeats 3200000 in
theorem stx_tuple {l : Addr} {items : Array Value} (xs : List Str) {Q : Value → Shared → Prop} (calm : A.handled = none) (hl : s.heap.IsTuple l items) (hit : StrsAre items.toList xs) (few : xs.length + 1 < scanBound)
    (h : ∀ (g : Heap) (tk : Nat), STx P w g s.heap.objs.size (gather [] xs) → (∀ b o, s.heap.get? b = some o → g.get? b = some o) → Q (.ref s.heap.objs.size) { s with heap := g, toks := tk }) : wpAny (model P w) A (call (.type "set") [.ref l]) Q E s := by
  have isz : items.size = xs.length := by rw [← StrsAre.len_eq hit, Array.length_toList]
  obtain ⟨_, _, mro1⟩ := F.called_set.mro
  have made1 := F.called_set.made
  have sub1 := F.called_set.sub
  refine wpAny_call (codeAny_of_tree ?_)
  show wpAny _ _ (callAny (.type "set") _) _ _ _
  refine wpAny_pure ⟨Code.quiet_builtin _ (by decide +kernel), codeAny_builtin F.entry_type_call ?_⟩
  rw [Around.under_plain (weight_type_call_type "set" [.ref l] []) rfl]
  have not1 := F.called_set.notType
  have can1 := F.called_set.canCreate
  have tc1 := F.typeCall_set_1 (.ref l)
  repeat (any_goals (first | assumption | wp_step))
  refine codeAny_mono (code_set_led1 (.ref l) (E := E) (Q₁ := fun obj z => obj = .ref s.heap.objs.size ∧ z = { s with heap := s.heap.push (nuSet w) }) ⟨rfl, rfl⟩) fun r z hr => ?_
  cases r with
  | error e => exact hr
  | ok fl =>
    cases fl with
    | ret obj =>
      obtain ⟨rfl, rfl⟩ := hr
      have new1 : (s.heap.push (nuSet w)).get? s.heap.objs.size = some (nuSet w) := Heap.get?_push_size _ rfl
      have ty1 : Shared.TypeIs { s with heap := s.heap.push (nuSet w) } (.ref s.heap.objs.size) "set" := ⟨_, new1, rfl⟩
      have look1 := F.called_set.init.lookup
      have bind1 := F.called_set.init.bind (.ref s.heap.objs.size)
      repeat (any_goals (first | assumption | wp_step))
      refine codeAny_mono (codeAny_call_builtin (R := wants (fun r z => r = .none ∧ ∃ g tk, z = { s with heap := g, toks := tk } ∧ STx P w g s.heap.objs.size (gather [] xs) ∧ (∀ b o, s.heap.get? b = some o → g.get? b = some o)) E) F.called_set.init.plain F.entry_set_init (check_set_init_1 ty1 ?_)) fun r₂ z₂ hr₂ => ?_
      · obtain ⟨⟨ocls, odict, odata, oslots⟩, hol, hcl, nl, hdl⟩ := hl
        simp only at hcl hdl
        subst hcl; subst hdl
        have hol2 : (s.heap.push (nuSet w)).get? l = some { cls := .type "tuple", dict := odict, data := .seq items nl, slots := oslots } := Heap.get?_push_of_some _ hol
        have ss1 := F.sub_tuple_set
        have ss2 := F.sub_tuple_frozenset
        have nd1 : (Value.type "tuple" == Value.type "dict") = false := by decide
        have hl1 : (s.heap.push (nuSet w)).IsTuple l items := ⟨_, hol2, rfl, nl, rfl⟩
        have lS : l < s.heap.objs.size := Heap.lt_size hol
        have sz1 : (s.heap.push (nuSet w)).objs.size = s.heap.objs.size + 1 := Heap.size_push ..
        unfold Builtin.«set.__init__» noKeywords Builtin.Frozenset.updateFrom
        generalize hPI : pyIter = PI
        wp_walk
        subst hPI
        refine wpAny_pyIter_tuple hl1 (wpAny_bind (wpAny_runValue ?_))
        have calm3 : A.in1.in1.in1.handled = none := by simp [calm]
        have lI : l ≠ (s.heap.push (nuSet w)).objs.size := by rw [sz1]; exact Nat.ne_of_lt (Nat.lt_succ_of_lt lS)
        refine stx_loop (s := { s with heap := (s.heap.push (nuSet w)).push { cls := .type "tuple_iterator", data := .fields #[.ref l, .int 0 0] } }) ((Walks.tuple calm3 _ l lI items).toS) s.heap.objs.size (by
            rw [sz1]; simp only [List.mem_cons, List.not_mem_nil, or_false, not_or]; exact ⟨Nat.ne_of_lt (Nat.lt_succ_self _), Nat.ne_of_gt lS⟩) xs isz few (fun i v hv => ?_) (fun z mv sx => ?_) (items.size - 0) 0 _ (by omega) (Nat.zero_le _) ?_ ⟨⟨_, Heap.get?_push_size _ rfl, rfl, rfl⟩, (hl1.push _)⟩ ?_
        · have hi : i < xs.length := by rw [← isz]; exact (Array.getElem?_eq_some_iff.mp hv).1
          obtain ⟨t, e⟩ := SS.strs_at hit i v (by rw [Array.getElem?_toList]; exact hv)
          refine ⟨xs[i], t, List.getElem?_eq_getElem hi, ?_⟩
          rw [e, List.getD_eq_getElem?_getD, List.getElem?_eq_getElem hi] <;> rfl
        · obtain ⟨g, g2, d2, tk, os2⟩ := z
          have eg : g2 = s.gens := mv.gens
          have ed : d2 = s.drawn := mv.drawn
          have eo : os2 = s.os := mv.os
          subst eg; subst ed; subst eo
          refine wpAny_pure (wpAny_pure ⟨rfl, g, tk, rfl, sx, fun b o e => ?_⟩)
          have lb : b < s.heap.objs.size := Heap.lt_size e
          refine mv.heap b o (fun q => ?_) (Heap.get?_push_of_some _ (Heap.get?_push_of_some _ e))
          simp only [List.mem_cons, List.not_mem_nil, or_false] at q
          rw [sz1] at q
          rcases q with q | q
          · exact absurd lb (by rw [q]; exact Nat.lt_irrefl _)
          · exact absurd lb (by rw [q]; exact Nat.not_lt_of_le (Nat.le_succ _))
        · exact Moved.refl (fun _ => rfl)
        · exact ⟨(#[], 0, .fresh 0 0 (!w.params.followText "set-order")), Heap.get?_push_of_some _ new1, TxOk.nil rfl, List.Perm.refl _, List.Pairwise.nil, by
            show _ ∨ (!w.params.followText "set-order") = true
            cases w.params.followText "set-order" <;> simp⟩
      · cases r₂ with
        | error e => exact hr₂
        | ok fl₂ =>
          cases fl₂ with
          | ret r =>
            obtain ⟨rfl, g, tk, rfl, sx, kp⟩ := hr₂
            repeat (any_goals (first | assumption | wp_step))
            exact h _ _ sx kp
          | _ => exact hr₂.elim
    | _ => exact hr.elim
end
end LN
namespace LN
open PySem PySem.Spec PyProof.Rows L2 SlX
open PySem.Froz (SD sObj TxOk addTx tailTx is_str add_ok add_x)

section
variable {P : Program} {w : World} {A : Around} {E : Value → Shared → Prop} {s : Shared}

/-! ### sorted(set(xs)) -/
theorem strs_vals : ∀ (l : List (Int × Value)), (∀ e ∈ l, ∃ k t, e.2 = Value.str k t) → ∀ vs : List Value, vs.Perm (l.map (·.2)) → StrsAre vs (vs.map txOf) := by
  intro l hl vs pm
  have each : ∀ v ∈ vs, ∃ k t, v = Value.str k t := fun v hv => by
    obtain ⟨e, he, q⟩ := List.mem_map.mp (pm.mem_iff.mp hv)
    rw [← q]; exact hl e he
  clear pm
  induction vs with
  | nil => exact .nil
  | cons v r ih =>
    obtain ⟨k, t, rfl⟩ := each v List.mem_cons_self
    exact .cons k t (ih fun u hu => each u (List.mem_cons_of_mem _ hu))
set_option maxHeartbeats 4000000 in
theorem stx_sorted {a : Addr} {l : List Str} {Q : Value → Shared → Prop} (S : STx P w s.heap a l) (calm : A.handled = none) (few : l.length < 64)
    (hQ : ∀ z p (out : Array Value) (c : Nat) (ys : List Str), (∀ b o, s.heap.get? b = some o → z.heap.get? b = some o) → z.gens = s.gens → z.os = s.os → s.heap.objs.size ≤ p → z.heap.get? p = some (seqObj "list" out c) → StrsAre out.toList ys → ys.Perm l → sortedS ys = true → Q (.ref p) z) :
    wpAny (model P w) A (call (.builtin "sorted") [.ref a]) Q E s := by
  obtain ⟨D, ho, ok, pm0, rs, ld⟩ := S
  have szl : D.1.size = l.length := ok.sz
  have few2 : D.1.size < scanBound := by rw [szl]; unfold scanBound; omega
  refine Calls.call_function_entry kind_sorted plain_sorted entry_sorted (args_sorted1 _) ?_
  unfold Builtin.«sorted»
  refine wpAny_bind (m := checkCount "sorted" 1 1 _) (wpAny_pure (wpAny_bind (collect_set (A := A.in1) calm ⟨sObj "set" D, ho, rfl, rfl⟩ ok.fit few2 rs ld fun z vs kp zs zg zo pm => ?_)))
  have vl : vs.length = l.length := by rw [pm.length_eq, List.length_map, Array.length_toList]; exact szl
  have hS : StrsAre vs (vs.map txOf) := by
    refine strs_vals D.1.toList (fun e he => ?_) vs pm
    obtain ⟨⟨k, hk, _⟩, _⟩ := ok.el e he
    have hk2 : Value.isStrOf k e.2 = true := hk
    match e.2, hk2 with
    | .str k2 t2, _ => exact ⟨k2, t2, rfl⟩
  have pt : (vs.map txOf).Perm l := by
    have q := pm.map txOf
    rw [List.map_map] at q
    exact q.trans pm0
  refine wpAny_bind (wpAny_newList ?_ (by rw [vl, sizeLine_eq]; omega))
  have new1 : (z.heap.push (seqObj "list" vs.toArray 0)).get? z.heap.objs.size = some (seqObj "list" vs.toArray 0) := Heap.get?_push_size _ rfl
  have few3 : vs.length < 64 := by rw [vl]; exact few
  refine wpAny_bind (wpAny_holding (wpAny_call_entry slot_list_sort ⟨_, new1, rfl⟩ entry_list_sort ?_ (args_list_sort _)))
  refine list_sort_treeK strKind_oneLt new1 hS.keysOf (fun v₁ v₂ rest e => keyKind_strs (by rw [← e]; exact hS)) few3 fun st' hp hs => ?_
  refine ⟨_, rfl, ?_⟩
  obtain ⟨ys, g1, g2, g3⟩ := sorted_out_str hS hp hs
  obtain ⟨c, hc⟩ := sortedHeap_at (vs := vs) (out := (arrOf st').map (·.2)) new1
  refine wpAny_pure ⟨_, rfl, hQ _ z.heap.objs.size _ c ys (fun b o e => ?_) zg zo zs hc g1 (g2.trans pt) g3⟩
  have q := kp b o e
  have lt1 := Heap.lt_size q
  refine (sortedHeap_old (Nat.ne_of_lt lt1) (by rw [size_push']; exact Nat.lt_succ_of_lt lt1)).trans ?_
  exact Heap.get?_push_of_some _ q
end
/-- the abstract object -/
def SetX (P : Program) (w : World) (a : Addr) (l : List Str) : HO := .ext fun h => STx P w h a l
section
variable {X : Cx}
theorem setX_new {H : Hp} {h : Heap} {P : Program} {w : World} {a : Addr} {l : List Str} (S : STx P w h a l) : ObjOk P w H h a (SetX P w a l) := by
  have ⟨D, ho, _⟩ := S
  exact ⟨S, ⟨_, ho⟩, fun h1 h2 p k => STx.at p k⟩
def rSetX (X : Cx) : List V → Hp → VK → Prop := fun vs H Q => ∃ (a : Addr) (xs : List Str), vs = [V.ref a] ∧ (SqL X.K H a (xs.map V.str) ∨ SqT X.K H a (xs.map V.str)) ∧ xs.length ≤ 1000 ∧ ∀ p, H p = none → Q (.ref p) (upd H p (SetX X.prog X.w p (gather [] xs)))
theorem cr_setX (hc : X.calm = true) : CallR X (.type "set") (rSetX X) := by
  intro pins s σ H vs us Q I r ⟨a, xs, ev, hs, hl, q⟩
  subst ev
  have few : xs.length + 1 < scanBound := by unfold scanBound; omega
  have hn : H s.heap.objs.size = none := I.hok.fresh (Nat.le_refl _)
  have fin : ∀ (g : Heap) (tk : Nat), STx X.prog X.w g s.heap.objs.size (gather [] xs) → (∀ b o, s.heap.get? b = some o → g.get? b = some o) → EP X pins σ Q (.ref s.heap.objs.size) { s with heap := g, toks := tk } :=
    fun g tk sx kp => ⟨.ref s.heap.objs.size, _, I.laid (t' := tk) kp (Nat.le_refl _) (setX_new sx), rfl, q _ hn⟩
  rw [Vals.ref1 r]
  rcases hs with hs | hs
  · obtain ⟨its, rv, pl, hz⟩ := I.list hs
    exact stx_list xs (I.ok.hd hc) pl.isList (by simpa using strsAre_of rv) few fin
  · obtain ⟨its, rv, pl, hz⟩ := I.tuple hs
    exact stx_tuple xs (I.ok.hd hc) pl (by simpa using strsAre_of rv) few fin
def rSortX (X : Cx) : List V → Hp → VK → Prop := fun vs H Q => ∃ (a : Addr) (l : List Str), vs = [V.ref a] ∧ H a = some (SetX X.prog X.w a l) ∧ l.length < 64 ∧ ∀ (ys : List Str) p, ys.Perm l → sortedS ys = true → H p = none → Q (.ref p) (upd H p (.lst (ys.map V.str)))
theorem cr_sortX (hc : X.calm = true) : CallR X (.builtin "sorted") (rSortX X) := by
  intro pins s σ H vs us Q I r ⟨a, l, ev, ha, few, q⟩
  subst ev
  have S : STx X.prog X.w s.heap a l := (I.hok a _ ha).1
  rw [Vals.ref1 r]
  refine stx_sorted S (I.ok.hd hc) few fun z p out c ys kp zg zo zs hc' hS pm so => ?_
  have hn : H p = none := I.hok.fresh zs
  have hlen : (ys.map V.str).length ≤ sizeLine := by rw [List.length_map, pm.length_eq, sizeLine_eq]; omega
  have J : Inv X pins σ (upd H p (.lst (ys.map V.str))) { s with heap := z.heap, gens := z.gens, drawn := z.drawn, toks := z.toks } :=
    I.call (ch := []) (Un.laid kp zs hn) (I.hok.laid kp zs ⟨hlen, out.toList, c, vals_of_strs hS, hc'⟩) (by rw [zg]; exact I.bare) (fun _ q => nomatch q)
  have e : z = { s with heap := z.heap, gens := z.gens, drawn := z.drawn, toks := z.toks } := by
    cases z; cases s; cases zo; rfl
  rw [e]
  exact ⟨.ref p, _, J, rfl, q ys p pm so hn⟩
/-- sorted(set(x)), x a list or tuple of texts -/
def aSetOf (α : AE) : AE := fun ρ M Q => α ρ M fun x M1 => ∃ xs : List Str, (x = .d (.list (strsD xs)) ∨ x = .d (.tuple (strsD xs))) ∧ xs.length < 64 ∧ ∀ ys, ys.Perm (gather [] xs) → sortedS ys = true → Q (.d (.list (strsD ys))) M1
theorem se_setOf {t : TE} {α : AE} (h : SE X.K t α) : SE X.K (tCB (rSortX X) (tCons (tCB (rSetX X) (tCons t tNil)) tNil)) (aSetOf α) := by
  intro ρ M Qa σ F H Q ok qa k
  refine h ρ M _ σ F H _ ok qa fun x M1 v F1 H1 ⟨xs, e, hl, q⟩ s1 ok1 r1 => ?_
  have key : ∃ a, v = .ref a ∧ (SqL X.K H1 a (xs.map V.str) ∨ SqT X.K H1 a (xs.map V.str)) := by
    rcases e with e | e
    · subst e
      obtain ⟨p, us, rfl, g1, g2⟩ := rep_lst r1
      rw [rep_strs g2] at g1
      exact ⟨p, rfl, .inl (okM_sql ok1.toOkM g1)⟩
    · subst e
      obtain ⟨p, us, rfl, g1, g2⟩ := rep_tup r1
      rw [rep_strs g2] at g1
      exact ⟨p, rfl, .inr (okM_sqt ok1.toOkM g1)⟩
  obtain ⟨a, rfl, hs⟩ := key
  refine ⟨a, xs, rfl, hs, by omega, fun p hp => ?_⟩
  have ok2 := ok1.toOkM.other (o := SetX X.prog X.w p (gather [] xs)) hp
  refine ⟨p, gather [] xs, rfl, upd_same, ?_, fun ys p2 pm so hn => ?_⟩
  · have z := gather_len xs []
    simp only [List.length_nil] at z
    omega
  · obtain ⟨ok3, s3⟩ := ok2.frozen (o := .lst (ys.map V.str)) hn
    exact k _ M1 _ _ _ (q ys pm so) (s1.trans s3) ⟨ok3, env_mono s3 ok1.env⟩ (.lst (.inl (.inl upd_same)) strs_rep)
end
end LN
namespace LN
open PySem PySem.Spec PyProof.Rows L2 SlX
open PySem.F (entry_dict_init)

/-! ### dict(t), t a tuple of pairs -/
theorem tuple_no_keys : typeLookup (.type "tuple") "keys" = pure none := am_miss_of_fast (by decide +kernel)
section
variable {P : Program} {w : World} {A : Around} {E : Value → Shared → Prop} {s : Shared}
set_option maxHeartbeats 1000000 in
theorem tuple_misses {a : Addr} {o : Obj} {xs : Array Value} {n : Nat} {Q : Option Value → Shared → Prop} (ho : s.heap.get? a = some o) (oc : o.cls = .type "tuple") (ot : o.data = .seq xs n) (od : o.dict = none) (calm : A.handled = none)
    (q : ∀ g tk, (∀ b z, s.heap.get? b = some z → g.get? b = some z) → Q none { s with heap := g, toks := tk }) : wpAny (model P w) A (getAttr? (.ref a) "keys") Q E s := by
  obtain ⟨c, dc, dt, sl⟩ := o
  simp only at oc ot od
  subst oc ot od
  obtain ⟨hp, gs, dr, tk, os⟩ := s
  have ty1 : ∀ tk', (⟨hp, gs, dr, tk', os⟩ : Shared).TypeIs (.ref a) "tuple" := fun _ => ⟨_, ho, rfl⟩
  have none1 := tuple_no_keys
  have not1 : (["__module__", "__name__", "__qualname__", "__doc__", "__annotations__"] : List Str).contains "keys" = false := by decide +kernel
  have sz1 : ("keys" : Str).length + 100 ≤ sizeLine := by first | size_fits | decide +kernel
  have e1 := sub_AttributeError
  have e2 := PySem.F.slot_tuple_getattribute.lookup
  have e3 := PySem.F.slot_tuple_getattribute.bind (.ref a)
  have e4 := am_tuple_getattr_none
  unfold getAttr? getAttrBy? getAttrBy
  repeat (any_goals (first | assumption | exact ty1 _ | ((with_reducible show wpAny _ _ (call (Value.builtin "tuple.__getattribute__") _ _) _ _ _); refine call_meets PySem.F.slot_tuple_getattribute (ty1 _) am_entry_tuple_getattribute (PySem.F.args_tuple_getattribute_2 _ _) (meets_getattribute_miss_tuple a xs n sl "keys" _ none1 not1 sz1) ⟨ho, calm, fun g tk2 e he => ?_⟩) | wp_step))
  obtain ⟨t2, u2, e5⟩ := he.there
  show wpAny _ _ (getattributeRaised _ _ _ _ _ _ _) _ _ _
  unfold getattributeRaised
  repeat (any_goals (first | assumption | wp_step))
  all_goals first | exact q _ _ he.keeps | (dsimp only; repeat (any_goals (first | assumption | exact q _ _ he.keeps | wp_step)))
theorem dict_loop {I : Addr} {fp wr : List Addr} {G : Array GenState → Array GenState → Prop} {n : Nat} {Pv : Nat → Value → Prop} {St : Nat → Shared → Prop} {R : Result → Shared → Prop}
    (W : WalksS P w A.in1 I fp wr G n Pv St) (S : Addr) (out : S ∉ fp) (prs : List (Key × Value)) (hn : n = prs.length) (few : prs.length ≤ sizeLine)
    (val : ∀ i v, Pv i v → ∃ (q : Key × Value) (b : Addr) (u : Value), prs[i]? = some q ∧ v = .ref b ∧ b ∉ S :: wr ∧ IsTup s.heap b #[u, q.2] ∧ keyIs q.1 u = true)
    (goal : ∀ z, Moved (S :: wr) G s z → z.heap.DictOf (mixKind P w) S (merged [] prs) → R (.ok (.ret .none)) z) :
    ∀ (m i : Nat) (z : Shared) (ix : Int) (t : Tok), n - i = m → i ≤ n → Moved (S :: wr) G s z → St i z → z.heap.DictOf (mixKind P w) S (merged [] (prs.take i)) → codeAny (model P w) A (.builtin "dict.update.loop" ⟨[.ref S, .ref I, .int ix t, .none], []⟩) R z := by
  have nw : S ∉ wr := fun q => out (W.sub _ q)
  have up : ∀ b ∈ wr, b ∈ S :: wr := fun b q => List.mem_cons_of_mem _ q
  intro m
  induction m with
  | zero =>
    intro i z ix t e1 e2 mv st dd
    have ei : i = n := by omega
    subst ei
    refine codeAny_builtin ud_entry ?_
    rw [Around.under_plainId ud_plain _]
    refine wpAny_bind (m := pyNext (.ref I)) (W.done z _ _ st fun y mv2 => ?_)
    refine wpAny_bind (m := Builtin.Dict.addKeywords S []) (wpAny_pure (wpAny_pure (goal y (Moved.trans W.gtrans mv (mv2.mono up)) ?_)))
    rw [List.take_of_length_le (by omega)] at dd
    exact dd.at fun o q => mv2.heap S o nw q
  | succ m ih =>
    intro i z ix t e1 e2 mv st dd
    have lt : i < n := by omega
    refine codeAny_builtin ud_entry ?_
    rw [Around.under_plainId ud_plain _]
    refine wpAny_bind (m := pyNext (.ref I)) (W.item i z _ _ lt st fun v y pv st2 mv2 => ?_)
    obtain ⟨q, b, u, eq, rfl, nb, tb, kq⟩ := val i v pv
    have mv3 : Moved (S :: wr) G s y := Moved.trans W.gtrans mv (mv2.mono up)
    obtain ⟨o, ho, oc, k, od⟩ : IsTup y.heap b #[u, q.2] := by
      obtain ⟨o, ho, r⟩ := tb
      exact ⟨o, mv3.heap b o nb ho, r⟩
    have dd2 : y.heap.DictOf (mixKind P w) S (merged [] (prs.take i)) := dd.at fun o q => mv2.heap S o nw q
    have lim : (merged [] (prs.take i)).length ≤ sizeLine := by
      have z1 := merged_length_le [] (prs.take i)
      have z2 : (prs.take i).length ≤ prs.length := by rw [List.length_take]; exact Nat.min_le_right _ _
      simp only [List.length_nil] at z1
      omega
    show wpAny _ A.in1 (holding [Value.ref b] _ >>= _) _ _ _
    refine wpAny_bind (wpAny_holding (wpAny_bind (wpAny_tryCatch ?_)))
    unfold Builtin.Dict.pairItems
    refine wpAny_bind (wpAny_typeOf (T := "tuple") ⟨o, ho, oc⟩ ?_)
    rw [if_pos (by first | decide | rfl | simp)]
    refine wpAny_bind (wpAny_seqItems ho od (wpAny_pure ?_))
    show wpAny _ A.in1 (holding [u, q.2] (dictSet S u q.2)) _ _ _
    refine wpAny_holding (wpAny_dictSet_pairs (knd := mixKind P w) (k := q.1) kq dd2 (fun g dg sb => ?_) lim)
    have dd3 : g.DictOf (mixKind P w) S (merged [] (prs.take (i + 1))) := by
      rw [merged_take_succ [] prs i q eq]
      exact dg
    refine wpAny_pure ⟨plainId_quiet ud_plain _, ih (i + 1) _ (ix + 1) 0 (by omega) lt ?_ (W.frame _ y _ _ st2 (Nat.le_succ _) fun c hc o e => ?_) dd3⟩
    · exact mv3.then_heap (Nat.le_succ _) fun c o nc e => (sb.2 c fun z => nc (by rw [z]; exact List.mem_cons_self)).trans e
    · exact (sb.2 c fun z => out (by rw [← z]; exact hc)).trans e
theorem call_dict_tuple {l : Addr} {ol : Obj} {items : Array Value} {n : Nat} {prs : List (Key × Value)} {Q : Value → Shared → Prop} (calm : A.handled = none) (hl : s.heap.get? l = some ol) (lc : ol.cls = .type "tuple") (ld : ol.dict = none) (lt : ol.data = .seq items n) (hsz : items.size = prs.length) (few : prs.length ≤ sizeLine)
    (val : ∀ (i : Nat) (v : Value), items[i]? = some v → ∃ (q : Key × Value) (b : Addr) (u : Value), prs[i]? = some q ∧ v = .ref b ∧ IsTup s.heap b #[u, q.2] ∧ keyIs q.1 u = true)
    (h : ∀ g tk, g.DictOf (mixKind P w) s.heap.objs.size (merged [] prs) → (∀ b o, s.heap.get? b = some o → g.get? b = some o) → Q (.ref s.heap.objs.size) { s with heap := g, toks := tk }) : wpAny (model P w) A (call (.type "dict") [.ref l]) Q E s := by
  refine callType_codes (Q₁ := fun obj z => obj = .ref s.heap.objs.size ∧ z = { s with heap := s.heap.push { cls := .type "dict", data := .dict #[] } }) PySem.F.kt_called_dict (PySem.F.kt_typeCall_dict_1 _) entry_dict_init (kt_code_dict_new _ ⟨rfl, rfl⟩) ?_
  rintro obj z ⟨rfl, rfl⟩
  have new1 : (s.heap.push { cls := .type "dict", data := .dict #[] }).DictOf (mixKind P w) s.heap.objs.size [] := Heap.DictOf.new s.heap
  have sz1 : (s.heap.push { cls := .type "dict", data := .dict #[] }).objs.size = s.heap.objs.size + 1 := Heap.size_push ..
  have k0 : ∀ b o, s.heap.get? b = some o → (s.heap.push { cls := .type "dict", data := .dict #[] }).get? b = some o := fun b o e => Heap.get?_push_of_some _ e
  have at0 : (s.heap.push { cls := .type "dict", data := .dict #[] }).get? s.heap.objs.size = some { cls := .type "dict", data := .dict #[] } := Heap.get?_push_size _ rfl
  refine ⟨new1.typeIs, PySem.F.args_dict_init_2 _ _, ?_⟩
  unfold Builtin.«dict.__init__»
  refine wpAny_bind ?_
  unfold Builtin.Dict.selfAndRest
  refine wpAny_bind (wpAny_notOrdered_dict new1.typeIs ?_)
  show wpAny _ _ (pure (s.heap.objs.size, [Value.ref l])) _ _ _
  refine wpAny_pure ?_
  show wpAny _ _ (Builtin.Dict.updateFrom "dict.__init__" s.heap.objs.size (.ref l) [] .none) _ _ _
  unfold Builtin.Dict.updateFrom
  refine wpAny_bind (wpAny_typeOf (T := "tuple") ⟨ol, k0 _ _ hl, lc⟩ ?_)
  rw [if_pos (by first | decide | rfl | simp)]
  refine wpAny_bind (tuple_misses (k0 _ _ hl) lc lt ld calm fun g1 tk1 k1 => ?_)
  rw [if_pos (show (none : Option Value).isNone = true from rfl)]
  refine wpAny_bind (wpAny_rule ?_)
  have tl : g1.IsTuple l items := ⟨ol, k1 _ _ (k0 _ _ hl), lc, n, lt⟩
  have lS : s.heap.objs.size < g1.objs.size := Heap.lt_size (k1 _ _ at0)
  have ll : l < s.heap.objs.size := Heap.lt_size hl
  refine wpAny_bind (wpAny_pyIter_tuple tl ?_)
  have calm2 : A.in1.in1.handled = none := by simp [calm]
  have lI : l ≠ g1.objs.size := Nat.ne_of_lt (Nat.lt_trans ll lS)
  have key := dict_loop (P := P) (w := w) (A := A.in1) (R := wants (fun r z => r = .none ∧ Q (.ref s.heap.objs.size) z) E) (s := { s with heap := g1.push { cls := .type "tuple_iterator", data := .fields #[.ref l, .int 0 0] }, toks := tk1 })
    ((Walks.tuple calm2 _ l lI items).toS) s.heap.objs.size (by simp only [List.mem_cons, List.not_mem_nil, or_false, not_or]; exact ⟨Nat.ne_of_lt lS, Nat.ne_of_gt ll⟩) prs hsz few
    (fun i v hv => by
      obtain ⟨q, b, u, e1, e2, e3, e4⟩ := val i v hv
      have hb : b < s.heap.objs.size := e3.lt
      refine ⟨q, b, u, e1, e2, ?_, e3.keeps fun c o z => Heap.get?_push_of_some _ (k1 _ _ (k0 _ _ z)), e4⟩
      simp only [List.mem_cons, List.not_mem_nil, or_false, not_or]
      exact ⟨Nat.ne_of_lt hb, Nat.ne_of_lt (Nat.lt_trans hb lS)⟩)
    (fun z mv dd => by
      obtain ⟨g, g2, d2, tk, os2⟩ := z
      have eg : g2 = s.gens := mv.gens
      have ed : d2 = s.drawn := mv.drawn
      have eo : os2 = s.os := mv.os
      subst eg; subst ed; subst eo
      refine ⟨rfl, h g tk dd fun b o e => mv.heap b o (fun q => ?_) (Heap.get?_push_of_some _ (k1 _ _ (k0 _ _ e)))⟩
      have lb : b < s.heap.objs.size := Heap.lt_size e
      simp only [List.mem_cons, List.not_mem_nil, or_false] at q
      rcases q with q | q
      · exact absurd lb (by rw [q]; exact Nat.lt_irrefl _)
      · exact absurd (Nat.lt_trans lb lS) (by rw [q]; exact Nat.lt_irrefl _))
    (items.size - 0) 0 _ 0 0 (by omega) (Nat.zero_le _) (Moved.refl (fun _ => rfl)) ⟨⟨_, Heap.get?_push_size _ rfl, rfl, rfl⟩, tl.push _⟩ ((new1.at fun o e => k1 _ _ e).at fun o e => Heap.get?_push_of_some _ e)
  first
    | exact wpAny_pure ⟨plainId_quiet ud_plain _, key⟩
    | exact wpAny_bind (wpAny_pure (wpAny_pure ⟨plainId_quiet ud_plain _, key⟩))
end
section
variable {X : Cx}
/-- dict(t) -/
def rDictT (K : Frg) : List V → Hp → VK → Prop := fun xs H Q => ∃ (a : Addr) (ps : List Addr) (kvs : List (Key × V)), xs = [.ref a] ∧ SqS K H a (ps.map V.ref) ∧ Paired (fun p kv => SqT K H p [kV kv.1, kv.2]) ps kvs ∧ ∀ p, H p = none → Q (.ref p) (upd H p (.dK (mergeK [] kvs)))
theorem call_dictT (hc : X.calm = true) : CallR X (.type "dict") (rDictT X.K) := by
  intro pins s σ H xs us Q I r ⟨a, ps, kvs, ex, hs, hp, q⟩
  subst ex
  obtain ⟨u, eu, rx⟩ := vals1 r
  subst eu
  cases rx
  have obj : ∃ (o : Obj) (its : List Value) (n : Nat), s.heap.get? a = some o ∧ o.cls = .type "tuple" ∧ o.dict = none ∧ o.data = .seq its.toArray n ∧ Vals (ps.map V.ref) its ∧ (ps.map V.ref).length ≤ sizeLine := by
    rcases hs with ⟨o, h, h1, h2⟩ | ⟨o, its, n, h0, h1, h2, h3, h4, h5⟩
    · obtain ⟨e1, z, its, rv, o2, e2, _, n, e4⟩ := (show ObjOk X.prog X.w H s.heap a (.frz o (.tup (ps.map V.ref))) from I.hok a _ h)
      rw [e1] at e2
      cases e2
      exact ⟨o, its, n, e1, h1, h2, e4, rv, z⟩
    · refine ⟨o, its.toList, n, I.kIn a o h0, h1, h2, by simpa using h3, h5, ?_⟩
      rw [h5.length, Array.length_toList]
      exact h4
  obtain ⟨o, its, n, ho, oc, od, ot, rv, hz⟩ := obj
  have ei := refs_at rv
  subst ei
  rw [List.length_map] at hz
  obtain ⟨prs, rel, hl, hpr⟩ := pairs_of I hp
  refine call_dict_tuple (prs := prs) (I.ok.hd hc) ho oc od ot (by simp [hl]) (by rw [hl]; exact hz) (fun i v hv => ?_) fun g tk dd k => ?_
  · have hi : i < prs.length := by
      have := (Array.getElem?_eq_some_iff.mp hv).1
      simp only [List.size_toArray, List.length_map] at this
      omega
    obtain ⟨b, u, e1, e2, e3⟩ := hpr i _ (List.getElem?_eq_getElem hi)
    refine ⟨_, b, u, List.getElem?_eq_getElem hi, ?_, e2, e3⟩
    rw [List.getElem?_toArray, List.getElem?_map, e1] at hv
    cases hv
    rfl
  · have hm : (s.heap.objs.size == sysModules) = false := beq_eq_false_iff_ne.mpr (Nat.ne_of_gt I.big)
    have hlen : (mergeK [] kvs).length ≤ sizeLine := by
      have z1 := length_mergeK kvs []
      rw [List.length_nil, Nat.zero_add, rel.length, hl] at z1
      exact Nat.le_trans z1 hz
    exact ⟨.ref s.heap.objs.size, _, I.laid (t' := tk) k (Nat.le_refl _) (show ObjOk X.prog X.w _ _ _ (.dK (mergeK [] kvs)) from ⟨hlen, hm, merged [] prs, KV.merge rel .nil, dd⟩), rfl, q _ (I.hok.fresh (Nat.le_refl _))⟩
end
section
variable {K : Frg}
/-- dict(x), x a tuple of pairs text, data, in strict order by the texts or not: later ones win -/
def mergeD (kvs : List (Str × PyData)) : List (Str × Va) := kvs.foldl (fun acc p => putD acc p.1 (.d p.2)) []
def RDict : AN := fun xs M Q => ∃ kvs : List (Str × PyData), xs = [.d (.tuple (itemsD kvs))] ∧ ∀ p, Q (.m p) ((p, .dK (mergeD kvs)) :: M)
theorem merge_pd {F : Hp} : ∀ {kvs : List (Str × PyData)} {vs : List V} {ks : List (Key × V)} {acc : List (Str × Va)}, DsAll K F vs (kvs.map (·.2)) → PD K F ks acc → PD K F (mergeK ks (((kvs.map (·.1)).zip vs).map fun p => (Sum.inr p.1, p.2))) (kvs.foldl (fun acc p => putD acc p.1 (.d p.2)) acc)
  | [], _, ks, acc, h, k => by cases h; exact k
  | (x, d) :: kvs, _, ks, acc, h, k => by
    cases h with
    | cons h1 h2 =>
      have q := merge_pd (kvs := kvs) h2 (put_pd (k := x) (z := .d d) h1 k)
      exact q
theorem sn_dict : SN K (rDictT K) RDict := by
  intro xs M Qa vs F H Q ok r ⟨kvs, e, q⟩ k
  subst e
  cases r with
  | cons r1 rr =>
    cases rr
    obtain ⟨a, us, rfl, h1, h2⟩ := rep_tupS r1
    obtain ⟨ps, zs, rfl, el, hp, hd⟩ := dps_pairs h2
    refine ⟨a, ps, ((kvs.map (·.1)).zip zs).map fun p => (Sum.inr p.1, p.2), rfl, Same.sqs ok.same h1, ?_, fun p hn => ?_⟩
    · have hp2 : Paired (fun p k => SqT K H p [.str k.1, k.2]) ps ((kvs.map (·.1)).zip zs) := L2.Paired.mapP hp fun _ _ => okM_sqt ok
      clear hp hd el h1 h2 ok k q r1
      generalize (kvs.map (·.1)).zip zs = l at hp2
      induction hp2 with
      | nil => exact .nil
      | cons h t ih => exact .cons h ih
    · exact k _ _ _ F _ (q p) (Same.refl _) (ok.made hn ⟨_, upd_same, merge_pd hd .nil⟩) rfl
end
end LN
/-! enumerate(t), t a tuple; list.remove of texts; list(text) -/
namespace LN
open PySem PySem.Spec PyProof.Rows L2 SlX
open AutoSeq1 (wpAny_loadPart')
section
theorem draws_tuple {P : Program} {w : World} {A : Around} (calm : A.handled = none) (it l : Addr) (ne : l ≠ it) (items : Array Value) :
    Draws P w A it [it, l] items.size (fun i v => items[i]? = some v) (fun i h => h.IsTupleIter it l i ∧ h.IsTuple l items) where
  live := fun _ _ st => let ⟨o, ho, _⟩ := st.1; ⟨o, ho⟩
  frame := fun _ _ _ st hk => ⟨st.1.at fun o e => hk it (by simp) o e, st.2.at fun o e => hk l (by simp) o e⟩
  item := fun i s Q E hi st hQ => by
    refine RZ.nextOf_tuple_item st.1 st.2 (x := items[i]) (by simp [hi]) fun g it2 sb => ?_
    exact hQ _ g s.toks (by simp [hi]) ⟨it2, st.2.extBut sb.extBut ne⟩ sb
  done := fun s Q E st hE => RZ.nextOf_tuple_end calm st.1 st.2 (by simp) hE
set_option maxHeartbeats 1000000 in
theorem enum_newT (l : Addr) (items : Array Value) (n : Nat) (dc : Option Addr) (sl : Array (Option Value)) :
    Meets (Builtin.«enumerate.__new__» ⟨[.type "enumerate", .ref l], []⟩) (fun _ R s => s.heap.get? l = some { cls := .type "tuple", dict := dc, data := .seq items n, slots := sl } ∧
      R (.ok (.ret (.ref (s.heap.push { cls := .type "tuple_iterator", data := .fields #[.ref l, .int 0 0] }).objs.size)))
        { s with heap := (s.heap.push { cls := .type "tuple_iterator", data := .fields #[.ref l, .int 0 0] }).push { cls := .type "enumerate", data := .fields #[.none, .bool false, .ref s.heap.objs.size, rawInt 0, .none, .none] } }) :=
  .of_wp fun prog w A R s h => by
    obtain ⟨hp, g, d, tk, os⟩ := s
    obtain ⟨hl, h⟩ := h
    have sub1 := sub_enumerate
    have tl : Heap.IsTuple (Shared.heap ⟨hp, g, d, tk, os⟩) l items := ⟨_, hl, rfl, n, rfl⟩
    wp_walk using wpAny_loadPart' hl
    refine wpAny_stack_any fun st => wpAny_pure ?_
    split
    · rename_i c _ _ _ _ _
      cases (c == Value.type "enumerate")
      · wp_walk using wpAny_loadPart' hl, wpAny_pyIter_tuple tl
        exact ⟨_, rfl, h⟩
      · wp_walk using wpAny_loadPart' hl, wpAny_pyIter_tuple tl
        exact ⟨_, rfl, h⟩
    · wp_walk using wpAny_loadPart' hl, wpAny_pyIter_tuple tl
      exact ⟨_, rfl, h⟩
theorem call_enumT {P : Program} {w : World} {A : Around} {E : Value → Shared → Prop} {s : Shared} {l : Addr} {items : Array Value} {Q : Value → Shared → Prop} (tl : s.heap.IsTuple l items)
    (h : ∀ g, IsEnum g (s.heap.objs.size + 1) s.heap.objs.size 0 .none → g.IsTupleIter s.heap.objs.size l 0 → (∀ b o, s.heap.get? b = some o → g.get? b = some o) → Q (.ref (s.heap.objs.size + 1)) { s with heap := g }) :
    wpAny (model P w) A (call (.type "enumerate") [.ref l]) Q E s := by
  obtain ⟨⟨c, dc, dt, sl⟩, hl, hc, n, hd⟩ := tl
  replace hc : c = .type "tuple" := hc
  replace hd : dt = .seq items n := hd
  subst hc hd
  refine callType_new F.called_enumerate (by decide) (F.typeCall_enumerate_1 _) (F.newCall_enumerate_1 _) (fun obj => F.args_object_init_2 obj _) F.entry_enumerate_new (enum_newT l items n dc sl) ⟨hl, ?_⟩
  have sz1 : (s.heap.push { cls := .type "tuple_iterator", data := .fields #[.ref l, .int 0 0] }).objs.size = s.heap.objs.size + 1 := Heap.size_push ..
  show _ ∧ _
  rw [sz1]
  have at1 := Heap.get?_push_size (s.heap.push { cls := .type "tuple_iterator", data := .fields #[.ref l, .int 0 0] }) (o := { cls := .type "enumerate", data := .fields #[.none, .bool false, .ref s.heap.objs.size, rawInt 0, .none, .none] }) rfl
  rw [sz1] at at1
  exact ⟨⟨_, at1, rfl⟩, h _ at1 ⟨_, Heap.get?_push_of_some _ (Heap.get?_push_size _ rfl), rfl, rfl⟩ fun b o x => Heap.get?_push_of_some _ (Heap.get?_push_of_some _ x)⟩
theorem enum_endT {P : Program} {w : World} {A : Around} {E : Value → Shared → Prop} {s : Shared} {e it l : Addr} {i : Nat} {k : Int} {items : Array Value} {old : Value} {Q : Option Value → Shared → Prop} (calm : A.handled = none)
    (he : IsEnum s.heap e it k old) (hit : s.heap.IsTupleIter it l i) (hl : s.heap.IsTuple l items) (hx : items[i]? = none) (q : ∀ g, Heap.ExtBut it s.heap g → Q none { s with heap := g }) : wpAny (model P w) A (pyNext (.ref e)) Q E s := by
  have ty1 : s.TypeIs (.ref e) "enumerate" := ⟨_, he, rfl⟩
  unfold pyNext
  refine wpAny_bind (wpAny_attempt (wpAny_callSpecial?_slot (name := Str.ofString "__next__") ty1 F.slot_enumerate_next (wpAny_call_entry F.slot_enumerate_next ty1 F.entry_enumerate_next ?_ (F.args_enumerate_next_1 _))))
  refine wpAny_bind (m := field (.ref e) 2) (wpAny_field he rfl (x := .ref it) rfl (wpAny_bind (RZ.nextOf_tuple_end calm hit hl hx fun g x ge gx => ?_)))
  obtain ⟨o, ho, hc⟩ := gx
  exact wpAny_bind (wpAny_isInstance (T := "StopIteration") (b := true) ⟨o, ho, hc⟩ isSubtype_stop (wpAny_pure (q _ ge)))
/-- the tuple's items in new pairs -/
def IteT (K : Frg) (a : Addr) : It :=
  ⟨fun i H => ∃ (xs : List V) (x : V), SqT K H a xs ∧ xs[i]? = some x, fun i H v H' => ∃ T x, v = .ref T ∧ H T = none ∧ H' = upd H T (.tup [.int (i : Nat), x]) ∧ ∀ xs, SqT K H a xs → xs[i]? = some x, fun i H => ∃ xs : List V, SqT K H a xs ∧ xs.length ≤ i⟩
theorem turn_enumT {P : Program} {w : World} {K : Frg} {elts : List Expr} {kk : Nat} {tpos : Pos} (a e it : Addr) (na : a ≠ it) :
    Turn P w K (.Tuple elts kk tpos) (IteT K a) [e, it] e (fun i h => (∃ old, IsEnum h e it ((i : Nat) : Int) old) ∧ h.IsTupleIter it a i ∧ e ≠ it ∧ e ≠ a) where
  mem := by simp
  obj := fun i h st b hb => by
    obtain ⟨⟨old, he⟩, ⟨o, ho, hc, hd⟩, _⟩ := st
    have z : b = e ∨ b = it := by simpa using hb
    rcases z with z | z
    · rw [z]; exact ⟨_, he, fun v q => nomatch q⟩
    · rw [z]; exact ⟨o, ho, fun v q => by rw [hd] at q; cases q⟩
  keep := fun i h h' st k => let ⟨⟨old, he⟩, hi, ne⟩ := st; ⟨⟨old, k e (by simp) _ he⟩, hi.at fun o q => k it (by simp) o q, ne⟩
  item := by
    intro X hP hw hK hc i pins s σ H E I hf st hg
    subst hP hw hK
    obtain ⟨⟨old, he⟩, hit, ne, ea⟩ := st
    obtain ⟨xs, x, hq, hx⟩ := hg
    obtain ⟨its, rv, p, hz⟩ := I.tuple hq
    obtain ⟨u, hu, ru⟩ := rv.get hx
    have le : e < s.heap.objs.size := Heap.lt_size he
    have li : it < s.heap.objs.size := by obtain ⟨_, q, _⟩ := hit; exact Heap.lt_size q
    have hil : i < its.toArray.size := by
      have := (List.getElem?_eq_some_iff.mp hu).1
      simpa using this
    refine wpAny_pyNext_enum_itemD (draws_tuple (by rw [show X.A.in1.handled = X.A.handled from rfl]; exact I.ok.hd hc) it a na its.toArray) he ⟨hit, p⟩ hil ne (by simp [ne, ea]) fun y g tk hy ho st2 hT hsz hk => ?_
    have ey : y = u := by
      rw [List.getElem?_toArray, hu] at hy
      cases hy; rfl
    subst ey
    refine ⟨_, rfl, wpAny_letOwnedTupleGo_enum (s := { s with heap := g, toks := tk + 1 }) ho fun g2 he2 sb => ?_⟩
    have hT2 : g2.get? s.heap.objs.size = some { cls := .type "tuple", data := .seq #[.int i tk, y] } := (sb.2 _ (Nat.ne_of_gt le)).trans hT
    have new : ObjOk X.prog X.w (upd H s.heap.objs.size (.tup [.int (i : Nat), x])) g2 s.heap.objs.size (.tup [.int (i : Nat), x]) :=
      ⟨by show 2 ≤ sizeLine; decide, [.int i tk, y], .cons ⟨_, rfl⟩ (.cons ru .nil), ⟨_, hT2, rfl, _, rfl⟩⟩
    have I1 : Inv X pins σ (upd H s.heap.objs.size (.tup [.int (i : Nat), x])) { s with heap := g2, toks := tk + 1 } :=
      I.turnedNew (ch := [e, it]) (fun b ob hb q => (sb.2 b (fun z => hb (by simp [z]))).trans (hk b ob (fun z => hb (by simp [z])) (fun z => hb (by simp [z])) q)) hf (Nat.le_refl _) new
    refine ⟨.ref s.heap.objs.size, _, I1, rfl, ⟨_, x, rfl, I.hok.fresh (Nat.le_refl _), rfl, fun ys hy => by rw [I.tuple_inj hy hq]; exact hx⟩, ⟨⟨y, ?_⟩, st2.1.at fun o q => (sb.2 it (Ne.symm ne)).trans q, ne, ea⟩, fun b hb => ?_⟩
    · have e1 : ((i + 1 : Nat) : Int) = (i : Int) + 1 := by omega
      rw [e1]; exact he2
    · have lb : b < s.heap.objs.size := by
        have z : b = e ∨ b = it := by simpa using hb
        rcases z with z | z
        · rw [z]; exact le
        · rw [z]; exact li
      rw [upd_ne (Nat.ne_of_lt lb)]
      exact (hf b hb).1
  done := by
    intro X hP hw hK hc i pins s σ H E I hf st hg
    subst hP hw hK
    obtain ⟨⟨old, he⟩, hit, ne, ea⟩ := st
    obtain ⟨xs, hq, hx⟩ := hg
    obtain ⟨its, rv, p, hz⟩ := I.tuple hq
    obtain ⟨f0, f1, f2, f3, f4, f5⟩ := hf it (by simp)
    have el := rv.length
    exact enum_endT (I.ok.hd hc) he hit p (by simp; omega) fun g eb => ⟨rfl, I.turned (t' := s.toks) (fun b o hb q => eb b o hb q) f0 f1 f3 f4 f5⟩
  self := fun A i s Q E st h => let ⟨⟨_, he⟩, _⟩ := st; wpAny_pyIter_enum he h
def iEnumT (K : Frg) (ta : TA) : TI := fun σ H R => ta σ H fun vs H1 => ∃ a xs, vs = [.ref a] ∧ SqT K H1 a xs ∧ R (IteT K a) H1
theorem pi_enumT {X : Cx} {e : Expr} {ta : TA} {p pos tpos : Pos} {elts : List Expr} {kk : Nat} (hg : Gl X "enumerate") (hm : X.mg "enumerate" = none) (ha : PA X [e] ta) (hs : starEach [e] X.env = [(false, eval e X.env)] := by rfl) :
    PI X (.Tuple elts kk tpos) (.Call (.Name "enumerate" p) [e] [] pos) (iEnumT X.K ta) := by
  refine ⟨fun pins s σ H R I h => Call_ (ld_blt I hg hm boot_enumerate (PyProof.Rows.callWith_type1 (thn (ha.run pos pins s σ H _ I h) fun us s1 ⟨vs, H1, I1, r1, a, xs, ex, hq, q⟩ => ?_) hs rfl))⟩
  subst ex
  cases r1 with
  | cons r rr =>
    cases rr
    cases r
    obtain ⟨its, rv, tp, hz⟩ := I1.tuple hq
    have la : a < s1.heap.objs.size := by obtain ⟨o, ho, _⟩ := tp; exact Heap.lt_size ho
    refine call_enumT tp fun g he hit hk => wpAny_pyIter_enum he ?_
    refine ⟨s1.heap.objs.size + 1, [s1.heap.objs.size + 1, s1.heap.objs.size], _, _, H1, rfl, I1.kept (t' := s1.toks) hk, turn_enumT a (s1.heap.objs.size + 1) s1.heap.objs.size (Nat.ne_of_lt la), ⟨⟨.none, he⟩, hit, Nat.succ_ne_self _, Nat.ne_of_gt (Nat.lt_succ_of_lt la)⟩, fun b hb => ?_, q⟩
    have z : b = s1.heap.objs.size + 1 ∨ b = s1.heap.objs.size := by simpa using hb
    have lb : s1.heap.objs.size ≤ b := by
      rcases z with z | z
      · rw [z]; exact Nat.le_add_right _ _
      · rw [z]; exact Nat.le_refl _
    exact I1.fpOk lb (I1.hok.fresh lb)
end
section
variable {K : Frg}
theorem wa_enumT {F : Hp} {a : Addr} {vs : List V} {ds : List PyData} (h : SqT K F a vs) (hd : DsAll K F vs ds) : WalkA K F (IteT K a) (enumD 0 ds) where
  goes := fun H i s hi => by
    rw [enumD_len] at hi
    obtain ⟨x, e, _⟩ := dps_get hd (List.getElem?_eq_getElem hi)
    exact ⟨vs, x, Same.sqt s h, e⟩
  stops := fun H s => ⟨vs, Same.sqt s h, by rw [dps_len hd, enumD_len]; exact Nat.le_refl _⟩
  ylds := fun F' H M i x H' d s ok e y => by
    obtain ⟨T, u, rfl, hT, rfl, y1⟩ := y
    obtain ⟨d1, g1, rfl⟩ := enumD_get e
    obtain ⟨u', e1, e2⟩ := dps_get hd g1
    have z1 := y1 vs (Same.sqt (s.trans ok.same) h)
    rw [e1] at z1; cases z1
    rw [Nat.zero_add]
    exact pair_new ok hT (.int _) (dp_mono s _ _ e2)
def iEnT (β : AA) : AI := fun ρ M Q => β ρ M fun xs M1 => ∃ ds, xs = [.d (.tuple ds)] ∧ Q (enumD 0 ds) M1
theorem si_enumT {t : TA} {β : AA} (h : SA K t β) : SI K (iEnumT K t) (iEnT β) := by
  intro ρ M Qa σ F H R ok qa k
  refine h ρ M _ σ F H _ ok qa fun xs M1 vs F1 H1 ⟨ds, e, q⟩ s1 ok1 r1 => ?_
  subst e
  cases r1 with
  | cons r1 rr =>
    cases rr
    obtain ⟨a, us, rfl, h1, h2⟩ := rep_tup r1
    exact ⟨a, us, rfl, okM_sqt ok1.toOkM h1, k _ M1 F1 H1 _ q s1 ok1 (wa_enumT h1 h2)⟩
end
/-! ### list.remove of texts -/
def eqT (k : Str) (v : Value) : Bool := match v with
  | .str x _ => x == k
  | _ => false
def rRemS : V → List V → Hp → VK → Prop := fun x xs H Q => ∃ (l : Addr) (ns : List Str) (k : Str) (j : Nat), x = .ref l ∧ xs = [.str k] ∧ H l = some (.lst (ns.map V.str)) ∧ ns[j]? = some k ∧ (∀ m : Nat, m < j → ns[m]? ≠ some k) ∧ Q .non (upd H l (.lst ((ns.eraseIdx j).map V.str)))
theorem vals_at {ns : List Str} {us : List Value} {j : Nat} {k : Str} (r : Vals (ns.map V.str) us) (e : ns[j]? = some k) : ∃ t, us[j]? = some (.str k t) := by
  obtain ⟨u, hu, t, ht⟩ := r.get (i := j) (x := .str k) (by rw [List.getElem?_map, e]; rfl)
  exact ⟨t, by rw [hu, ht]⟩
theorem eqT_gives {k : Str} {t : Tok} {ns : List Str} {us : List Value} (r : StrsAre us ns) : ∀ y ∈ us, MeetsSeq.EqGives y (.str k t) (eqT k y) := by
  induction r with
  | nil => intro y h; simp at h
  | cons x u h ih =>
    intro y hy
    rcases List.mem_cons.mp hy with z | z
    · subst z; exact eqGives_str x k u t
    · exact ih y z
theorem erase_mapS : ∀ (l : List Str) (j : Nat), (l.map V.str).eraseIdx j = (l.eraseIdx j).map V.str
  | [], j => by simp
  | a :: r, 0 => by simp
  | a :: r, j + 1 => by simp [erase_mapS r j]
section
variable {X : Cx}
theorem mt_remS : MtM X "list.remove" rRemS := by
  intro pins s σ H x xs v us Q I rx rxs ⟨l, ns, k, j, ex, exs, hH, hj, hno, q⟩
  subst ex; subst exs
  cases rx
  obtain ⟨u, eu, t, ru⟩ := rxs.one
  subst eu; subst ru
  obtain ⟨z, its, n, r, hl, e⟩ := I.lstM hH
  have hs := strsAre_of r
  rw [List.length_map] at hl z
  have hjn : j < ns.length := (List.getElem?_eq_some_iff.mp hj).1
  have hjl : j < its.toArray.size := by rw [List.size_toArray]; omega
  refine call_meets PySem.F.slot_list_remove ⟨_, e, rfl⟩ PySem.F.entry_list_remove (PySem.F.args_list_remove_2 _ _)
    (MeetsSeq.list_remove l its.toArray n (.str k t) (eqT k) (fun y hy => eqT_gives hs y (by simpa using hy)) j hjl ?_ ?_ (by rw [List.size_toArray]; omega)) ⟨e, ?_⟩
  · obtain ⟨tj, hjt⟩ := vals_at r hj
    obtain ⟨h1, h2⟩ := List.getElem?_eq_some_iff.mp hjt
    rw [show its.toArray[j] = .str k tj by simpa using h2]
    exact beq_self_eq_true k
  · intro m hm hmj
    have hmn : m < ns.length := by omega
    obtain ⟨tm, hmt⟩ := vals_at r (List.getElem?_eq_getElem hmn)
    obtain ⟨h1, h2⟩ := List.getElem?_eq_some_iff.mp hmt
    rw [show its.toArray[m] = .str ns[m] tm by simpa using h2]
    refine beq_eq_false_iff_ne.mpr fun e2 => hno m hmj ?_
    rw [List.getElem?_eq_getElem hmn, e2]
  · have rr := r.eraseIdx j
    rw [erase_mapS] at rr
    refine ⟨.non, _, I.lset (its' := its.eraseIdx j) (t' := s.toks) hH e ?_ rr ?_, rfl, q⟩
    · show its.toArray.eraseIdxIfInBounds j = (its.eraseIdx j).toArray
      rw [List.eraseIdxIfInBounds_toArray]
    · rw [List.length_map]
      exact Nat.le_trans (List.length_eraseIdx_le ..) z
end
section
variable {K : Frg}
def txV (ns : List Str) : List Va := (strsD ns).map .d
theorem rep_txV {F : Hp} {ns : List Str} {vs : List V} (h : Paired (Rep K F) vs (txV ns)) : vs = ns.map V.str := rep_strs (dats_rep (dats_map _) h)
def RRem : AM := fun x xs M Q => ∃ a ns k j l1 l2, x = .m a ∧ xs = [.d (.str k)] ∧ M = l1 ++ (a, .lst (txV ns)) :: l2 ∧ ns[j]? = some k ∧ (∀ m : Nat, m < j → ns[m]? ≠ some k) ∧ Q (.d .none) (l1 ++ (a, .lst (txV (ns.eraseIdx j))) :: l2)
theorem sm_remS : SM K rRemS RRem := by
  intro x xs M Qa v vs F H Q ok r rs ⟨a, ns, k, j, l1, l2, ex, exs, em, hj, hno, q⟩ kk
  subst ex; subst exs; subst em
  have e' : v = .ref a := r
  subst e'
  cases rs with
  | cons r1 rr =>
    cases rr
    obtain ⟨ws, h1, h2⟩ := ok.mid
    have ew := rep_txV h2
    subst ew
    refine ⟨a, ns, k, j, rfl, by rw [rep_str r1], h1, hj, hno, ?_⟩
    exact kk _ _ _ F _ q (Same.refl _) (OkM.write ok ⟨_, upd_same, rep_map strs_rep⟩) .non
end
end LN
namespace LN
open PySem PySem.Spec PyProof.Rows L2 SlX
section
variable {X : Cx}
/-- list(x), x a text -/
def rListS : List V → Hp → VK → Prop := fun xs H Q => ∃ z : Str, xs = [.str z] ∧ z.cps.size ≤ 1000 ∧ ∀ l, H l = none → Q (.ref l) (upd H l (.lst (z.cps.toList.map fun c => V.str ⟨#[c]⟩)))
theorem signs_vals {z : Str} {acc : Array Value} (h : ItemsOf (SignAt z) acc z.cps.size) : Vals (z.cps.toList.map fun c => V.str ⟨#[c]⟩) acc.toList := by
  obtain ⟨h1, h2⟩ := h
  have key : ∀ (l : List Nat) (us : List Value), us.length = l.length → (∀ (j : Nat) v, us[j]? = some v → ∃ c u, l[j]? = some c ∧ v = .str ⟨#[c]⟩ u) → Vals (l.map fun c => V.str ⟨#[c]⟩) us := by
    intro l
    induction l with
    | nil =>
      intro us e _
      cases us with
      | nil => exact .nil
      | cons _ _ => simp at e
    | cons c r ih =>
      intro us e h
      cases us with
      | nil => simp at e
      | cons v vs =>
        obtain ⟨c', u, e1, e2⟩ := h 0 v rfl
        have e3 : c = c' := Option.some.inj e1
        subst e3
        exact .cons ⟨u, e2⟩ (ih vs (by simpa using e) fun j v hv => by
          obtain ⟨c2, u2, e4, e5⟩ := h (j + 1) v (by simpa using hv)
          exact ⟨c2, u2, by simpa using e4, e5⟩)
  refine key z.cps.toList acc.toList (by rw [Array.length_toList, Array.length_toList, h1]) fun j v hv => ?_
  obtain ⟨c, u, e1, e2⟩ := h2 j v (by rw [← Array.getElem?_toList]; exact hv)
  exact ⟨c, u, by rw [Array.getElem?_toList]; exact e1, e2⟩
theorem call_listS (hc : X.calm = true) : CallR X (.type "list") rListS := by
  intro pins s σ H xs us Q I r ⟨z, ex, hz, q⟩
  subst ex
  obtain ⟨u, eu, t, rx⟩ := vals1 r
  subst eu; subst rx
  have hs : z.cps.size ≤ sizeLine := by rw [sizeLine_eq]; omega
  refine call_list_str (I.ok.hd hc) z t (fun g tk acc n kp ho hi => ?_) hs
  have rv := signs_vals hi
  have hl : (z.cps.toList.map fun c => V.str ⟨#[c]⟩).length ≤ sizeLine := by rw [List.length_map, Array.length_toList]; exact hs
  exact ⟨.ref s.heap.objs.size, _, I.laid (t' := tk) kp (Nat.le_refl _) (show ObjOk X.prog X.w _ _ _ (.lst _) from ⟨hl, acc.toList, n, rv, ho⟩), rfl, q _ (I.hok.fresh (Nat.le_refl _))⟩
end
section
variable {K : Frg}
def RListS : AN := fun xs M Q => ∃ z : Str, xs = [.d (.str z)] ∧ z.cps.size ≤ 1000 ∧ ∀ p, Q (.m p) ((p, .lst ((charsD z).map .d)) :: M)
theorem sn_listS : SN K rListS RListS := by
  intro xs M Qa vs F H Q ok r ⟨z, e, hz, q⟩ k
  subst e
  cases r with
  | cons r1 rr =>
    cases rr
    refine ⟨z, by rw [rep_str r1], hz, fun l hl => k _ _ _ F _ (q l) (Same.refl _) (ok.made hl ⟨_, upd_same, rep_map ?_⟩) rfl⟩
    unfold charsD
    generalize z.cps.toList = l
    induction l with
    | nil => exact .nil
    | cons c r ih => exact .cons (.str _) ih
/-- a mutable list, from now on data -/
def aFrz (α : AE) : AE := fun ρ M Q => α ρ M fun x M1 => ∃ a xs ds l1 l2, x = .m a ∧ M1 = l1 ++ (a, .lst xs) :: l2 ∧ dats xs = some ds ∧ Q (.d (.list ds)) (l1 ++ l2)
theorem se_frz {t : TE} {α : AE} (h : SE K t α) : SE K t (aFrz α) := by
  intro ρ M Qa σ F H Q ok qa k
  refine h ρ M _ σ F H _ ok qa fun x M1 v F1 H1 ⟨a, xs, ds, l1, l2, ex, em, ed, q⟩ s1 ok1 r1 => ?_
  subst ex; subst em
  have e' : v = .ref a := r1
  subst e'
  obtain ⟨F2, s2, ok2, d⟩ := (ok1.toOkM.perm List.perm_middle).freeze ed
  exact k _ _ _ F2 H1 q (s1.trans s2) ⟨ok2, env_mono s2 ok1.env⟩ d
end
end LN
namespace LN
open PySem PySem.Spec PyProof.Rows L2 SlX
section
variable {K : Frg}
/-! ### passing tuples of any kind -/
theorem repB_v {F : Hp} {v : V} : ∀ {b : Vb}, RepB K F v b ↔ Rep K F v b.v
  | .d _ => Iff.rfl
  | .m _ => Iff.rfl
  | .o _ _ => Iff.rfl
theorem repsB {F : Hp} : ∀ {bs : List Vb} {vs : List V}, Paired (Rep K F) vs (bs.map Vb.v) ↔ Paired (RepB K F) vs bs
  | [], vs => by
    constructor <;> intro h <;> cases h <;> exact .nil
  | b :: bs, vs => by
    constructor
    · intro h
      cases h with
      | cons h1 h2 => exact .cons (repB_v.mpr h1) (repsB.mp h2)
    · intro h
      cases h with
      | cons h1 h2 => exact .cons (repB_v.mp h1) (repsB.mpr h2)
def aTupP (α : AA) : AE := fun ρ M Q => α ρ M fun xs M1 => ∃ bs : List Vb, xs = bs.map Vb.v ∧ bs.length ≤ 1000000 ∧ Q (.p bs) M1
theorem se_tupP {t : TA} {α : AA} (h : SA K t α) : SE K (tTupS t) (aTupP α) := by
  intro ρ M Qa σ F H Q ok qa k
  refine h ρ M _ σ F H _ ok qa fun xs M1 vs F1 H1 q1 s1 ok1 r1 => ?_
  obtain ⟨bs, e, hl, q⟩ := q1
  rw [e] at r1
  refine ⟨by rw [pair_len r1, List.length_map]; exact size_ok hl, fun p o hp hc hd => ?_⟩
  obtain ⟨ok2, s2⟩ := ok1.toOkM.frozen (o := .frz o (.tup vs)) hp
  exact k _ M1 _ _ _ q (s1.trans s2) ⟨ok2, env_mono s2 ok1.env⟩ ⟨_, vs, rfl, .inl (.inr ⟨o, upd_same⟩), L2.Paired.mapP (repsB.mp r1) fun _ _ => repB_mono s2⟩
def gTpP (n : Nat) (b : AGs) : AG := fun x ρ M N => ∃ bs : List Vb, x = .p bs ∧ bs.length = n ∧ b (bs.map Vb.v) ρ M N
theorem sg_tupP {n : Nat} {gs : TGs} {b : AGs} (h : SGs K gs b) : SG K (gTup K n gs) (gTpP n b) := by
  intro x ρ M Na v σ F H N ok r ⟨bs, e, hl, q⟩ k
  subst e
  obtain ⟨a, xs, rfl, h1, h2⟩ := r
  exact ⟨a, xs, rfl, okM_sqt ok.toOkM h1, by rw [pair_len h2]; exact hl, h (bs.map Vb.v) ρ M Na xs σ F H N ok (repsB.mpr h2) q k⟩
theorem wa_tupP {F : Hp} {a : Addr} {vs : List V} {bs : List Vb} (h : SqT K F a vs) (hd : Paired (RepB K F) vs bs) : WalkA K F (Itt K a) (bs.map Vb.v) where
  goes := fun H i s hi => by
    rw [List.length_map] at hi
    obtain ⟨x, e, _⟩ := paired_get hd (List.getElem?_eq_getElem hi)
    exact ⟨vs, x, Same.sqt s h, e⟩
  stops := fun H s => ⟨vs, Same.sqt s h, by rw [pair_len hd, List.length_map]; exact Nat.le_refl _⟩
  ylds := fun F' H M i x H' d s ok e y => by
    obtain ⟨eH, y⟩ := y
    subst eH
    obtain ⟨v, e1, e2⟩ := paired_get (repsB.mpr hd) e
    have e3 := y vs (Same.sqt (s.trans ok.same) h)
    rw [e1] at e3
    cases e3
    exact ⟨F', Same.refl _, ok, rep_mono s e2⟩
def iTpP (α : AE) : AI := fun ρ M Q => α ρ M fun x M1 => ∃ bs : List Vb, x = .p bs ∧ Q (bs.map Vb.v) M1
theorem si_tupP {t : TE} {α : AE} (h : SE K t α) : SI K (iTup K t) (iTpP α) := by
  intro ρ M Qa σ F H R ok qa k
  refine h ρ M _ σ F H _ ok qa fun x M1 v F1 H1 ⟨bs, e, q⟩ s1 ok1 r1 => ?_
  subst e
  obtain ⟨a, vs, rfl, h1, h2⟩ := r1
  exact ⟨a, rfl, ⟨vs, okM_sqt ok1.toOkM h1⟩, k _ M1 F1 H1 _ q s1 ok1 (wa_tupP h1 h2)⟩
end
end LN
namespace LN
open PySem PySem.Spec PyProof.Rows L2 SlX

/-! ### plain data: no bools, no dicts, not too deep -/
def Leaf (d : PyData) : Prop := d = .none ∨ (∃ i, d = .int i) ∨ ∃ x, d = .str x ∧ PyData.strOk x = true
def Pl : Nat → PyData → Prop
  | 0, d => Leaf d
  | n + 1, d => Leaf d ∨ ∃ ds, (d = .list ds ∨ d = .tuple ds) ∧ ∀ x ∈ ds, Pl n x
theorem pl_int {n : Nat} {i : Int} : Pl n (.int i) := by cases n <;> simp [Pl, Leaf]
theorem pl_str {n : Nat} {i : Str} (h : PyData.strOk i = true) : Pl n (.str i) := by cases n <;> simp [Pl, Leaf, h]
theorem pl_none {n : Nat} : Pl n .none := by cases n <;> simp [Pl, Leaf]
theorem pl_list {n : Nat} {ds : List PyData} (h : ∀ x ∈ ds, Pl n x) : Pl (n + 1) (.list ds) := .inr ⟨ds, .inl rfl, h⟩
theorem pl_tuple {n : Nat} {ds : List PyData} (h : ∀ x ∈ ds, Pl n x) : Pl (n + 1) (.tuple ds) := .inr ⟨ds, .inr rfl, h⟩
theorem pl_up : ∀ {n : Nat} {d : PyData}, Pl n d → Pl (n + 1) d
  | 0, d, h => .inl h
  | n + 1, d, h => by
    rcases h with h | ⟨ds, e, h⟩
    · exact .inl h
    · exact .inr ⟨ds, e, fun x hx => pl_up (h x hx)⟩
theorem pl_le {n m : Nat} {d : PyData} (h : Pl n d) (hm : n ≤ m) : Pl m d := by
  induction hm with
  | refl => exact h
  | step _ ih => exact pl_up ih
theorem lay_all {n : Nat} (ih : ∀ x, Pl n x → x.canLay0 = true ∧ x.depth ≤ n) : ∀ ds : List PyData, (∀ x ∈ ds, Pl n x) → PyData.canLayAll0 ds = true ∧ PyData.depthAll ds ≤ n
  | [], _ => ⟨by simp only [PyData.canLayAll0], by simp only [PyData.depthAll]; exact Nat.zero_le _⟩
  | x :: ds, h => by
    obtain ⟨h1, h2⟩ := ih x (h x List.mem_cons_self)
    obtain ⟨h3, h4⟩ := lay_all ih ds fun y hy => h y (List.mem_cons_of_mem _ hy)
    simp only [PyData.canLayAll0, PyData.depthAll, h1, h3, Bool.and_self, true_and]
    exact Nat.max_le.mpr ⟨h2, h4⟩
theorem leaf_lay {n : Nat} {d : PyData} (h : Leaf d) : d.canLay0 = true ∧ d.depth ≤ n := by
  rcases h with h | ⟨i, h⟩ | ⟨x, h, hx⟩
  · subst h; exact ⟨by simp only [PyData.canLay0], by simp only [PyData.depth]; exact Nat.zero_le _⟩
  · subst h; exact ⟨by simp only [PyData.canLay0], by simp only [PyData.depth]; exact Nat.zero_le _⟩
  · subst h; exact ⟨by simp only [PyData.canLay0, hx], by simp only [PyData.depth]; exact Nat.zero_le _⟩
theorem pl_lay : ∀ (n : Nat) (d : PyData), Pl n d → d.canLay0 = true ∧ d.depth ≤ n
  | 0, d, h => leaf_lay h
  | n + 1, d, h => by
    rcases h with h | ⟨ds, e, h⟩
    · exact leaf_lay h
    · obtain ⟨h1, h2⟩ := lay_all (pl_lay n) ds h
      rcases e with e | e
      · subst e
        exact ⟨by simpa only [PyData.canLay0] using h1, by simp only [PyData.depth]; omega⟩
      · subst e
        exact ⟨by simpa only [PyData.canLay0] using h1, by simp only [PyData.depth]; omega⟩
theorem pl_shaped {n : Nat} {d : PyData} (h : Pl n d) (hn : n ≤ 64 := by decide) : SeqAt.shaped d = true := by
  obtain ⟨h1, h2⟩ := pl_lay n d h
  unfold SeqAt.shaped
  rw [h1, Bool.true_and]
  exact decide_eq_true (Nat.le_trans h2 hn)
theorem eqv_all {n m : Nat} (ih : ∀ a b, Pl n a → Pl m b → (PyData.eqv a b = true ↔ a = b)) : ∀ xs ys : List PyData, (∀ x ∈ xs, Pl n x) → (∀ x ∈ ys, Pl m x) → (PyData.eqvAll xs ys = true ↔ xs = ys)
  | [], [], _, _ => by simp [PyData.eqvAll]
  | [], _ :: _, _, _ => by simp [PyData.eqvAll]
  | _ :: _, [], _, _ => by simp [PyData.eqvAll]
  | x :: xs, y :: ys, h, k => by
    have h1 := ih x y (h x List.mem_cons_self) (k y List.mem_cons_self)
    have h2 := eqv_all ih xs ys (fun z hz => h z (List.mem_cons_of_mem _ hz)) fun z hz => k z (List.mem_cons_of_mem _ hz)
    simp only [PyData.eqvAll, Bool.and_eq_true, h1, h2, List.cons.injEq]
theorem eqv_leaf {a b : PyData} (h : Leaf a) (k : Leaf b) : PyData.eqv a b = true ↔ a = b := by
  rcases h with h | ⟨i, h⟩ | ⟨x, h, _⟩ <;> rcases k with k | ⟨j, k⟩ | ⟨y, k, _⟩ <;> subst h <;> subst k <;> simp [PyData.eqv]
theorem eqv_mix {a : PyData} {ds : List PyData} (h : Leaf a) : (PyData.eqv a (.list ds) = false ∧ PyData.eqv a (.tuple ds) = false) ∧ (PyData.eqv (.list ds) a = false ∧ PyData.eqv (.tuple ds) a = false) ∧ a ≠ .list ds ∧ a ≠ .tuple ds := by
  rcases h with h | ⟨i, h⟩ | ⟨x, h, _⟩ <;> subst h <;> simp [PyData.eqv]
theorem eqv_pl : ∀ (n m : Nat) (a b : PyData), Pl n a → Pl m b → (PyData.eqv a b = true ↔ a = b)
  | 0, 0, a, b, h, k => eqv_leaf h k
  | 0, m + 1, a, b, h, k => by
    rcases k with k | ⟨ds, k, _⟩
    · exact eqv_leaf h k
    · have z := eqv_mix (ds := ds) h
      rcases k with k | k <;> subst k
      · rw [z.1.1]; simp [z.2.2.1]
      · rw [z.1.2]; simp [z.2.2.2]
  | n + 1, 0, a, b, h, k => by
    rcases h with h | ⟨ds, h, _⟩
    · exact eqv_leaf h k
    · have z := eqv_mix (ds := ds) k
      rcases h with h | h <;> subst h
      · rw [z.2.1.1]; simp [z.2.2.1.symm]
      · rw [z.2.1.2]; simp [z.2.2.2.symm]
  | n + 1, m + 1, a, b, h, k => by
    rcases h with h | ⟨ds, h, hd⟩
    · rcases k with k | ⟨es, k, _⟩
      · exact eqv_leaf h k
      · have z := eqv_mix (ds := es) h
        rcases k with k | k <;> subst k
        · rw [z.1.1]; simp [z.2.2.1]
        · rw [z.1.2]; simp [z.2.2.2]
    · rcases k with k | ⟨es, k, ke⟩
      · have z := eqv_mix (ds := ds) k
        rcases h with h | h <;> subst h
        · rw [z.2.1.1]; simp [z.2.2.1.symm]
        · rw [z.2.1.2]; simp [z.2.2.2.symm]
      · have q := eqv_all (eqv_pl n m) ds es hd ke
        rcases h with h | h <;> rcases k with k | k <;> subst h <;> subst k
        · simp only [PyData.eqv, q, PyData.list.injEq]
        · simp [PyData.eqv]
        · simp [PyData.eqv]
        · simp only [PyData.eqv, q, PyData.tuple.injEq]
theorem eqv_dec {n m : Nat} {a b : PyData} {p : Prop} [Decidable p] (h : Pl n a) (k : Pl m b) (e : a = b ↔ p) : PyData.eqv a b = decide p := by
  have q := (eqv_pl n m a b h k).trans e
  by_cases hp : p
  · rw [decide_eq_true hp]; exact q.mpr hp
  · rw [decide_eq_false hp]
    cases z : PyData.eqv a b with
    | false => rfl
    | true => exact absurd (q.mp z) hp

/-! ### fractions -/
theorem pl_fr {n : Nat} (q : Rat) : Pl (n + 1) (fr q) := pl_tuple fun x hx => by
  simp only [List.mem_cons, List.not_mem_nil, or_false] at hx
  rcases hx with h | h <;> subst h <;> exact pl_int
theorem fr_inj {a b : Rat} : fr a = fr b ↔ a = b := by
  constructor
  · intro h
    unfold fr at h
    injection h with h
    injection h with h1 h2
    injection h2 with h2 _
    injection h1 with h1
    injection h2 with h2
    exact Rat.ext h1 (by omega)
  · intro h; rw [h]
theorem eqv_fr (a b : Rat) : PyData.eqv (fr a) (fr b) = decide (a = b) := eqv_dec (pl_fr (n := 0) a) (pl_fr (n := 0) b) fr_inj
def eD : Option Rat → PyData
  | none => .none
  | some q => fr q
theorem pl_eD {n : Nat} (q : Option Rat) : Pl (n + 1) (eD q) := by
  cases q with
  | none => exact pl_none
  | some q => exact pl_fr q
theorem eD_inj {a b : Option Rat} : eD a = eD b ↔ a = b := by
  constructor
  · intro h
    cases a <;> cases b
    · rfl
    · unfold eD fr at h; cases h
    · unfold eD fr at h; cases h
    · rw [fr_inj.mp h]
  · intro h; rw [h]

/-! ### lists of pairs -/
section
variable {α : Type}
def getP (l : List (Str × α)) (k : Str) : Option α := (l.find? fun p => decide (p.1 = k)).map (·.2)
def putP (l : List (Str × α)) (k : Str) (v : α) : List (Str × α) :=
  if (l.any fun p => decide (p.1 = k)) = true then l.map (fun p => if p.1 = k then (p.1, v) else p) else l ++ [(k, v)]
theorem getP_nil (k : Str) : getP ([] : List (Str × α)) k = none := rfl
theorem getP_cons (p : Str × α) (l : List (Str × α)) (k : Str) : getP (p :: l) k = if p.1 = k then some p.2 else getP l k := by
  unfold getP
  by_cases e : p.1 = k
  · rw [if_pos e, List.find?_cons_of_pos (by simpa using e)]; rfl
  · rw [if_neg e, List.find?_cons_of_neg (by simpa using e)]
theorem getP_app (l m : List (Str × α)) (k : Str) : getP (l ++ m) k = (getP l k).or (getP m k) := by
  induction l with
  | nil => rfl
  | cons p l ih =>
    rw [List.cons_append, getP_cons, getP_cons, ih]
    split <;> rfl
theorem getP_none {l : List (Str × α)} {k : Str} : getP l k = none ↔ k ∉ l.map (·.1) := by
  induction l with
  | nil => simp [getP_nil]
  | cons p l ih =>
    rw [getP_cons, List.map_cons, List.mem_cons]
    by_cases e : p.1 = k
    · rw [if_pos e]; simp [e]
    · rw [if_neg e, ih]
      simp only [not_or]
      exact ⟨fun h => ⟨fun z => e z.symm, h⟩, fun h => h.2⟩
theorem any_key {l : List (Str × α)} {k : Str} : (l.any fun p => decide (p.1 = k)) = true ↔ k ∈ l.map (·.1) := by
  simp only [List.any_eq_true, decide_eq_true_eq, List.mem_map]
theorem get_map (l : List (Str × α)) (k : Str) (v : α) (j : Str) : getP (l.map fun p => if p.1 = k then (p.1, v) else p) j = if j = k then (getP l k).map fun _ => v else getP l j := by
  induction l with
  | nil =>
    show none = if j = k then none else none
    split <;> rfl
  | cons p l ih =>
    rw [List.map_cons, getP_cons, ih, getP_cons, getP_cons]
    by_cases e : p.1 = k
    · by_cases h : j = k
      · subst h; simp [e]
      · have z : ¬ p.1 = j := fun z => h (z.symm.trans e)
        simp [e, h, z, Ne.symm h]
    · by_cases h : j = k
      · subst h; simp [e]
      · simp [e, h]
theorem getP_put (l : List (Str × α)) (k : Str) (v : α) (j : Str) : getP (putP l k v) j = if j = k then some v else getP l j := by
  unfold putP
  split
  · rename_i h
    rw [get_map]
    split
    · cases q : getP l k with
      | some _ => rfl
      | none => exact absurd (any_key.mp h) (getP_none.mp q)
    · rfl
  · rename_i h
    rw [getP_app, getP_cons, getP_nil]
    by_cases e : j = k
    · rw [if_pos e, e, if_pos rfl, getP_none.mpr fun z => h (any_key.mpr z)]; rfl
    · rw [if_neg e, if_neg (Ne.symm e)]
      cases getP l j <;> rfl
theorem putP_keys (l : List (Str × α)) (k : Str) (v : α) : (putP l k v).map (·.1) = if k ∈ l.map (·.1) then l.map (·.1) else l.map (·.1) ++ [k] := by
  unfold putP
  by_cases h : k ∈ l.map (·.1)
  · rw [if_pos (any_key.mpr h), if_pos h, List.map_map]
    refine List.map_congr_left fun p _ => ?_
    show (if p.1 = k then (p.1, v) else p).1 = p.1
    split <;> rfl
  · rw [if_neg fun z => h (any_key.mp z), if_neg h, List.map_append]; rfl
theorem putP_len (l : List (Str × α)) (k : Str) (v : α) : (putP l k v).length ≤ l.length + 1 := by
  unfold putP
  split
  · rw [List.length_map]; omega
  · rw [List.length_append]; exact Nat.le_refl _
theorem putP_new {l : List (Str × α)} {k : Str} (v : α) (h : k ∉ l.map (·.1)) : putP l k v = l ++ [(k, v)] := by
  unfold putP
  rw [if_neg fun z => h (any_key.mp z)]
/-- .. as a dict's content -/
def asK (f : α → PyData) (l : List (Str × α)) : List (Str × Va) := l.map fun p => (p.1, .d (f p.2))
theorem asK_get (f : α → PyData) (l : List (Str × α)) (k : Str) : getA (asK f l) k = (getP l k).map fun a => .d (f a) := by
  induction l with
  | nil => rfl
  | cons p l ih =>
    have e : getA (asK f (p :: l)) k = if p.1 = k then some (.d (f p.2)) else getA (asK f l) k := getP_cons (α := Va) (p.1, .d (f p.2)) (asK f l) k
    rw [e, ih, getP_cons]
    split <;> rfl
theorem asK_put (f : α → PyData) (l : List (Str × α)) (k : Str) (a : α) : putD (asK f l) k (.d (f a)) = asK f (putP l k a) := by
  have ha : ((asK f l).any fun kv => decide (kv.1 = k)) = l.any fun p => decide (p.1 = k) := by
    unfold asK
    rw [List.any_map]
    rfl
  unfold putD putP
  rw [ha]
  split
  · unfold asK
    rw [List.map_map, List.map_map]
    refine List.map_congr_left fun p _ => ?_
    show (if p.1 = k then (p.1, Va.d (f a)) else (p.1, .d (f p.2))) = ((if p.1 = k then (p.1, a) else p).1, Va.d (f (if p.1 = k then (p.1, a) else p).2))
    split <;> rfl
  · unfold asK
    rw [List.map_append]
    rfl
theorem asK_len (f : α → PyData) (l : List (Str × α)) : (asK f l).length = l.length := by unfold asK; rw [List.length_map]
end
end LN
namespace LN
open PySem PySem.Spec PyProof.Rows L2 SlX

/-- where a channel has let the limit through -/
def cutGo (lim : Rat) : Rat → Rat → List (Option Rat) → List Rat → Option Rat
  | got, b, none :: _, s :: _ => if s = 0 then none else some (b + (lim - got) / s)
  | got, b, some e :: es, s :: row => if got + s * (e - b) < lim then cutGo lim (got + s * (e - b)) e es row else some (b + (lim - got) / s)
  | _, _, _, _ => none
def cutAt (ends : List (Option Rat)) (row : List Rat) (lim : Rat) : Option Rat := if lim = 0 then some 0 else cutGo lim 0 0 ends row
/-- the numbers on the way are small, the divisors not naught -/
def CutOk (lim : Rat) : Rat → Rat → List (Option Rat) → List Rat → Prop
  | got, b, none :: _, s :: _ => (Fit got ∧ Fit b ∧ Fit s ∧ got ≤ lim) ∧ (s ≠ 0 → 0 < s ∧ Fit (lim - got) ∧ Fit ((lim - got) / s))
  | got, b, some e :: es, s :: row => (Fit got ∧ Fit b ∧ Fit s ∧ got ≤ lim) ∧ (Fit e ∧ b ≤ e ∧ Fit (e - b) ∧ Fit (s * (e - b)) ∧ Fit (got + s * (e - b))) ∧
      (got + s * (e - b) < lim → CutOk lim (got + s * (e - b)) e es row) ∧ (¬ got + s * (e - b) < lim → 0 < s ∧ Fit (lim - got) ∧ Fit ((lim - got) / s))
  | _, _, _, _ => True
theorem fit0 : Fit 0 := ⟨Rat.le_refl, by decide, by decide⟩
theorem sh_fr (q : Rat) : SeqAt.shaped (fr q) = true := pl_shaped (pl_fr (n := 0) q)
def rowD (r : List Rat) : PyData := .list (r.map fr)
def endsD (es : List (Option Rat)) : PyData := .list (es.map eD)

section
variable {P : Program} {w : World} {K : Frg} {mg : Str → Option Value} {base : Heap}

def R_cut_at : AN := fun xs M Q => ∃ (es : List (Option Rat)) (row : List Rat) (lim : Rat), xs = [.d (endsD es), .d (rowD row), .d (fr lim)] ∧ Fit lim ∧ (lim ≠ 0 → CutOk lim 0 0 es row) ∧ Q (.d (eD (cutAt es row lim))) M
abbrev N_cut_at : List Str := ["ends", "flows", "limit", "got", "before", "end", "share", "here"]
theorem sc_cut_at : FnScope N_cut_at ["ends", "flows", "limit"] (L2.defScope s_cut_at) := ⟨rfl, rfl, rfl, by decide +kernel, rfl, by decide +kernel, by decide +kernel⟩
set_option maxHeartbeats 4000000 in
theorem kp_cut_at (T : Tx K mg) (c_minus : Kp P w K mg base 3 (He.ga K "minus") ["one", "other"] R_minus) (c_over : Kp P w K mg base 3 (He.ga K "over") ["one", "other"] R_over) (c_plus : Kp P w K mg base 3 (He.ga K "plus") ["one", "other"] R_plus) (c_times : Kp P w K mg base 3 (He.ga K "times") ["one", "other"] R_times) (c_is_less : Kp P w K mg base 1 (He.ga K "is_less") ["one", "other"] R_is_less) : Kp P w K mg base 4 (He.ga K "cut_at") ["ends", "flows", "limit"] R_cut_at := by
  refine kp_n (k := 3) (T.def_ 10) sc_cut_at (fun _ _ _ _ _ _ us hl => match us, hl with | [_, _, _], _ => rfl) (fun xs M Q h => ?len) (fun cdv A outer s H E hr => ⟨_, _, ⟨
    (pss_cons (ps_par (i := 3) (j := 4) rfl sc_cut_at.nd rfl rfl (by decide) rfl rfl (pa_cons (pe_glob (v := .ref (He.ga K "NONE")) (by rfl) (T.glo 50) rfl) (pa_cons (pe_glob (v := .ref (He.ga K "NONE")) (by rfl) (T.glo 50) rfl) pa_nil)) rfl) (pss_cons (ps_if (pt_cmpR (op_eqD hr.units) (pv 2) (pe_glob (v := .ref (He.ga K "NONE")) (by rfl) (T.glo 50) rfl) (nomark _)) (pss_one (ps_ret (pe_glob (v := .ref (He.ga K "NONE")) (by rfl) (T.glo 50) rfl))) pss_nil) (pss_cons (ps_for PassesOwn.never rfl (RZ.pi_zipA (by rfl) (T.free 73) (pa_cons (pv 0) (pa_cons (pv 1) pa_nil))) (pg_tup (n := 2) rfl (pgs_cons (pg_name (i := 5) sc_cut_at.nd rfl (Or.inl rfl)) (pgs_cons (pg_name (i := 6) sc_cut_at.nd rfl (Or.inl rfl)) pgs_nil))) (pss_cons (ps_if (pt_cmpR op_isN (pv 5) pe_non (nomark _)) (pss_one (ps_ret (pe_ifExp (pt_cmpR (op_eqD hr.units) (pv 6) (pe_glob (v := .ref (He.ga K "NONE")) (by rfl) (T.glo 50) rfl) (nomark _)) pe_non (pe_def c_plus (hr.mono (by decide)) (by rfl) (T.glo 4) (pa_cons (pv 4) (pa_cons (pe_def c_over (hr.mono (by decide)) (by rfl) (T.glo 7) (pa_cons (pe_def c_minus (hr.mono (by decide)) (by rfl) (T.glo 5) (pa_cons (pv 2) (pa_cons (pv 3) pa_nil))) (pa_cons (pv 6) pa_nil))) pa_nil)))))) pss_nil) (pss_cons (ps_set (i := 7) sc_cut_at.nd rfl (Or.inl rfl) (pe_def c_times (hr.mono (by decide)) (by rfl) (T.glo 6) (pa_cons (pv 6) (pa_cons (pe_def c_minus (hr.mono (by decide)) (by rfl) (T.glo 5) (pa_cons (pv 5) (pa_cons (pv 4) pa_nil))) pa_nil)))) (pss_cons (ps_if (pt_not (pt_val (pe_def c_is_less (hr.mono (by decide)) (by rfl) (T.glo 8) (pa_cons (pe_def c_plus (hr.mono (by decide)) (by rfl) (T.glo 4) (pa_cons (pv 3) (pa_cons (pv 7) pa_nil))) (pa_cons (pv 2) pa_nil))))) (pss_one (ps_ret (pe_def c_plus (hr.mono (by decide)) (by rfl) (T.glo 4) (pa_cons (pv 4) (pa_cons (pe_def c_over (hr.mono (by decide)) (by rfl) (T.glo 7) (pa_cons (pe_def c_minus (hr.mono (by decide)) (by rfl) (T.glo 5) (pa_cons (pv 2) (pa_cons (pv 3) pa_nil))) (pa_cons (pv 6) pa_nil))) pa_nil))))) pss_nil) (pss_one (ps_par (i := 3) (j := 4) rfl sc_cut_at.nd rfl rfl (by decide) rfl rfl (pa_cons (pe_def c_plus (hr.mono (by decide)) (by rfl) (T.glo 4) (pa_cons (pv 3) (pa_cons (pv 7) pa_nil))) (pa_cons (pv 5) pa_nil)) rfl)))))) (pss_one (ps_ret pe_non))))),
    (ss_seq (ss_par (sa_cons (se_c T.c_NONE) (sa_cons (se_c T.c_NONE) sa_nil))) (ss_seq (ss_if (st_T (se_op s2_eq se_var (se_c T.c_NONE))) (ss_ret (se_c T.c_NONE)) ss_next) (ss_seq (ss_for (si_zipA (sa_cons se_var (sa_cons se_var sa_nil))) (sg_tup (sgs_cons sg_nm (sgs_cons sg_nm sgs_nil))) (ss_seq (ss_if (st_T (se_op s2_is se_var se_non)) (ss_ret (se_if (st_T (se_op s2_eq se_var (se_c T.c_NONE))) se_non (se_call (sa_cons se_var (sa_cons (se_call (sa_cons (se_call (sa_cons se_var (sa_cons se_var sa_nil))) (sa_cons se_var sa_nil))) sa_nil))))) ss_next) (ss_seq (ss_asg (se_call (sa_cons se_var (sa_cons (se_call (sa_cons se_var (sa_cons se_var sa_nil))) sa_nil))) sg_nm) (ss_seq (ss_if (st_not (st_B (se_call (sa_cons (se_call (sa_cons se_var (sa_cons se_var sa_nil))) (sa_cons se_var sa_nil))))) (ss_ret (se_call (sa_cons se_var (sa_cons (se_call (sa_cons (se_call (sa_cons se_var (sa_cons se_var sa_nil))) (sa_cons se_var sa_nil))) sa_nil)))) ss_next) (ss_par (sa_cons (se_call (sa_cons se_var (sa_cons se_var sa_nil))) (sa_cons se_var sa_nil))))))) (ss_ret se_non))))⟩, fun xs M Qa h => ?body⟩)
  case len => obtain ⟨es, row, lim, rfl, _⟩ := h; rfl
  case body =>
    obtain ⟨es, row, lim, rfl, fl, ok, q⟩ := h
    refine ⟨_, _, rfl, ?_⟩
    refine ⟨_, rfl, _, _, rfl, rfl, sh_fr _, sh_fr _, _, rfl, iteB (fun e => ?_) (fun e => ?_)⟩
    · have e2 : lim = 0 := of_decide_eq_true ((eqv_fr lim 0).symm.trans e)
      unfold cutAt at q
      rw [if_pos e2] at q
      exact ⟨M, Sub.refl _, q⟩
    · have e2 : lim ≠ 0 := of_decide_eq_false ((eqv_fr lim 0).symm.trans e)
      unfold cutAt at q
      rw [if_neg e2] at q
      refine ⟨_, rfl, _, rfl, _, _, .inl rfl, fun rest ρ M' => M' = M ∧ ∃ (es' : List (Option Rat)) (row' : List Rat) (got b : Rat) (u v w : Option Va), rest = zipD (es'.map eD) (row'.map fr) ∧
        ρ = [some (.d (endsD es)), some (.d (rowD row)), some (.d (fr lim)), some (.d (fr got)), some (.d (fr b)), u, v, w] ∧ CutOk lim got b es' row' ∧ Qa (.d (eD (cutGo lim got b es' row'))) M, ⟨rfl, es, row, 0, 0, none, none, none, rfl, rfl, ok e2, q⟩, ?_, ?_⟩
      · rintro d r ρ M' ⟨rfl, es', row', got, b, u, v, w, er, rfl, hok, hq⟩
        match es', row', er, hok, hq with
        | none :: es', s :: row', er, hok, hq =>
          have er' : d :: r = .w [.none, fr s] :: zipD (es'.map eD) (row'.map fr) := er
          injection er' with e1 e3
          subst e1
          obtain ⟨⟨fg, fb, fs, gl⟩, hs⟩ := hok
          refine ⟨_, rfl, rfl, _, _, rfl, _, _, rfl, rfl, ?_⟩
          refine ⟨_, rfl, _, rfl, rfl, _, rfl, ?_⟩
          refine iteB (fun _ => ?_) (fun z => nomatch z)
          refine ⟨_, rfl, _, _, rfl, rfl, sh_fr _, sh_fr _, _, rfl, iteB (fun e => ?_) (fun e => ?_)⟩
          · have e4 : s = 0 := of_decide_eq_true ((eqv_fr s 0).symm.trans e)
            unfold cutGo at hq
            rw [if_pos e4] at hq
            exact ⟨_, Sub.refl _, hq⟩
          · have e4 : s ≠ 0 := of_decide_eq_false ((eqv_fr s 0).symm.trans e)
            unfold cutGo at hq
            rw [if_neg e4] at hq
            obtain ⟨h1, h2, h3⟩ := hs e4
            exact ⟨_, rfl, _, rfl, _, rfl, _, _, rfl, fl, fg, gl, _, rfl, _, _, rfl, h2, fs, h1, _, _, rfl, fb, h3, _, Sub.refl _, hq⟩
        | some e0 :: es', s :: row', er, hok, hq =>
          have er' : d :: r = .w [fr e0, fr s] :: zipD (es'.map eD) (row'.map fr) := er
          injection er' with e1 e3
          subst e1; subst e3
          obtain ⟨⟨fg, fb, fs, gl⟩, ⟨fe, be, f1, f2, f3⟩, k1, k2⟩ := hok
          unfold cutGo at hq
          refine ⟨_, rfl, rfl, _, _, rfl, _, _, rfl, rfl, ?_⟩
          refine ⟨_, rfl, _, rfl, rfl, _, rfl, ?_⟩
          refine iteB (fun z => nomatch z) (fun _ => ?_)
          refine ⟨_, rfl, _, rfl, _, rfl, _, _, rfl, fe, fb, be, _, _, rfl, fs, f1, ?_⟩
          refine ⟨_, rfl, _, rfl, _, _, rfl, fg, f2, _, rfl, _, _, rfl, f3, fl, _, rfl, iteB (fun e => ?_) (fun e => ?_)⟩
          · have e5 : ¬ got + s * (e0 - b) < lim := by simpa using e
            rw [if_neg e5] at hq
            obtain ⟨h1, h2, h3⟩ := k2 e5
            exact ⟨_, rfl, _, rfl, _, rfl, _, _, rfl, fl, fg, gl, _, rfl, _, _, rfl, h2, fs, h1, _, _, rfl, fb, h3, _, Sub.refl _, hq⟩
          · have e5 : got + s * (e0 - b) < lim := by simpa using e
            rw [if_pos e5] at hq
            exact ⟨_, rfl, _, rfl, _, _, rfl, fg, f2, _, rfl, _, _, rfl, rfl, es', row', _, _, _, _, _, rfl, rfl, k1 e5, hq⟩
        | [], _, er, _, _ => cases er
        | _ :: _, [], er, _, _ => cases er
      · rintro ρ M' ⟨rfl, es', row', got, b, u, v, w, er, rfl, hok, hq⟩
        match es', row', er, hok, hq with
        | none :: es', s :: row', er, hok, hq => cases er
        | some e0 :: es', s :: row', er, hok, hq => cases er
        | [], _, er, _, hq => exact ⟨_, Sub.refl _, hq⟩
        | _ :: _, [], er, _, hq =>
          rename_i e1 es1
          cases e1 <;> (simp only [cutGo] at hq; exact ⟨_, Sub.refl _, hq⟩)


/-- the ends ahead of a place -/
def placeFor (es : List (Option Rat)) (w : Rat) : Nat := (es.filter fun e => match e with
  | some x => decide (x < w)
  | none => false).length

def R_place_for : AN := fun xs M Q => ∃ (es : List (Option Rat)) (w : Rat), xs = [.d (endsD es), .d (fr w)] ∧ Fit w ∧ es.length ≤ 1000000 ∧ (∀ e, some e ∈ es → Fit e) ∧ Q (.d (.int (placeFor es w : Nat))) M
abbrev N_place_for : List Str := ["ends", "where", "end"]
theorem sc_place_for : FnScope N_place_for ["ends", "where"] (L2.defScope s_place_for) := ⟨rfl, rfl, rfl, by decide +kernel, rfl, by decide +kernel, by decide +kernel⟩
set_option maxHeartbeats 4000000 in
theorem kp_place_for (T : Tx K mg) (c_is_less : Kp P w K mg base 1 (He.ga K "is_less") ["one", "other"] R_is_less) : Kp P w K mg base 2 (He.ga K "place_for") ["ends", "where"] R_place_for := by
  refine kp_n (k := 1) (T.def_ 11) sc_place_for (fun _ _ _ _ _ _ us hl => match us, hl with | [_, _], _ => rfl) (fun xs M Q h => ?len) (fun cdv A outer s H E hr => ⟨_, _, ⟨
    (pss_one (ps_ret (pe_callB call_len_seq (by rfl) (T.free 68) PySem.boot_len (pa_cons (pe_lc (own := [("end", 2)]) rfl sc_place_for.nd (pi_list (pv 0)) (blkOk_by (N := N_place_for) (sc := L2.defScope s_place_for) (by decide +kernel)) (fun _ _ _ _ _ => (pg_name (i := 2) sc_place_for.nd rfl (Or.inl rfl))) (fun _ _ _ _ _ => pts_one (PW.pt (pw_and (pt_cmpR op_notN (pv 2) pe_non (nomark _)) (pw_and1 (pt_val (pe_def c_is_less (hr.mono (by decide)) (by rfl) (T.glo 8) (pa_cons (pv 2) (pa_cons (pv 1) pa_nil)))))))) (fun _ _ _ _ _ => (pv 2))) pa_nil)))),
    (ss_ret (se_cb sn_len (sa_cons (se_lc (si_lst se_var) sg_nm (wg_nm (by decide)) (st_and (st_T (se_op s2_isnot se_var se_non)) (st_B (se_call (sa_cons se_var (sa_cons se_var sa_nil))))) se_var) sa_nil)))⟩, fun xs M Qa h => ?body⟩)
  case len => obtain ⟨es, w, rfl, _⟩ := h; rfl
  case body =>
    obtain ⟨es, w, rfl, fw, hl, fe, q⟩ := h
    refine ⟨_, rfl, _, rfl, by rw [List.length_map, List.length_map]; exact hl, fun D => ⟨fun rest acc M' => M' = M ∧ ∃ done todo, es = done ++ todo ∧ rest = (todo.map eD).map .d ∧ acc.length = placeFor done w, ⟨rfl, [], es, rfl, rfl, rfl⟩, ?_, ?_⟩⟩
    · rintro d r acc M' ⟨rfl, done, todo, e1, e2, e3⟩
      match todo, e2 with
      | none :: todo, e2 =>
        injection e2 with e4 e5
        subst e4; subst e5
        refine ⟨_, rfl, _, rfl, rfl, _, rfl, iteB (fun z => nomatch z) (fun _ => ?_)⟩
        refine iteB (fun z => nomatch z) (fun _ => ?_)
        refine ⟨_, Sub.refl _, rfl, done ++ [none], todo, by rw [e1]; simp, rfl, ?_⟩
        rw [e3]
        unfold placeFor
        rw [List.filter_append]
        simp
      | some x :: todo, e2 =>
        injection e2 with e4 e5
        subst e4; subst e5
        have fx : Fit x := fe x (by rw [e1]; simp)
        refine ⟨_, rfl, _, rfl, rfl, _, rfl, iteB (fun _ => ?_) (fun z => nomatch z)⟩
        refine ⟨_, rfl, _, rfl, _, _, rfl, fx, fw, _, rfl, iteB (fun e => ?_) (fun e => ?_)⟩
        · refine ⟨_, rfl, _, _, rfl, Sub.refl _, rfl, done ++ [some x], todo, by rw [e1]; simp, rfl, ?_⟩
          rw [List.length_append, e3]
          unfold placeFor
          rw [List.filter_append]
          have : x < w := by simpa using e
          simp [this]
        · refine ⟨_, Sub.refl _, rfl, done ++ [some x], todo, by rw [e1]; simp, rfl, ?_⟩
          rw [e3]
          unfold placeFor
          rw [List.filter_append]
          have : ¬ x < w := by simpa using e
          simp [this]
    · rintro acc M' ⟨rfl, done, todo, e1, e2, e3⟩
      match todo, e2 with
      | [], _ =>
        rw [List.append_nil] at e1
        subst e1
        refine .inl ⟨_, rfl, _, Sub.refl _, ?_⟩
        rw [e3]
        exact q

end
end LN
namespace LN
open PySem PySem.Spec PyProof.Rows L2 SlX

/-! ### the stretches -/
theorem any_pl {n m : Nat} {ds : List PyData} {a : PyData} (h : ∀ z ∈ ds, Pl n z) (k : Pl m a) : (ds.any fun z => PyData.eqv z a) = true ↔ a ∈ ds := by
  rw [List.any_eq_true]
  constructor
  · rintro ⟨z, hz, e⟩
    rw [← (eqv_pl n m z a (h z hz) k).mp e]; exact hz
  · intro hz
    exact ⟨a, hz, (eqv_pl n m a a (h a hz) k).mpr rfl⟩
theorem sx_nat (n d p : Nat) : HT.sIx n d (some (p : Int)) = min p n := by
  show (if (p : Int) < 0 then ((p : Int) + (n : Int)).toNat else min (p : Int).toNat n) = min p n
  rw [if_neg (by omega), Int.toNat_natCast]
theorem cut_to {α : Type} (xs : List α) (p : Nat) : cutD xs none (some (p : Int)) = xs.take p := by
  unfold cutD
  rw [sx_nat]
  show (xs.drop 0).take (min p xs.length - 0) = xs.take p
  rw [Nat.sub_zero, List.drop_zero]
  by_cases h : p ≤ xs.length
  · rw [Nat.min_eq_left h]
  · rw [Nat.min_eq_right (by omega), List.take_of_length_le (Nat.le_refl _), List.take_of_length_le (by omega)]
theorem cut_from {α : Type} (xs : List α) (p : Nat) : cutD xs (some (p : Int)) none = xs.drop p := by
  unfold cutD
  rw [sx_nat]
  show (xs.drop (min p xs.length)).take (xs.length - min p xs.length) = xs.drop p
  by_cases h : p ≤ xs.length
  · rw [Nat.min_eq_left h, List.take_of_length_le (by rw [List.length_drop]; exact Nat.le_refl _)]
  · rw [Nat.min_eq_right (by omega), List.drop_of_length_le (Nat.le_refl _), List.drop_of_length_le (show xs.length ≤ p by omega), List.take_nil]
theorem atI_nat {α : Type} (xs : List α) (i : Nat) (x : α) (h : xs[i]? = some x) : atI xs (i : Int) = some x := by
  obtain ⟨hl, hv⟩ := List.getElem?_eq_some_iff.mp h
  unfold atI ixN
  rw [if_pos (show 0 ≤ (i : Int) by omega), if_pos (show (i : Int) < (xs.length : Int) by omega)]
  show xs[(i : Int).toNat]? = some x
  rw [Int.toNat_natCast]; exact h
structure Sts where
  es : List (Option Rat)
  rows : List (Str × List Rat)
def Sts.row (s : Sts) (k : Str) : List Rat := (getP s.rows k).getD []
def insAt (p : Nat) (w : Option Rat) (es : List (Option Rat)) : List (Option Rat) := es.take p ++ w :: es.drop p
def dupAt (p : Nat) (row : List Rat) : List Rat := row.take p ++ row.getD p 0 :: row.drop p
def partAt (s : Sts) : Option Rat → Sts
  | none => s
  | some w => if w = 0 ∨ some w ∈ s.es then s else ⟨insAt (placeFor s.es w) (some w) s.es, s.rows.map fun p => (p.1, dupAt (placeFor s.es w) p.2)⟩
def loR (first n : Nat) (row : List Rat) : List Rat := (List.range n).map fun i => if i < first then row.getD i 0 else 0
def hiR (first n : Nat) (row : List Rat) : List Rat := (List.range n).map fun i => if i < first then 0 else row.getD i 0
def firstOf (es : List (Option Rat)) : Option Rat → Nat
  | none => es.length
  | some w => placeFor es w + if w = 0 then 0 else 1
def weirS (s : Sts) (a : Str) (q : Rat) (t r : Str) : Sts :=
  let wh := cutAt s.es (s.row a) q
  let s1 := partAt s wh
  ⟨s1.es, putP (putP s1.rows t (loR (firstOf s1.es wh) s1.es.length (s1.row a))) r (hiR (firstOf s1.es wh) s1.es.length (s1.row a))⟩
def divS (s : Sts) (a : Str) (q : Rat) (t r : Str) : Sts := ⟨s.es, putP (putP s.rows t ((s.row a).map (· * q))) r ((s.row a).map (· * (1 - q)))⟩
def joinS (s : Sts) (a b t : Str) : Sts := ⟨s.es, putP s.rows t (List.zipWith (· + ·) (s.row a) (s.row b))⟩
/-- a state that the program can handle -/
structure WF (s : Sts) : Prop where
  nd : (s.rows.map (·.1)).Nodup
  le : s.es.length ≤ 1000
  lr : s.rows.length ≤ 10000
  len : ∀ p ∈ s.rows, p.2.length = s.es.length
  fe : ∀ e, some e ∈ s.es → Fit e
  fr : ∀ p ∈ s.rows, ∀ x ∈ p.2, Fit x
  non : none ∈ s.es
abbrev stM (C a f : Addr) (s : Sts) (M : Sto) : Sto := (a, .ins C [("ends", .d (endsD s.es)), ("flows", .m f)]) :: (f, .dK (asK rowD s.rows)) :: M
theorem pl_row {n : Nat} (r : List Rat) : Pl (n + 2) (rowD r) := pl_list fun x hx => by
  obtain ⟨q, _, rfl⟩ := List.mem_map.mp hx
  exact pl_fr q
theorem pl_ends {n : Nat} (r : List (Option Rat)) : Pl (n + 2) (endsD r) := pl_list fun x hx => by
  obtain ⟨q, _, rfl⟩ := List.mem_map.mp hx
  exact pl_eD q
theorem placeFor_lt {es : List (Option Rat)} {w : Rat} (h : none ∈ es) : placeFor es w < es.length := by
  unfold placeFor
  refine Nat.lt_of_le_of_ne (List.length_filter_le _ _) fun e => ?_
  have := List.length_filter_eq_length_iff.mp e none h
  simp at this
theorem row_at {r : List Rat} {p : Nat} (h : p < r.length) : (r.map fr)[p]? = some (fr (r.getD p 0)) := by
  rw [List.getElem?_map, List.getElem?_eq_getElem h, List.getD_eq_getElem?_getD, List.getElem?_eq_getElem h]; rfl
theorem rowD_take (r : List Rat) (p : Nat) : cutD (r.map fr) none (some (p : Int)) = (r.take p).map fr := by rw [cut_to, List.map_take]
theorem rowD_drop (r : List Rat) (p : Nat) : cutD (r.map fr) (some (p : Int)) none = (r.drop p).map fr := by rw [cut_from, List.map_drop]
theorem endsD_take (r : List (Option Rat)) (p : Nat) : cutD (r.map eD) none (some (p : Int)) = (r.take p).map eD := by rw [cut_to, List.map_take]
theorem endsD_drop (r : List (Option Rat)) (p : Nat) : cutD (r.map eD) (some (p : Int)) none = (r.drop p).map eD := by rw [cut_from, List.map_drop]
theorem dats_maps (ds : List PyData) (es : List Va) : dats (ds.map Va.d ++ es) = (dats es).map (ds ++ ·) := by
  induction ds with
  | nil =>
    show dats es = _
    cases dats es <;> rfl
  | cons x r ih =>
    show (dats (r.map Va.d ++ es)).map (x :: ·) = _
    rw [ih]
    cases dats es <;> rfl
theorem three_D (xs ys : List PyData) (z : PyData) : dats (xs.map Va.d ++ Va.d z :: (ys.map Va.d ++ [])) = some (xs ++ z :: ys) := by
  rw [dats_maps, List.append_nil]
  show ((dats (ys.map Va.d)).map (z :: ·)).map (xs ++ ·) = _
  rw [dats_map]; rfl
theorem dup_len {r : List Rat} {p : Nat} (h : p < r.length) : (dupAt p r).length = r.length + 1 := by
  unfold dupAt
  rw [List.length_append, List.length_cons, List.length_take, List.length_drop]
  omega
theorem map_keys {α β : Type} (f : Str → α → β) (l : List (Str × α)) : (l.map fun p => (p.1, f p.1 p.2)).map (·.1) = l.map (·.1) := by
  rw [List.map_map]; rfl

section
variable {P : Program} {w : World} {K : Frg} {mg : Str → Option Value} {base : Heap}

def R___init__Sts (C : Addr) : AN := fun xs M Q => ∃ (a : Addr) (M0 : Sto), xs = [.m a] ∧ M = (a, .ins C []) :: M0 ∧ ∀ f, Q (.d .none) (stM C a f ⟨[none], [("in", [1])]⟩ M0)
abbrev N_Stretches___init__ : List Str := ["self"]
theorem sc_Stretches___init__ : FnScope N_Stretches___init__ ["self"] (L2.defScope s_Stretches___init__) := ⟨rfl, rfl, rfl, by decide +kernel, rfl, by decide +kernel, by decide +kernel⟩
set_option maxHeartbeats 4000000 in
theorem kp_Stretches___init__ (T : Tx K mg) : Kp P w K mg base 1 (He.ma K (He.ga K "Stretches") "__init__") ["self"] (R___init__Sts (He.ga K "Stretches")) := by
  refine kp_n (k := 0) (T.def_ 12) sc_Stretches___init__ (fun _ _ _ _ _ _ us hl => match us, hl with | [_], _ => rfl) (fun xs M Q h => ?len) (fun cdv A outer s H E hr => ⟨_, _, ⟨
    (pss_cons (ps_fld (pv 0) (pe_lst (pa_cons pe_non pa_nil)) rfl) (pss_one (ps_fld (pv 0) (pe_disp (pps_one pe_str (pe_lst (pa_cons (pe_glob (v := .ref (He.ga K "WHOLE_fractions")) (by rfl) (T.glo 51) rfl) pa_nil))) rfl rfl (by simp) (by decide)) rfl))),
    (ss_seq (ss_fld T.cls_Stretches T.no_Stretches_ends se_var (se_lst (sa_cons se_non sa_nil))) (ss_fld T.cls_Stretches T.no_Stretches_flows se_var (se_disp1 se_str (se_lst (sa_cons (se_c T.c_WHOLE_fractions) sa_nil)))))⟩, fun xs M Qa h => ?body⟩)
  case len => obtain ⟨a, M0, rfl, _⟩ := h; rfl
  case body =>
    obtain ⟨a, M0, rfl, rfl, q⟩ := h
    refine ⟨_, rfl, by decide, _, rfl, a, [], [], M0, rfl, rfl, by decide, ?_⟩
    refine fun p => ⟨_, rfl, _, rfl, by decide, _, .refl _, ?_⟩
    refine ⟨_, rfl, a, _, [_], M0, rfl, rfl, by decide, _, ⟨[], .swap _ _ _⟩, q p⟩

def R_part_at (C : Addr) : AN := fun xs M Q => ∃ (a f : Addr) (w : Option Rat) (s : Sts) (M0 : Sto), xs = [.m a, .d (eD w)] ∧ M = stM C a f s M0 ∧ WF s ∧ (∀ x, w = some x → Fit x) ∧ ∀ f', Q (.d .none) (stM C a f' (partAt s w) M0)
abbrev N_Stretches_part_at : List Str := ["self", "where", "place", "name", "row"]
theorem sc_Stretches_part_at : FnScope N_Stretches_part_at ["self", "where"] (L2.defScope s_Stretches_part_at) := ⟨rfl, rfl, rfl, by decide +kernel, rfl, by decide +kernel, by decide +kernel⟩
set_option maxHeartbeats 4000000 in
theorem kp_Stretches_part_at (T : Tx K mg) (c_place_for : Kp P w K mg base 2 (He.ga K "place_for") ["ends", "where"] R_place_for) : Kp P w K mg base 3 (He.ma K (He.ga K "Stretches") "part_at") ["self", "where"] (R_part_at (He.ga K "Stretches")) := by
  refine kp_n (k := 2) (T.def_ 13) sc_Stretches_part_at (fun _ _ _ _ _ _ us hl => match us, hl with | [_, _], _ => rfl) (fun xs M Q h => ?len) (fun cdv A outer s H E hr => ⟨_, _, ⟨
    (pss_one (ps_if (PW.pt (pw_and (pt_cmpR (op_notInDT (u65 hr)) (pv 1) (pe_tupS (pa_cons pe_non (pa_cons (pe_glob (v := .ref (He.ga K "NONE")) (by rfl) (T.glo 50) rfl) pa_nil))) rfl) (pw_and1 (pt_cmpR (op_notInD (u65 hr)) (pv 1) (pe_fld (pv 0) rfl) rfl)))) (pss_cons (ps_set (i := 2) sc_Stretches_part_at.nd rfl (Or.inr rfl) (pe_def c_place_for (hr.mono (by decide)) (by rfl) (T.glo 11) (pa_cons (pe_fld (pv 0) rfl) (pa_cons (pv 1) pa_nil)))) (pss_cons (ps_fld (pv 0) (pe_lst (StX.pa_star (pe_slice (SlR.or sl_list sl_tupS) (pe_fld (pv 0) rfl) po_none (po_some (pv 2))) (pa_cons (pv 1) (StX.pa_star (pe_slice (SlR.or sl_list sl_tupS) (pe_fld (pv 0) rfl) (po_some (pv 2)) po_none) pa_nil)))) rfl) (pss_one (ps_fld (pv 0) (pe_lock (pe_dc (own := [("name", 3), ("row", 4)]) rfl sc_Stretches_part_at.nd (pi_items (pe_fld (pv 0) rfl)) (blkOk_by (N := N_Stretches_part_at) (sc := L2.defScope s_Stretches_part_at) (by decide +kernel)) (fun _ _ _ _ _ => (pg_tup (n := 2) rfl (pgs_cons (pg_name (i := 3) sc_Stretches_part_at.nd rfl (Or.inl rfl)) (pgs_cons (pg_name (i := 4) sc_Stretches_part_at.nd rfl (Or.inl rfl)) pgs_nil)))) (fun _ _ _ _ _ => pts_nil) (fun _ _ _ _ _ => (pv 3)) (fun _ _ _ _ _ => (pe_lst (StX.pa_star (pe_slice (SlR.or sl_list sl_tupS) (pv 4) po_none (po_some (pv 2))) (pa_cons (pe_ix ix_seq (pv 4) (pv 2) (fun _ _ => rfl)) (StX.pa_star (pe_slice (SlR.or sl_list sl_tupS) (pv 4) (po_some (pv 2)) po_none) pa_nil))))))) rfl)))) pss_nil)),
    (ss_if (st_and (st_T (se_op s2_inT se_var (se_tup (sa_cons se_non (sa_cons (se_c T.c_NONE) sa_nil))))) (st_T (se_op s2_notin se_var (se_fld T.cls_Stretches T.no_Stretches_ends se_var)))) (ss_seq (ss_asg (se_call (sa_cons (se_fld T.cls_Stretches T.no_Stretches_ends se_var) (sa_cons se_var sa_nil))) sg_nm) (ss_seq (ss_fld T.cls_Stretches T.no_Stretches_ends se_var (se_lst (sa_star (se_sl (se_fld T.cls_Stretches T.no_Stretches_ends se_var) so_none (so_some se_var)) (sa_cons se_var (sa_star (se_sl (se_fld T.cls_Stretches T.no_Stretches_ends se_var) (so_some se_var) so_none) sa_nil))))) (ss_fld T.cls_Stretches T.no_Stretches_flows se_var (se_dcI (se_fld T.cls_Stretches T.no_Stretches_flows se_var) (sg_tup (sgs_cons sg_nm (sgs_cons sg_nm sgs_nil))) (wg_tup (wgs_cons (wg_nm (by decide)) (wgs_cons (wg_nm (by decide)) wgs_nil))) se_var (se_lst (sa_star (se_sl se_var so_none (so_some se_var)) (sa_cons (se_op s2_ix se_var se_var) (sa_star (se_sl se_var (so_some se_var) so_none) sa_nil)))))))) ss_next)⟩, fun xs M Qa h => ?body⟩)
  case len => obtain ⟨a, f, w, s, M0, rfl, _⟩ := h; rfl
  case body =>
    obtain ⟨a, f, w, st, M0, rfl, rfl, wf, fw, q⟩ := h
    have p1 : ∀ z ∈ [PyData.none, fr 0], Pl 1 z := fun z hz => by
      simp only [List.mem_cons, List.not_mem_nil, or_false] at hz
      rcases hz with h | h <;> subst h
      · exact pl_none
      · exact pl_fr _
    refine ⟨_, rfl, _, rfl, by decide, _, _, rfl, rfl, pl_shaped (pl_eD (n := 0) w), pl_shaped (pl_tuple p1), _, rfl, ?_⟩
    refine iteB (fun e => ?_) (fun e => iteB (fun z => nomatch z) (fun _ => ?_))
    · have e1 : eD w ∉ [PyData.none, fr 0] := fun z => by
        rw [(any_pl p1 (pl_eD (n := 0) w)).mpr z] at e
        cases e
      match w, fw, q, e1 with
      | none, _, _, e1 => exact absurd List.mem_cons_self e1
      | some x, fw, q, e1 =>
      have x0 : x ≠ 0 := fun z => e1 (by rw [z]; exact List.mem_cons_of_mem _ List.mem_cons_self)
      have fx := fw x rfl
      have p2 : ∀ z ∈ st.es.map eD, Pl 1 z := fun z hz => by
        obtain ⟨y, _, rfl⟩ := List.mem_map.mp hz
        exact pl_eD y
      refine ⟨_, rfl, _, rfl, a, _, [], _, _, rfl, rfl, rfl, _, _, rfl, rfl, sh_fr _, pl_shaped (pl_list p2), _, rfl, ?_⟩
      have mem : eD (some x) ∈ st.es.map eD ↔ some x ∈ st.es := by
        rw [List.mem_map]
        exact ⟨fun ⟨y, hy, ey⟩ => by rw [← eD_inj.mp ey]; exact hy, fun hy => ⟨_, hy, rfl⟩⟩
      have an := any_pl p2 (pl_eD (n := 0) (some x))
      refine iteB (fun e => ?_) (fun e => ?_)
      · have ni : some x ∉ st.es := fun z => by
          rw [an.mpr (mem.mpr z)] at e
          cases e
        have hpl := placeFor_lt (w := x) wf.non
        have qe : partAt st (some x) = ⟨insAt (placeFor st.es x) (some x) st.es, st.rows.map fun p => (p.1, dupAt (placeFor st.es x) p.2)⟩ := by
          unfold partAt
          exact if_neg (fun z => z.elim x0 ni)
        rw [qe] at q
        refine ⟨_, rfl, a, _, [], _, _, rfl, rfl, rfl, _, rfl, _, x, rfl, fx, by have := wf.le; omega, wf.fe, ?_⟩
        generalize placeFor st.es x = pl at hpl q
        refine ⟨_, rfl, a, _, [], _, _, rfl, rfl, rfl, _, rfl, _, rfl, ?_⟩
        refine .inr (.inl ⟨_, rfl, _, .inl rfl, _, rfl, _, rfl, a, _, [], _, _, rfl, rfl, rfl, _, rfl, _, rfl, ?_⟩)
        refine .inr (.inl ⟨_, rfl, _, .inl rfl, _, three_D _ _ _, ?_, _, rfl, a, _, [], _, rfl, rfl, (show 2 < 1000 by decide), ?_⟩)
        · have := wf.le
          rw [endsD_take, endsD_drop, List.length_append, List.length_cons, List.length_map, List.length_map, List.length_take, List.length_drop]
          omega
        rw [endsD_take, endsD_drop]
        have hM : ∀ l : Addr × MO, l :: (f, MO.dK (asK rowD st.rows)) :: M0 = [l] ++ (f, MO.dK (datK (st.rows.map fun p => (p.1, rowD p.2)))) :: M0 := fun l => by
          unfold asK datK
          rw [List.map_map]
          rfl
        refine ⟨f, _, [_], M0, hM _, fun P => ⟨?_, fun hp => ⟨_, rfl, a, _, [], M0, _, rfl, rfl, rfl, rfl, rfl, hp⟩⟩, fun D => ?_⟩
        · rintro ⟨_, _, _, _, _, _, _, _, _, _, _, _, hp⟩
          exact hp
        refine ⟨fun rest M' => ∃ done todo, st.rows = done ++ todo ∧ rest = itemsV (todo.map fun p => (p.1, rowD p.2)) ∧ M' = (D, .dK (asK rowD (done.map fun p => (p.1, dupAt pl p.2)))) :: (a, .ins (He.ga K "Stretches") [("ends", .d (endsD (insAt pl (some x) st.es))), ("flows", .m f)]) :: M0, ⟨[], st.rows, rfl, rfl, ?_⟩, ?_, ?_⟩
        · show _ = _ :: (a, MO.ins _ [("ends", .d (.list _)), _]) :: M0
          unfold endsD insAt
          rw [List.map_append, List.map_cons]
          rfl
        · rintro y r M' ⟨done, todo, e1, e2, rfl⟩
          match todo, e2 with
          | (n, row) :: todo, e2 =>
            have e2' : y :: r = .w [.str n, rowD row] :: itemsV (todo.map fun p => (p.1, rowD p.2)) := e2
            injection e2' with e3 e4
            subst e3
            have hrl : pl < row.length := by rw [wf.len (n, row) (by rw [e1]; simp)]; exact hpl
            have hn : n ∉ (done.map fun p => (p.1, dupAt pl p.2)).map (·.1) := by
              rw [map_keys fun _ => dupAt pl]
              have nd := wf.nd
              rw [e1, List.map_append, List.map_cons, List.nodup_append] at nd
              exact fun z => nd.2.2 n z n List.mem_cons_self rfl
            refine ⟨_, rfl, rfl, _, _, rfl, _, _, rfl, rfl, ?_⟩
            refine ⟨_, rfl, ?_⟩
            refine ⟨_, rfl, _, rfl, _, rfl, .inr (.inl ⟨_, rfl, _, .inl rfl, ?_⟩)⟩
            refine ⟨_, rfl, _, rfl, _, _, _, .inr rfl, rfl, atI_nat _ _ _ (row_at hrl), ?_⟩
            refine ⟨_, rfl, _, rfl, _, rfl, .inr (.inl ⟨_, rfl, _, .inl rfl, _, three_D _ _ _, ?_, ?_⟩)⟩
            · rw [rowD_take, rowD_drop, List.length_append, List.length_cons, List.length_map, List.length_map, List.length_take, List.length_drop]
              have h1 := wf.len (n, row) (by rw [e1]; simp)
              have h2 := wf.le
              simp only at h1
              omega
            rw [rowD_take, rowD_drop]
            refine ⟨n, _, [], _, rfl, rfl, ?_, done ++ [(n, row)], todo, by rw [e1]; simp, e4, ?_⟩
            · have h1 := wf.lr
              rw [e1, List.length_append] at h1
              rw [asK_len, List.length_map]
              omega
            · have e5 : Va.d (PyData.list ((row.take pl).map fr ++ fr (row.getD pl 0) :: (row.drop pl).map fr)) = .d (rowD (dupAt pl row)) := by
                unfold rowD dupAt
                rw [List.map_append, List.map_cons]
              rw [e5, asK_put, putP_new _ hn, List.map_append]
              rfl
        · rintro M' ⟨done, todo, e1, e2, rfl⟩
          match todo, e2 with
          | [], _ =>
            rw [List.append_nil] at e1
            subst e1
            exact ⟨_, rfl, a, _, [_, _], M0, rfl, rfl, (show 2 < 1000 by decide), _, ⟨[_], .cons _ (.swap _ _ _)⟩, q D⟩
      · have ni : some x ∈ st.es := by
          have e6 : ((st.es.map eD).any fun z => PyData.eqv z (eD (some x))) = true := by
            cases z : (st.es.map eD).any fun z => PyData.eqv z (eD (some x)) with
            | true => rfl
            | false => rw [z] at e; cases e
          exact mem.mp (an.mp e6)
        have qe : partAt st (some x) = st := by
          unfold partAt
          exact if_pos (.inr ni)
        rw [qe] at q
        exact ⟨_, Sub.refl _, q f⟩
    · have e6 : ([PyData.none, fr 0].any fun z => PyData.eqv z (eD w)) = true := by
        cases z : [PyData.none, fr 0].any fun z => PyData.eqv z (eD w) with
        | true => rfl
        | false => rw [z] at e; cases e
      have e7 := (any_pl p1 (pl_eD (n := 0) w)).mp e6
      have qe : partAt st w = st := by
        match w, e7 with
        | none, _ => rfl
        | some x, e7 =>
          have x0 : x = 0 := by
            simp only [List.mem_cons, List.not_mem_nil, or_false] at e7
            rcases e7 with z | z
            · unfold eD fr at z; cases z
            · exact fr_inj.mp z
          unfold partAt
          exact if_pos (.inl x0)
      rw [qe] at q
      exact ⟨_, Sub.refl _, q f⟩

end
end LN
namespace LN
open PySem PySem.Spec PyProof.Rows L2 SlX

section
variable {γ : AG} {τ : AT} {ε : AE} {vs : List Nat} {ρ : AEnv} {M : Sto} {Q : AQ} {α : Type}
/-- a comprehension over data that changes nothing -/
theorem lcS (src : List α) (it : α → Va) (g : α → PyData) (hl : src.length ≤ 1000000) (turn : ∀ x ∈ src, ∀ (p : Addr × MO) (Z : PyData → Prop), Z (g x) → γ (it x) (wipeA ρ vs) (p :: M) fun ρ2 M2 => ε ρ2 M2 fun y M4 => ∃ z M5, y = .d z ∧ Sub (p :: M5) M4 ∧ M5 = M ∧ Z z)
    (q : Q (.d (.list (src.map g))) M) : LcT γ aYes ε vs ρ Q (src.map it) M := by
  refine ⟨by rw [List.length_map]; exact hl, fun D => ⟨fun rest acc M' => M' = M ∧ ∃ done todo, src = done ++ todo ∧ rest = todo.map it ∧ acc = done.map g, ⟨rfl, [], src, rfl, rfl, rfl⟩, ?_, ?_⟩⟩
  · rintro d r acc M' ⟨rfl, done, todo, e1, e2, e3⟩
    match todo, e2 with
    | x :: todo, e2 =>
      injection e2 with e4 e5
      subst e4
      refine turn x (by rw [e1]; simp) (D, .lst (acc.map .d)) (fun z => ∃ done todo, src = done ++ todo ∧ r = todo.map it ∧ acc ++ [z] = done.map g) ⟨done ++ [x], todo, by rw [e1]; simp, e5, ?_⟩
      rw [e3, List.map_append]; rfl
  · rintro acc M' ⟨rfl, done, todo, e1, e2, e3⟩
    match todo, e2 with
    | [], _ =>
      rw [List.append_nil] at e1
      subst e1; subst e3
      exact q
/-- .. with a test -/
theorem lcF (src : List α) (it : α → Va) (keep : α → Bool) (g : α → PyData) (hl : src.length ≤ 1000000) (turn : ∀ x ∈ src, ∀ (p : Addr × MO) (Z : PyData → Prop) (Y : Prop), (keep x = true → Z (g x)) → (keep x = false → Y) →
      γ (it x) (wipeA ρ vs) (p :: M) fun ρ2 M2 => τ ρ2 M2 fun b M3 => if b = true then ε ρ2 M3 fun y M4 => ∃ z M5, y = .d z ∧ Sub (p :: M5) M4 ∧ M5 = M ∧ Z z else ∃ M5, Sub (p :: M5) M3 ∧ M5 = M ∧ Y)
    (q : Q (.d (.list ((src.filter keep).map g))) M) : LcT γ τ ε vs ρ Q (src.map it) M := by
  refine ⟨by rw [List.length_map]; exact hl, fun D => ⟨fun rest acc M' => M' = M ∧ ∃ done todo, src = done ++ todo ∧ rest = todo.map it ∧ acc = (done.filter keep).map g, ⟨rfl, [], src, rfl, rfl, rfl⟩, ?_, ?_⟩⟩
  · rintro d r acc M' ⟨rfl, done, todo, e1, e2, e3⟩
    match todo, e2 with
    | x :: todo, e2 =>
      injection e2 with e4 e5
      subst e4
      refine turn x (by rw [e1]; simp) (D, .lst (acc.map .d)) (fun z => ∃ done todo, src = done ++ todo ∧ r = todo.map it ∧ acc ++ [z] = (done.filter keep).map g) (∃ done todo, src = done ++ todo ∧ r = todo.map it ∧ acc = (done.filter keep).map g)
        (fun k => ⟨done ++ [x], todo, by rw [e1]; simp, e5, ?_⟩) fun k => ⟨done ++ [x], todo, by rw [e1]; simp, e5, ?_⟩
      · rw [e3, List.filter_append, List.map_append]
        simp [k]
      · rw [e3, List.filter_append]
        simp [k]
  · rintro acc M' ⟨rfl, done, todo, e1, e2, e3⟩
    match todo, e2 with
    | [], _ =>
      rw [List.append_nil] at e1
      subst e1; subst e3
      exact q
end
theorem zipD_map {α β : Type} (f : α → PyData) (g : β → PyData) : ∀ (xs : List α) (ys : List β), zipD (xs.map f) (ys.map g) = (xs.zip ys).map fun p => .w [f p.1, g p.2]
  | [], _ => by simp [zipD]
  | _ :: _, [] => by simp [zipD]
  | x :: xs, y :: ys => by simp [zipD, zipD_map f g xs ys]
theorem zw_map : ∀ xs ys : List Rat, (List.zipWith (· + ·) xs ys).map fr = (xs.zip ys).map fun p => fr (p.1 + p.2)
  | [], _ => by simp
  | _ :: _, [] => by simp
  | x :: xs, y :: ys => by simp [zw_map xs ys]
theorem get_row {s : Sts} {k : Str} {row : List Rat} (h : getP s.rows k = some row) : getA (asK rowD s.rows) k = some (.d (rowD row)) ∧ s.row k = row := by
  refine ⟨by rw [asK_get, h]; rfl, ?_⟩
  unfold Sts.row
  rw [h]; rfl
theorem getP_mem {α : Type} {l : List (Str × α)} {k : Str} {v : α} (h : getP l k = some v) : (k, v) ∈ l := by
  induction l with
  | nil => cases h
  | cons p l ih =>
    rw [getP_cons] at h
    by_cases e : p.1 = k
    · rw [if_pos e] at h
      cases h
      rw [← e]
      exact List.mem_cons_self
    · rw [if_neg e] at h
      exact List.mem_cons_of_mem _ (ih h)
theorem getP_map {α β : Type} (f : α → β) (l : List (Str × α)) (k : Str) : getP (l.map fun p => (p.1, f p.2)) k = (getP l k).map f := by
  induction l with
  | nil => rfl
  | cons p l ih =>
    rw [List.map_cons, getP_cons, ih, getP_cons]
    split <;> rfl
theorem part_row {s : Sts} {k : Str} {row : List Rat} (w : Option Rat) (h : getP s.rows k = some row) : ∃ row', getP (partAt s w).rows k = some row' := by
  unfold partAt
  cases w with
  | none => exact ⟨row, h⟩
  | some w =>
    show ∃ row', getP (if w = 0 ∨ some w ∈ s.es then s else _).rows k = some row'
    by_cases c : w = 0 ∨ some w ∈ s.es
    · rw [if_pos c]; exact ⟨row, h⟩
    · rw [if_neg c]
      exact ⟨_, by rw [getP_map, h]; rfl⟩
/-- a part of a net -/
inductive Part where
  | weir (a : Str) (q : Rat) (t r : Str)
  | div (a : Str) (q : Rat) (t r : Str)
  | join (a b t : Str)
def partD : Part → PyData
  | .weir a q t r => .tuple [.str "weir", .str a, fr q, .str t, .str r]
  | .div a q t r => .tuple [.str "divide", .str a, fr q, .str t, .str r]
  | .join a b t => .tuple [.str "join", .str a, .str b, .str t]
/-- what a part asks of the state -/
def StepOk (s : Sts) : Part → Prop
  | .weir a q _ _ => (∃ row, getP s.rows a = some row) ∧ Fit q ∧ (q ≠ 0 → CutOk q 0 0 s.es (s.row a)) ∧ (∀ w, cutAt s.es (s.row a) q = some w → Fit w) ∧ WF (partAt s (cutAt s.es (s.row a) q))
  | .div a q _ _ => (∃ row, getP s.rows a = some row) ∧ Fit q ∧ q ≤ 1 ∧ Fit (1 - q)
  | .join a b _ => (∃ row, getP s.rows a = some row) ∧ ∃ row, getP s.rows b = some row
theorem sub_v {G : Va → Sto → Prop} {x : Va} (y : Va) {M : Sto} (e : x = y) (h : G y M) : G x M := e ▸ h
theorem fit1 : Fit 1 := ⟨by decide, by decide, by decide⟩

section
variable {P : Program} {w : World} {K : Frg} {mg : Str → Option Value} {base : Heap}

def R_weir (C : Addr) : AN := fun xs M Q => ∃ (a f : Addr) (ch t r : Str) (q : Rat) (s : Sts) (M0 : Sto), xs = [.m a, .d (.str ch), .d (fr q), .d (.str t), .d (.str r)] ∧ M = stM C a f s M0 ∧ WF s ∧ StepOk s (.weir ch q t r) ∧ ∀ f', Q (.d .none) (stM C a f' (weirS s ch q t r) M0)
abbrev N_Stretches_weir : List Str := ["self", "channel", "limit", "to", "rest", "where", "row", "count", "first", "place"]
theorem sc_Stretches_weir : FnScope N_Stretches_weir ["self", "channel", "limit", "to", "rest"] (L2.defScope s_Stretches_weir) := ⟨rfl, rfl, rfl, by decide +kernel, rfl, by decide +kernel, by decide +kernel⟩
set_option maxHeartbeats 4000000 in
theorem kp_Stretches_weir (T : Tx K mg) (c_cut_at : Kp P w K mg base 4 (He.ga K "cut_at") ["ends", "flows", "limit"] R_cut_at) (c_Stretches_part_at : Kp P w K mg base 3 (He.ma K (He.ga K "Stretches") "part_at") ["self", "where"] (R_part_at (He.ga K "Stretches"))) (c_place_for : Kp P w K mg base 2 (He.ga K "place_for") ["ends", "where"] R_place_for) : Kp P w K mg base 5 (He.ma K (He.ga K "Stretches") "weir") ["self", "channel", "limit", "to", "rest"] (R_weir (He.ga K "Stretches")) := by
  refine kp_n (k := 4) (T.def_ 14) sc_Stretches_weir (fun _ _ _ _ _ _ us hl => match us, hl with | [_, _, _, _, _], _ => rfl) (fun xs M Q h => ?len) (fun cdv A outer s H E hr => ⟨_, _, ⟨
    (pss_cons (ps_set (i := 5) sc_Stretches_weir.nd rfl (Or.inl rfl) (pe_def c_cut_at (hr.mono (by decide)) (by rfl) (T.glo 10) (pa_cons (pe_fld (pv 0) rfl) (pa_cons (pe_dget (hu_of hr) (pe_fld (pv 0) rfl) (pv 1) (fun _ _ => rfl)) (pa_cons (pv 2) pa_nil))))) (pss_cons (ps_expr (pe_mt_ (pv 0) T.cls_Stretches T.me_Stretches_part_at c_Stretches_part_at (hr.mono (by decide)) (pa_cons (pv 5) pa_nil))) (pss_cons (ps_asg (pe_tupS (pa_cons (pe_dget (hu_of hr) (pe_fld (pv 0) rfl) (pv 1) (fun _ _ => rfl)) (pa_cons (pe_callB call_len_seq (by rfl) (T.free 68) PySem.boot_len (pa_cons (pe_fld (pv 0) rfl) pa_nil)) pa_nil))) (pg_tup (n := 2) rfl (pgs_cons (pg_name (i := 6) sc_Stretches_weir.nd rfl (Or.inr rfl)) (pgs_cons (pg_name (i := 7) sc_Stretches_weir.nd rfl (Or.inl rfl)) pgs_nil)))) (pss_cons (ps_set (i := 8) sc_Stretches_weir.nd rfl (Or.inr rfl) (pe_ifExp (pt_cmpR op_isN (pv 5) pe_non (nomark _)) (pv 7) (pe_op op_add (pe_def c_place_for (hr.mono (by decide)) (by rfl) (T.glo 11) (pa_cons (pe_fld (pv 0) rfl) (pa_cons (pv 5) pa_nil))) (pe_callTy call_int1 (by rfl) (T.free 78) (by decide +kernel) (pa_cons (pe_cmpR (op_neD hr.units) (pv 5) (pe_glob (v := .ref (He.ga K "NONE")) (by rfl) (T.glo 50) rfl) (nomark _)) pa_nil))))) (pss_cons (ps_dput (hu_of hr) (pe_fld (pv 0) rfl) (pv 3) (pe_lc (own := [("place", 9)]) rfl sc_Stretches_weir.nd (pi_range1 (by rfl) (T.free 75) (pa_cons (pv 7) pa_nil)) (blkOk_by (N := N_Stretches_weir) (sc := L2.defScope s_Stretches_weir) (by decide +kernel)) (fun _ _ _ _ _ => (pg_name (i := 9) sc_Stretches_weir.nd rfl (Or.inl rfl))) (fun _ _ _ _ _ => pts_nil) (fun _ _ _ _ _ => (pe_ifExp (pt_cmpR op_lt (pv 9) (pv 8) (nomark _)) (pe_ix ix_seq (pv 6) (pv 9) (fun _ _ => rfl)) (pe_glob (v := .ref (He.ga K "NONE")) (by rfl) (T.glo 50) rfl)))) rfl) (pss_one (ps_dput (hu_of hr) (pe_fld (pv 0) rfl) (pv 4) (pe_lc (own := [("place", 9)]) rfl sc_Stretches_weir.nd (pi_range1 (by rfl) (T.free 75) (pa_cons (pv 7) pa_nil)) (blkOk_by (N := N_Stretches_weir) (sc := L2.defScope s_Stretches_weir) (by decide +kernel)) (fun _ _ _ _ _ => (pg_name (i := 9) sc_Stretches_weir.nd rfl (Or.inl rfl))) (fun _ _ _ _ _ => pts_nil) (fun _ _ _ _ _ => (pe_ifExp (pt_cmpR op_lt (pv 9) (pv 8) (nomark _)) (pe_glob (v := .ref (He.ga K "NONE")) (by rfl) (T.glo 50) rfl) (pe_ix ix_seq (pv 6) (pv 9) (fun _ _ => rfl))))) rfl))))))),
    (ss_seq (ss_asg (se_call (sa_cons (se_fld T.cls_Stretches T.no_Stretches_ends se_var) (sa_cons (se_dget (se_fld T.cls_Stretches T.no_Stretches_flows se_var) se_var) (sa_cons se_var sa_nil)))) sg_nm) (ss_seq (ss_drop (se_meth se_var (sa_cons se_var sa_nil))) (ss_seq (ss_asg (se_tup (sa_cons (se_dget (se_fld T.cls_Stretches T.no_Stretches_flows se_var) se_var) (sa_cons (se_cb sn_len (sa_cons (se_fld T.cls_Stretches T.no_Stretches_ends se_var) sa_nil)) sa_nil))) (sg_tup (sgs_cons sg_nm (sgs_cons sg_nm sgs_nil)))) (ss_seq (ss_asg (se_if (st_T (se_op s2_is se_var se_non)) se_var (se_op s2_I0 (se_call (sa_cons (se_fld T.cls_Stretches T.no_Stretches_ends se_var) (sa_cons se_var sa_nil))) (se_cb sn_int (sa_cons (se_op s2_ne se_var (se_c T.c_NONE)) sa_nil)))) sg_nm) (ss_seq (ss_dput (se_fld T.cls_Stretches T.no_Stretches_flows se_var) se_var (se_lc (si_range (sa_cons se_var sa_nil)) sg_nm (wg_nm (by decide)) st_yes' (se_if (st_T (se_op s2_B0 se_var se_var)) (se_op s2_ix se_var se_var) (se_c T.c_NONE)))) (ss_dput (se_fld T.cls_Stretches T.no_Stretches_flows se_var) se_var (se_lc (si_range (sa_cons se_var sa_nil)) sg_nm (wg_nm (by decide)) st_yes' (se_if (st_T (se_op s2_B0 se_var se_var)) (se_c T.c_NONE) (se_op s2_ix se_var se_var)))))))))⟩, fun xs M Qa h => ?body⟩)
  case len => obtain ⟨a, f, ch, t, r, q, s, M0, rfl, _⟩ := h; rfl
  case body =>
    obtain ⟨a, f, ch, t, r, q, st, M0, rfl, rfl, wf, ⟨⟨row, hr0⟩, fq, ok, fw, wf2⟩, qq⟩ := h
    obtain ⟨ha, er⟩ := get_row hr0
    rw [er] at ok fw wf2
    refine ⟨_, rfl, a, _, [], _, _, rfl, rfl, rfl, _, rfl, a, _, [], _, _, rfl, rfl, rfl, _, rfl, f, _, _, _, [_], _, rfl, rfl, rfl, ha, _, rfl, st.es, row, q, rfl, fq, ok, ?_⟩
    refine ⟨_, rfl, a, _, [], _, rfl, rfl, rfl, _, rfl, a, f, cutAt st.es row q, st, M0, rfl, rfl, wf, fw, fun f1 => ?_⟩
    unfold weirS at qq
    rw [er] at qq
    simp only at qq
    generalize cutAt st.es row q = wh at qq fw wf2
    obtain ⟨row1, hr1⟩ := part_row wh hr0
    generalize partAt st wh = s1 at qq wf2 hr1
    obtain ⟨ha1, er1⟩ := get_row hr1
    rw [er1] at qq
    have l1 : row1.length = s1.es.length := wf2.len _ (getP_mem hr1)
    refine ⟨_, rfl, a, _, [], _, _, rfl, rfl, rfl, _, rfl, f1, _, _, _, [_], _, rfl, rfl, rfl, ha1, _, rfl, a, _, [], _, _, rfl, rfl, rfl, .inl ⟨_, rfl, _, rfl, (show 2 ≤ 1000000 by decide), _, rfl, rfl, _, _, rfl, _, _, rfl, rfl, ?_⟩⟩
    have hlo : ∀ fst : Nat, PyData.list ((List.range s1.es.length).map fun i => fr (if i < fst then row1.getD i 0 else 0)) = rowD (loR fst s1.es.length row1) := fun fst => by
      unfold rowD loR
      rw [List.map_map]; rfl
    have hhi : ∀ fst : Nat, PyData.list ((List.range s1.es.length).map fun i => fr (if i < fst then 0 else row1.getD i 0)) = rowD (hiR fst s1.es.length row1) := fun fst => by
      unfold rowD hiR
      rw [List.map_map]; rfl
    have hn : s1.es.length ≤ 1000000 := by have := wf2.le; omega
    have hk : (asK rowD s1.rows).length ≤ 10000 := by rw [asK_len]; exact wf2.lr
    rw [List.length_map]
    refine ⟨_, rfl, _, rfl, rfl, _, rfl, ?_⟩
    cases wh with
    | none =>
      refine iteB (fun _ => ?_) (fun z => nomatch z)
      refine ⟨_, rfl, ?_⟩
      have e0 : s1.es.length = firstOf s1.es none := rfl
      have e9 : (s1.es.length : Int) = (firstOf s1.es none : Int) := rfl
      refine ⟨_, rfl, s1.es.length, rfl, hn, lcS (List.range s1.es.length) (fun i => .d (.int (i : Int))) (fun i => fr (if i < firstOf s1.es none then row1.getD i 0 else 0)) (by rw [List.length_range]; exact hn) (fun i hi p Z hZ => ?_) ?_⟩
      · have hi2 : i < row1.length := by rw [l1]; exact List.mem_range.mp hi
        refine ⟨_, rfl, _, rfl, _, _, rfl, rfl, _, rfl, iteB (fun e => ?_) (fun e => ?_)⟩
        · have e2 : i < firstOf s1.es none := by
            have e3 : (i : Int) < (firstOf s1.es none : Int) := by rw [← e9]; exact of_decide_eq_true e
            omega
          rw [if_pos e2] at hZ
          exact ⟨_, rfl, _, rfl, _, _, _, .inr rfl, rfl, atI_nat _ _ _ (row_at hi2), _, _, rfl, Sub.refl _, rfl, hZ⟩
        · have e2 : ¬ i < firstOf s1.es none := by
            have e3 : ¬ (i : Int) < (firstOf s1.es none : Int) := by rw [← e9]; exact of_decide_eq_false e
            omega
          rw [if_neg e2] at hZ
          exact ⟨_, _, rfl, Sub.refl _, rfl, hZ⟩
      rw [hlo]
      refine ⟨_, rfl, a, _, [], _, _, rfl, rfl, rfl, _, rfl, f1, _, _, [_], _, rfl, rfl, rfl, by omega, ?_⟩
      rw [asK_put]
      refine ⟨_, rfl, s1.es.length, rfl, hn, lcS (List.range s1.es.length) (fun i => .d (.int (i : Int))) (fun i => fr (if i < firstOf s1.es none then 0 else row1.getD i 0)) (by rw [List.length_range]; exact hn) (fun i hi p Z hZ => ?_) ?_⟩
      · have hi2 : i < row1.length := by rw [l1]; exact List.mem_range.mp hi
        refine ⟨_, rfl, _, rfl, _, _, rfl, rfl, _, rfl, iteB (fun e => ?_) (fun e => ?_)⟩
        · have e2 : i < firstOf s1.es none := by
            have e3 : (i : Int) < (firstOf s1.es none : Int) := by rw [← e9]; exact of_decide_eq_true e
            omega
          rw [if_pos e2] at hZ
          exact ⟨_, _, rfl, Sub.refl _, rfl, hZ⟩
        · have e2 : ¬ i < firstOf s1.es none := by
            have e3 : ¬ (i : Int) < (firstOf s1.es none : Int) := by rw [← e9]; exact of_decide_eq_false e
            omega
          rw [if_neg e2] at hZ
          exact ⟨_, rfl, _, rfl, _, _, _, .inr rfl, rfl, atI_nat _ _ _ (row_at hi2), _, _, rfl, Sub.refl _, rfl, hZ⟩
      rw [hhi]
      refine ⟨_, rfl, a, _, [], _, _, rfl, rfl, rfl, _, rfl, f1, _, _, [_], _, rfl, rfl, rfl, ?_, ?_⟩
      · rw [asK_len]
        have := putP_len s1.rows t (loR (firstOf s1.es none) s1.es.length row1)
        have := wf2.lr
        omega
      rw [asK_put]
      exact ⟨_, Sub.refl _, qq f1⟩
    | some w =>
      refine iteB (fun z => nomatch z) (fun _ => ?_)
      have fw1 := fw w rfl
      refine ⟨_, rfl, a, _, [], _, _, rfl, rfl, rfl, _, rfl, _, w, rfl, fw1, by have := wf2.le; omega, wf2.fe, _, rfl, _, _, rfl, rfl, sh_fr _, sh_fr _, .inr ⟨_, rfl, _, _, rfl, rfl, ?_⟩⟩
      have e0 : (placeFor s1.es w : Int) + (if (!PyData.eqv (fr w) (fr 0)) = true then 1 else 0) = (firstOf s1.es (some w) : Int) := by
        rw [eqv_fr]
        show _ = ((placeFor s1.es w + (if w = 0 then 0 else 1) : Nat) : Int)
        by_cases h : w = 0
        · rw [if_pos h, decide_eq_true h]; rfl
        · rw [if_neg h, decide_eq_false h]; rfl
      have e9 : (placeFor s1.es w : Int) + (if (!PyData.eqv (eD (some w)) (fr 0)) = true then 1 else 0) = (firstOf s1.es (some w) : Int) := e0
      refine ⟨_, rfl, s1.es.length, rfl, hn, lcS (List.range s1.es.length) (fun i => .d (.int (i : Int))) (fun i => fr (if i < firstOf s1.es (some w) then row1.getD i 0 else 0)) (by rw [List.length_range]; exact hn) (fun i hi p Z hZ => ?_) ?_⟩
      · have hi2 : i < row1.length := by rw [l1]; exact List.mem_range.mp hi
        refine ⟨_, rfl, _, rfl, _, _, rfl, rfl, _, rfl, iteB (fun e => ?_) (fun e => ?_)⟩
        · have e2 : i < firstOf s1.es (some w) := by
            have e3 : (i : Int) < (firstOf s1.es (some w) : Int) := by rw [← e9]; exact of_decide_eq_true e
            omega
          rw [if_pos e2] at hZ
          exact ⟨_, rfl, _, rfl, _, _, _, .inr rfl, rfl, atI_nat _ _ _ (row_at hi2), _, _, rfl, Sub.refl _, rfl, hZ⟩
        · have e2 : ¬ i < firstOf s1.es (some w) := by
            have e3 : ¬ (i : Int) < (firstOf s1.es (some w) : Int) := by rw [← e9]; exact of_decide_eq_false e
            omega
          rw [if_neg e2] at hZ
          exact ⟨_, _, rfl, Sub.refl _, rfl, hZ⟩
      rw [hlo]
      refine ⟨_, rfl, a, _, [], _, _, rfl, rfl, rfl, _, rfl, f1, _, _, [_], _, rfl, rfl, rfl, by omega, ?_⟩
      rw [asK_put]
      refine ⟨_, rfl, s1.es.length, rfl, hn, lcS (List.range s1.es.length) (fun i => .d (.int (i : Int))) (fun i => fr (if i < firstOf s1.es (some w) then 0 else row1.getD i 0)) (by rw [List.length_range]; exact hn) (fun i hi p Z hZ => ?_) ?_⟩
      · have hi2 : i < row1.length := by rw [l1]; exact List.mem_range.mp hi
        refine ⟨_, rfl, _, rfl, _, _, rfl, rfl, _, rfl, iteB (fun e => ?_) (fun e => ?_)⟩
        · have e2 : i < firstOf s1.es (some w) := by
            have e3 : (i : Int) < (firstOf s1.es (some w) : Int) := by rw [← e9]; exact of_decide_eq_true e
            omega
          rw [if_pos e2] at hZ
          exact ⟨_, _, rfl, Sub.refl _, rfl, hZ⟩
        · have e2 : ¬ i < firstOf s1.es (some w) := by
            have e3 : ¬ (i : Int) < (firstOf s1.es (some w) : Int) := by rw [← e9]; exact of_decide_eq_false e
            omega
          rw [if_neg e2] at hZ
          exact ⟨_, rfl, _, rfl, _, _, _, .inr rfl, rfl, atI_nat _ _ _ (row_at hi2), _, _, rfl, Sub.refl _, rfl, hZ⟩
      rw [hhi]
      refine ⟨_, rfl, a, _, [], _, _, rfl, rfl, rfl, _, rfl, f1, _, _, [_], _, rfl, rfl, rfl, ?_, ?_⟩
      · rw [asK_len]
        have := putP_len s1.rows t (loR (firstOf s1.es (some w)) s1.es.length row1)
        have := wf2.lr
        omega
      rw [asK_put]
      exact ⟨_, Sub.refl _, qq f1⟩

def R_divide (C : Addr) : AN := fun xs M Q => ∃ (a f : Addr) (ch t r : Str) (q : Rat) (s : Sts) (M0 : Sto), xs = [.m a, .d (.str ch), .d (fr q), .d (.str t), .d (.str r)] ∧ M = stM C a f s M0 ∧ WF s ∧ StepOk s (.div ch q t r) ∧ ∀ f', Q (.d .none) (stM C a f' (divS s ch q t r) M0)
abbrev N_Stretches_divide : List Str := ["self", "channel", "share", "to", "rest", "row", "own"]
theorem sc_Stretches_divide : FnScope N_Stretches_divide ["self", "channel", "share", "to", "rest"] (L2.defScope s_Stretches_divide) := ⟨rfl, rfl, rfl, by decide +kernel, rfl, by decide +kernel, by decide +kernel⟩
set_option maxHeartbeats 4000000 in
theorem kp_Stretches_divide (T : Tx K mg) (c_times : Kp P w K mg base 3 (He.ga K "times") ["one", "other"] R_times) (c_minus : Kp P w K mg base 3 (He.ga K "minus") ["one", "other"] R_minus) : Kp P w K mg base 4 (He.ma K (He.ga K "Stretches") "divide") ["self", "channel", "share", "to", "rest"] (R_divide (He.ga K "Stretches")) := by
  refine kp_n (k := 3) (T.def_ 15) sc_Stretches_divide (fun _ _ _ _ _ _ us hl => match us, hl with | [_, _, _, _, _], _ => rfl) (fun xs M Q h => ?len) (fun cdv A outer s H E hr => ⟨_, _, ⟨
    (pss_cons (ps_set (i := 5) sc_Stretches_divide.nd rfl (Or.inl rfl) (pe_dget (hu_of hr) (pe_fld (pv 0) rfl) (pv 1) (fun _ _ => rfl))) (pss_cons (ps_dput (hu_of hr) (pe_fld (pv 0) rfl) (pv 3) (pe_lc (own := [("own", 6)]) rfl sc_Stretches_divide.nd (pi_list (pv 5)) (blkOk_by (N := N_Stretches_divide) (sc := L2.defScope s_Stretches_divide) (by decide +kernel)) (fun _ _ _ _ _ => (pg_name (i := 6) sc_Stretches_divide.nd rfl (Or.inl rfl))) (fun _ _ _ _ _ => pts_nil) (fun _ _ _ _ _ => (pe_def c_times (hr.mono (by decide)) (by rfl) (T.glo 6) (pa_cons (pv 6) (pa_cons (pv 2) pa_nil))))) rfl) (pss_one (ps_dput (hu_of hr) (pe_fld (pv 0) rfl) (pv 4) (pe_lc (own := [("own", 6)]) rfl sc_Stretches_divide.nd (pi_list (pv 5)) (blkOk_by (N := N_Stretches_divide) (sc := L2.defScope s_Stretches_divide) (by decide +kernel)) (fun _ _ _ _ _ => (pg_name (i := 6) sc_Stretches_divide.nd rfl (Or.inl rfl))) (fun _ _ _ _ _ => pts_nil) (fun _ _ _ _ _ => (pe_def c_times (hr.mono (by decide)) (by rfl) (T.glo 6) (pa_cons (pv 6) (pa_cons (pe_def c_minus (hr.mono (by decide)) (by rfl) (T.glo 5) (pa_cons (pe_glob (v := .ref (He.ga K "WHOLE_fractions")) (by rfl) (T.glo 51) rfl) (pa_cons (pv 2) pa_nil))) pa_nil))))) rfl)))),
    (ss_seq (ss_asg (se_dget (se_fld T.cls_Stretches T.no_Stretches_flows se_var) se_var) sg_nm) (ss_seq (ss_dput (se_fld T.cls_Stretches T.no_Stretches_flows se_var) se_var (se_lc (si_lst se_var) sg_nm (wg_nm (by decide)) st_yes' (se_call (sa_cons se_var (sa_cons se_var sa_nil))))) (ss_dput (se_fld T.cls_Stretches T.no_Stretches_flows se_var) se_var (se_lc (si_lst se_var) sg_nm (wg_nm (by decide)) st_yes' (se_call (sa_cons se_var (sa_cons (se_call (sa_cons (se_c T.c_WHOLE_fractions) (sa_cons se_var sa_nil))) sa_nil)))))))⟩, fun xs M Qa h => ?body⟩)
  case len => obtain ⟨a, f, ch, t, r, q, s, M0, rfl, _⟩ := h; rfl
  case body =>
    obtain ⟨a, f, ch, t, r, q, st, M0, rfl, rfl, wf, ⟨⟨row, hr0⟩, fq, q1, f1⟩, qq⟩ := h
    obtain ⟨ha, er⟩ := get_row hr0
    unfold divS at qq
    rw [er] at qq
    have hm := getP_mem hr0
    have hn : row.length ≤ 1000000 := by rw [wf.len _ hm]; have := wf.le; omega
    have frow : ∀ x ∈ row, Fit x := wf.fr _ hm
    have e1 : PyData.list (row.map fun x => fr (x * q)) = rowD (row.map (· * q)) := by
      unfold rowD
      rw [List.map_map]; rfl
    have e2 : PyData.list (row.map fun x => fr (x * (1 - q))) = rowD (row.map (· * (1 - q))) := by
      unfold rowD
      rw [List.map_map]; rfl
    have hk : (asK rowD st.rows).length ≤ 10000 := by rw [asK_len]; exact wf.lr
    have er : row.map (fun x => Va.d (fr x)) = (row.map fr).map .d := by rw [List.map_map]; rfl
    refine ⟨_, rfl, a, _, [], _, _, rfl, rfl, rfl, _, rfl, f, _, _, _, [_], _, rfl, rfl, rfl, ha, ?_⟩
    refine ⟨_, rfl, _, rfl, ?_⟩
    rw [← er]
    refine lcS row (fun x => .d (fr x)) (fun x => fr (x * q)) hn (fun x hx p Z hZ => ?_) ?_
    · exact ⟨_, rfl, _, rfl, x, q, rfl, frow x hx, fq, _, _, rfl, Sub.refl _, rfl, hZ⟩
    rw [e1]
    refine ⟨_, rfl, a, _, [], _, _, rfl, rfl, rfl, _, rfl, f, _, _, [_], _, rfl, rfl, rfl, by omega, ?_⟩
    rw [asK_put]
    refine ⟨_, rfl, _, rfl, ?_⟩
    rw [← er]
    refine lcS row (fun x => .d (fr x)) (fun x => fr (x * (1 - q))) hn (fun x hx p Z hZ => ?_) ?_
    · exact ⟨_, rfl, _, rfl, 1, q, rfl, fit1, fq, q1, x, 1 - q, rfl, frow x hx, f1, _, _, rfl, Sub.refl _, rfl, hZ⟩
    rw [e2]
    refine ⟨_, rfl, a, _, [], _, _, rfl, rfl, rfl, _, rfl, f, _, _, [_], _, rfl, rfl, rfl, ?_, ?_⟩
    · rw [asK_len]
      have := putP_len st.rows t (row.map (· * q))
      have := wf.lr
      omega
    rw [asK_put]
    exact ⟨_, Sub.refl _, qq f⟩

def R_join (C : Addr) : AN := fun xs M Q => ∃ (a f : Addr) (ch dh t : Str) (s : Sts) (M0 : Sto), xs = [.m a, .d (.str ch), .d (.str dh), .d (.str t)] ∧ M = stM C a f s M0 ∧ WF s ∧ StepOk s (.join ch dh t) ∧ ∀ f', Q (.d .none) (stM C a f' (joinS s ch dh t) M0)
abbrev N_Stretches_join : List Str := ["self", "one", "other", "to", "mine", "its"]
theorem sc_Stretches_join : FnScope N_Stretches_join ["self", "one", "other", "to"] (L2.defScope s_Stretches_join) := ⟨rfl, rfl, rfl, by decide +kernel, rfl, by decide +kernel, by decide +kernel⟩
set_option maxHeartbeats 4000000 in
theorem kp_Stretches_join (T : Tx K mg) (c_plus : Kp P w K mg base 3 (He.ga K "plus") ["one", "other"] R_plus) : Kp P w K mg base 4 (He.ma K (He.ga K "Stretches") "join") ["self", "one", "other", "to"] (R_join (He.ga K "Stretches")) := by
  refine kp_n (k := 3) (T.def_ 16) sc_Stretches_join (fun _ _ _ _ _ _ us hl => match us, hl with | [_, _, _, _], _ => rfl) (fun xs M Q h => ?len) (fun cdv A outer s H E hr => ⟨_, _, ⟨
    (pss_one (ps_dput (hu_of hr) (pe_fld (pv 0) rfl) (pv 3) (pe_lc (own := [("mine", 4), ("its", 5)]) rfl sc_Stretches_join.nd (RZ.pi_zipA (by rfl) (T.free 73) (pa_cons (pe_dget (hu_of hr) (pe_fld (pv 0) rfl) (pv 1) (fun _ _ => rfl)) (pa_cons (pe_dget (hu_of hr) (pe_fld (pv 0) rfl) (pv 2) (fun _ _ => rfl)) pa_nil))) (blkOk_by (N := N_Stretches_join) (sc := L2.defScope s_Stretches_join) (by decide +kernel)) (fun _ _ _ _ _ => (pg_tup (n := 2) rfl (pgs_cons (pg_name (i := 4) sc_Stretches_join.nd rfl (Or.inl rfl)) (pgs_cons (pg_name (i := 5) sc_Stretches_join.nd rfl (Or.inl rfl)) pgs_nil)))) (fun _ _ _ _ _ => pts_nil) (fun _ _ _ _ _ => (pe_def c_plus (hr.mono (by decide)) (by rfl) (T.glo 4) (pa_cons (pv 4) (pa_cons (pv 5) pa_nil))))) rfl)),
    (ss_dput (se_fld T.cls_Stretches T.no_Stretches_flows se_var) se_var (se_lc (si_zipA (sa_cons (se_dget (se_fld T.cls_Stretches T.no_Stretches_flows se_var) se_var) (sa_cons (se_dget (se_fld T.cls_Stretches T.no_Stretches_flows se_var) se_var) sa_nil))) (sg_tup (sgs_cons sg_nm (sgs_cons sg_nm sgs_nil))) (wg_tup (wgs_cons (wg_nm (by decide)) (wgs_cons (wg_nm (by decide)) wgs_nil))) st_yes' (se_call (sa_cons se_var (sa_cons se_var sa_nil)))))⟩, fun xs M Qa h => ?body⟩)
  case len => obtain ⟨a, f, ch, dh, t, s, M0, rfl, _⟩ := h; rfl
  case body =>
    obtain ⟨a, f, ch, dh, t, st, M0, rfl, rfl, wf, ⟨⟨r1, h1⟩, r2, h2⟩, qq⟩ := h
    obtain ⟨ha1, er1⟩ := get_row h1
    obtain ⟨ha2, er2⟩ := get_row h2
    unfold joinS at qq
    rw [er1, er2] at qq
    have m1 := getP_mem h1
    have m2 := getP_mem h2
    have hn : (r1.zip r2).length ≤ 1000000 := by
      rw [List.length_zip, wf.len _ m1]
      have := wf.le
      omega
    have e1 : PyData.list ((r1.zip r2).map fun p => fr (p.1 + p.2)) = rowD (List.zipWith (· + ·) r1 r2) := by
      unfold rowD
      rw [zw_map]
    have hk : (asK rowD st.rows).length ≤ 10000 := by rw [asK_len]; exact wf.lr
    refine ⟨_, rfl, a, _, [], _, _, rfl, rfl, rfl, _, rfl, f, _, _, _, [_], _, rfl, rfl, rfl, ha1, _, rfl, a, _, [], _, _, rfl, rfl, rfl, _, rfl, f, _, _, _, [_], _, rfl, rfl, rfl, ha2, _, _, .inl rfl, ?_⟩
    rw [zipD_map]
    refine lcS (r1.zip r2) (fun p => .w [fr p.1, fr p.2]) (fun p => fr (p.1 + p.2)) hn (fun x hx p Z hZ => ?_) ?_
    · obtain ⟨x1, x2⟩ := x
      have hx1 := (List.of_mem_zip hx).1
      have hx2 := (List.of_mem_zip hx).2
      exact ⟨_, rfl, rfl, _, _, rfl, _, _, rfl, rfl, _, rfl, _, rfl, x1, x2, rfl, wf.fr _ m1 _ hx1, wf.fr _ m2 _ hx2, _, _, rfl, Sub.refl _, rfl, hZ⟩
    rw [e1]
    refine ⟨_, rfl, a, _, [], _, _, rfl, rfl, rfl, _, rfl, f, _, _, [_], _, rfl, rfl, rfl, by omega, ?_⟩
    rw [asK_put]
    exact ⟨_, Sub.refl _, qq f⟩


def takeS (s : Sts) : Part → Sts
  | .weir a q t r => weirS s a q t r
  | .div a q t r => divS s a q t r
  | .join a b t => joinS s a b t
abbrev StrOk (x : Str) : Prop := PyData.strOk x = true
def Part.NmOk : Part → Prop
  | .weir a _ t r => StrOk a ∧ StrOk t ∧ StrOk r
  | .div a _ t r => StrOk a ∧ StrOk t ∧ StrOk r
  | .join a b t => StrOk a ∧ StrOk b ∧ StrOk t
theorem eqv_strs (a b : Str) : PyData.eqv (.str a) (.str b) = (a == b) := by simp only [PyData.eqv]
theorem sh_str {a : Str} (h : StrOk a) : SeqAt.shaped (.str a) = true := pl_shaped (pl_str (n := 0) h)

def R_take (C : Addr) : AN := fun xs M Q => ∃ (a f : Addr) (p : Part) (s : Sts) (M0 : Sto), xs = [.m a, .d (partD p)] ∧ M = stM C a f s M0 ∧ WF s ∧ StepOk s p ∧ ∀ f', Q (.d .none) (stM C a f' (takeS s p) M0)
abbrev N_Stretches_take : List Str := ["self", "part"]
theorem sc_Stretches_take : FnScope N_Stretches_take ["self", "part"] (L2.defScope s_Stretches_take) := ⟨rfl, rfl, rfl, by decide +kernel, rfl, by decide +kernel, by decide +kernel⟩
set_option maxHeartbeats 4000000 in
theorem kp_Stretches_take (T : Tx K mg) (c_Stretches_weir : Kp P w K mg base 5 (He.ma K (He.ga K "Stretches") "weir") ["self", "channel", "limit", "to", "rest"] (R_weir (He.ga K "Stretches"))) (c_Stretches_divide : Kp P w K mg base 4 (He.ma K (He.ga K "Stretches") "divide") ["self", "channel", "share", "to", "rest"] (R_divide (He.ga K "Stretches"))) (c_Stretches_join : Kp P w K mg base 4 (He.ma K (He.ga K "Stretches") "join") ["self", "one", "other", "to"] (R_join (He.ga K "Stretches"))) : Kp P w K mg base 6 (He.ma K (He.ga K "Stretches") "take") ["self", "part"] (R_take (He.ga K "Stretches")) := by
  refine kp_n (k := 5) (T.def_ 17) sc_Stretches_take (fun _ _ _ _ _ _ us hl => match us, hl with | [_, _], _ => rfl) (fun xs M Q h => ?len) (fun cdv A outer s H E hr => ⟨_, _, ⟨
    (pss_one (ps_if (pt_cmpR (op_eqD hr.units) (pe_ix ix_seq (pv 1) pe_int (fun _ _ => rfl)) pe_str (nomark _)) (pss_one (ps_expr (pe_mt_ (pv 0) T.cls_Stretches T.me_Stretches_weir c_Stretches_weir (hr.mono (by decide)) (pa_cons (pe_ix ix_seq (pv 1) pe_int (fun _ _ => rfl)) (pa_cons (pe_ix ix_seq (pv 1) pe_int (fun _ _ => rfl)) (pa_cons (pe_ix ix_seq (pv 1) pe_int (fun _ _ => rfl)) (pa_cons (pe_ix ix_seq (pv 1) pe_int (fun _ _ => rfl)) pa_nil))))))) (pss_one (ps_if (pt_cmpR (op_eqD hr.units) (pe_ix ix_seq (pv 1) pe_int (fun _ _ => rfl)) pe_str (nomark _)) (pss_one (ps_expr (pe_mt_ (pv 0) T.cls_Stretches T.me_Stretches_divide c_Stretches_divide (hr.mono (by decide)) (pa_cons (pe_ix ix_seq (pv 1) pe_int (fun _ _ => rfl)) (pa_cons (pe_ix ix_seq (pv 1) pe_int (fun _ _ => rfl)) (pa_cons (pe_ix ix_seq (pv 1) pe_int (fun _ _ => rfl)) (pa_cons (pe_ix ix_seq (pv 1) pe_int (fun _ _ => rfl)) pa_nil))))))) (pss_one (ps_expr (pe_mt_ (pv 0) T.cls_Stretches T.me_Stretches_join c_Stretches_join (hr.mono (by decide)) (pa_cons (pe_ix ix_seq (pv 1) pe_int (fun _ _ => rfl)) (pa_cons (pe_ix ix_seq (pv 1) pe_int (fun _ _ => rfl)) (pa_cons (pe_ix ix_seq (pv 1) pe_int (fun _ _ => rfl)) pa_nil)))))))))),
    (ss_if (st_T (se_op s2_eq (se_op s2_ix se_var se_int) se_str)) (ss_drop (se_meth se_var (sa_cons (se_op s2_ix se_var se_int) (sa_cons (se_op s2_ix se_var se_int) (sa_cons (se_op s2_ix se_var se_int) (sa_cons (se_op s2_ix se_var se_int) sa_nil)))))) (ss_if (st_T (se_op s2_eq (se_op s2_ix se_var se_int) se_str)) (ss_drop (se_meth se_var (sa_cons (se_op s2_ix se_var se_int) (sa_cons (se_op s2_ix se_var se_int) (sa_cons (se_op s2_ix se_var se_int) (sa_cons (se_op s2_ix se_var se_int) sa_nil)))))) (ss_drop (se_meth se_var (sa_cons (se_op s2_ix se_var se_int) (sa_cons (se_op s2_ix se_var se_int) (sa_cons (se_op s2_ix se_var se_int) sa_nil)))))))⟩, fun xs M Qa h => ?body⟩)
  case len => obtain ⟨a, f, p, s, M0, rfl, _⟩ := h; rfl
  case body =>
    obtain ⟨a, f, p, st, M0, rfl, rfl, wf, ok, qq⟩ := h
    match p, ok, qq with
    | .weir c q t r, ok, qq =>
      refine ⟨_, rfl, _, 0, _, .inl rfl, rfl, rfl, _, _, rfl, rfl, sh_str (by decide +kernel), sh_str (by decide +kernel), _, rfl, iteB (fun _ => ?_) (fun z => absurd z (by rw [eqv_strs]; decide))⟩
      refine ⟨_, rfl, a, _, [], _, rfl, rfl, rfl, _, rfl, _, 1, _, .inl rfl, rfl, rfl, _, rfl, _, 2, _, .inl rfl, rfl, rfl, _, rfl, _, 3, _, .inl rfl, rfl, rfl, _, rfl, _, 4, _, .inl rfl, rfl, rfl, a, f, c, t, r, q, st, M0, rfl, rfl, wf, ok, fun f1 => ?_⟩
      exact ⟨_, Sub.refl _, qq f1⟩
    | .div c q t r, ok, qq =>
      refine ⟨_, rfl, _, 0, _, .inl rfl, rfl, rfl, _, _, rfl, rfl, sh_str (by decide +kernel), sh_str (by decide +kernel), _, rfl, iteB (fun z => absurd z (by rw [id, eqv_strs]; decide)) (fun _ => ?_)⟩
      refine ⟨_, rfl, _, 0, _, .inl rfl, rfl, rfl, _, _, rfl, rfl, sh_str (by decide +kernel), sh_str (by decide +kernel), _, rfl, iteB (fun _ => ?_) (fun z => absurd z (by rw [eqv_strs]; decide))⟩
      refine ⟨_, rfl, a, _, [], _, rfl, rfl, rfl, _, rfl, _, 1, _, .inl rfl, rfl, rfl, _, rfl, _, 2, _, .inl rfl, rfl, rfl, _, rfl, _, 3, _, .inl rfl, rfl, rfl, _, rfl, _, 4, _, .inl rfl, rfl, rfl, a, f, c, t, r, q, st, M0, rfl, rfl, wf, ok, fun f1 => ?_⟩
      exact ⟨_, Sub.refl _, qq f1⟩
    | .join c d t, ok, qq =>
      refine ⟨_, rfl, _, 0, _, .inl rfl, rfl, rfl, _, _, rfl, rfl, sh_str (by decide +kernel), sh_str (by decide +kernel), _, rfl, iteB (fun z => absurd z (by rw [id, eqv_strs]; decide)) (fun _ => ?_)⟩
      refine ⟨_, rfl, _, 0, _, .inl rfl, rfl, rfl, _, _, rfl, rfl, sh_str (by decide +kernel), sh_str (by decide +kernel), _, rfl, iteB (fun z => absurd z (by rw [id, eqv_strs]; decide)) (fun _ => ?_)⟩
      refine ⟨_, rfl, a, _, [], _, rfl, rfl, rfl, _, rfl, _, 1, _, .inl rfl, rfl, rfl, _, rfl, _, 2, _, .inl rfl, rfl, rfl, _, rfl, _, 3, _, .inl rfl, rfl, rfl, a, f, c, d, t, st, M0, rfl, rfl, wf, ok, fun f1 => ?_⟩
      exact ⟨_, Sub.refl _, qq f1⟩


def st0 : Sts := ⟨[none], [("in", [1])]⟩
/-- every part on the way finds what it asks -/
def RunOk : Sts → List Part → Prop
  | s, [] => WF s
  | s, p :: ps => WF s ∧ StepOk s p ∧ RunOk (takeS s p) ps
theorem RunOk.wf : ∀ {s : Sts} {ps : List Part}, RunOk s ps → WF s
  | _, [], h => h
  | _, _ :: _, h => h.1
def partsD (ps : List Part) : PyData := .tuple (ps.map partD)

def R_strs_of (C : Addr) : AN := fun xs M Q => ∃ (ps : List Part), xs = [.d (partsD ps)] ∧ RunOk st0 ps ∧ ∀ a f, Q (.m a) (stM C a f (ps.foldl takeS st0) M)
abbrev N_stretches_of : List Str := ["parts", "found", "part"]
theorem sc_stretches_of : FnScope N_stretches_of ["parts"] (L2.defScope s_stretches_of) := ⟨rfl, rfl, rfl, by decide +kernel, rfl, by decide +kernel, by decide +kernel⟩
set_option maxHeartbeats 4000000 in
theorem kp_stretches_of (T : Tx K mg) (c_Stretches___init__ : Kp P w K mg base 1 (He.ma K (He.ga K "Stretches") "__init__") ["self"] (R___init__Sts (He.ga K "Stretches"))) (c_Stretches_take : Kp P w K mg base 6 (He.ma K (He.ga K "Stretches") "take") ["self", "part"] (R_take (He.ga K "Stretches"))) : Kp P w K mg base 7 (He.ga K "stretches_of") ["parts"] (R_strs_of (He.ga K "Stretches")) := by
  refine kp_n (k := 6) (T.def_ 18) sc_stretches_of (fun _ _ _ _ _ _ us hl => match us, hl with | [_], _ => rfl) (fun xs M Q h => ?len) (fun cdv A outer s H E hr => ⟨_, _, ⟨
    (pss_cons (ps_set (i := 1) sc_stretches_of.nd rfl (Or.inl rfl) (pe_mk0 (T.mk_Stretches) c_Stretches___init__ (hr.mono (by decide)) (by rfl) (T.glo 65) )) (pss_cons (ps_for PassesOwn.never rfl (pi_tup (pv 0)) (pg_name (i := 2) sc_stretches_of.nd rfl (Or.inl rfl)) (pss_one (ps_expr (pe_mt_ (pv 1) T.cls_Stretches T.me_Stretches_take c_Stretches_take (hr.mono (by decide)) (pa_cons (pv 2) pa_nil))))) (pss_one (ps_ret (pv 1))))),
    (ss_seq (ss_asg (se_make sa_nil) sg_nm) (ss_seq (ss_for (si_tup se_var) sg_nm (ss_drop (se_meth se_var (sa_cons se_var sa_nil)))) (ss_ret se_var)))⟩, fun xs M Qa h => ?body⟩)
  case len => obtain ⟨ps, rfl, _⟩ := h; rfl
  case body =>
    obtain ⟨ps, rfl, ok, q⟩ := h
    refine fun a => ⟨a, M, rfl, rfl, fun f => ⟨rfl, ?_⟩⟩
    refine ⟨_, rfl, _, rfl, fun rest ρ M' => ∃ (f : Addr) (todo : List Part) (s : Sts) (u : Option Va), rest = (todo.map partD).map .d ∧ ρ = [some (.d (partsD ps)), some (.m a), u] ∧ M' = stM (He.ga K "Stretches") a f s M ∧ RunOk s todo ∧ todo.foldl takeS s = ps.foldl takeS st0, ⟨f, ps, st0, none, rfl, rfl, rfl, ok, rfl⟩, ?_, ?_⟩
    · rintro d r ρ M' ⟨f, todo, s, u, e1, rfl, rfl, ok, e2⟩
      match todo, e1, ok, e2 with
      | p :: todo, e1, ok, e2 =>
        injection e1 with e3 e4
        subst e3
        refine ⟨_, rfl, a, _, [], _, rfl, rfl, rfl, _, rfl, a, f, p, s, M, rfl, rfl, ok.1, ok.2.1, fun f1 => ?_⟩
        exact ⟨f1, todo, takeS s p, _, e4, rfl, rfl, ok.2.2, e2⟩
    · rintro ρ M' ⟨f, todo, s, u, e1, rfl, rfl, ok, e2⟩
      match todo, e1, e2 with
      | [], _, e2 =>
        have e3 : s = ps.foldl takeS st0 := e2
        subst e3
        exact ⟨_, rfl, _, Sub.refl _, q a f⟩

end
end LN
namespace LN
open PySem PySem.Spec PyProof.Rows L2 SlX

/-! ### sorted texts without doubles -/
def insS (x : Str) : List Str → List Str
  | [] => [x]
  | y :: r => if ltS y x = true then y :: insS x r else x :: y :: r
def isortS : List Str → List Str
  | [] => []
  | x :: r => insS x (isortS r)
def setS (ys : List Str) : List Str := isortS (gather [] ys)
theorem insS_perm (x : Str) : ∀ l : List Str, (insS x l).Perm (x :: l)
  | [] => .refl _
  | y :: r => by
    unfold insS
    split
    · exact (List.Perm.cons y (insS_perm x r)).trans (.swap _ _ _)
    · exact .refl _
theorem isortS_perm : ∀ l : List Str, (isortS l).Perm l
  | [] => .refl _
  | x :: r => (insS_perm x _).trans (.cons x (isortS_perm r))
theorem ltS_irr (a : Str) : ltS a a = false := decide_eq_false (List.lt_irrefl _)
theorem ltS_asy {a b : Str} (h : ltS a b = true) : ltS b a = false := decide_eq_false (lt_asym' (of_decide_eq_true h))
theorem ltS_tot {a b : Str} (h1 : ltS a b = false) (h2 : ltS b a = false) : a = b := cps_inj (tot' (of_decide_eq_false h1) (of_decide_eq_false h2))
theorem ltS_trans {a b c : Str} (h1 : ltS a b = true) (h2 : ltS b c = true) : ltS a c = true := decide_eq_true (List.lt_trans (of_decide_eq_true h1) (of_decide_eq_true h2))
/-- ≤ -/
def leS (a b : Str) : Prop := ltS b a = false
theorem leS_of {a b : Str} (h : ltS a b = true) : leS a b := ltS_asy h
theorem leS_trans {a b c : Str} (h1 : leS a b) (h2 : leS b c) : leS a c := by
  unfold leS at *
  cases q : ltS c a with
  | false => rfl
  | true =>
    cases z : ltS a b with
    | true => rw [ltS_trans q z] at h2; cases h2
    | false =>
      have e : a = b := ltS_tot z h1
      rw [e] at q
      rw [q] at h2; cases h2
theorem insS_sorted (x : Str) : ∀ l : List Str, l.Pairwise leS → (insS x l).Pairwise leS
  | [], _ => List.pairwise_singleton _ _
  | y :: r, h => by
    obtain ⟨h1, h2⟩ := List.pairwise_cons.mp h
    unfold insS
    by_cases c : ltS y x = true
    · rw [if_pos c]
      refine List.pairwise_cons.mpr ⟨fun z hz => ?_, insS_sorted x r h2⟩
      rcases List.mem_cons.mp ((insS_perm x r).mem_iff.mp hz) with e | e
      · rw [e]; exact leS_of c
      · exact h1 z e
    · rw [if_neg c]
      have xy : leS x y := by unfold leS; simpa using c
      refine List.pairwise_cons.mpr ⟨fun z hz => ?_, h⟩
      rcases List.mem_cons.mp hz with e | e
      · rw [e]; exact xy
      · exact leS_trans xy (h1 z e)
theorem isortS_sorted : ∀ l : List Str, (isortS l).Pairwise leS
  | [] => List.Pairwise.nil
  | x :: r => insS_sorted x _ (isortS_sorted r)
theorem setS_mem (ys : List Str) (k : Str) : k ∈ setS ys ↔ k ∈ ys := by
  unfold setS
  rw [(isortS_perm _).mem_iff, gather_mem]
  simp
theorem setS_nodup (ys : List Str) : (setS ys).Nodup := (isortS_perm _).nodup_iff.mpr (gather_nodup ys [] List.nodup_nil)
theorem strict_of : ∀ {l : List Str}, l.Pairwise leS → l.Nodup → l.Pairwise (fun a b => ltS a b = true)
  | [], _, _ => List.Pairwise.nil
  | x :: r, h, n => by
    obtain ⟨h1, h2⟩ := List.pairwise_cons.mp h
    obtain ⟨n1, n2⟩ := List.nodup_cons.mp n
    refine List.pairwise_cons.mpr ⟨fun y hy => ?_, strict_of h2 n2⟩
    cases q : ltS x y with
    | true => rfl
    | false => exact absurd (ltS_tot q (h1 y hy)) fun e => n1 (e ▸ hy)
theorem setS_strict (ys : List Str) : (setS ys).Pairwise (fun a b => ltS a b = true) := strict_of (isortS_sorted _) (setS_nodup ys)
theorem sorted_uniq {a b : List Str} (p : a.Perm b) (ha : a.Pairwise leS) (hb : b.Pairwise leS) : a = b :=
  List.Perm.eq_of_pairwise (le := leS) (fun x y _ _ h1 h2 => ltS_tot h2 h1) ha hb p
theorem rising_pw : ∀ (l : List Str) (p : Str), risingS p l = true → (p :: l).Pairwise leS
  | [], p, _ => List.pairwise_singleton _ _
  | x :: r, p, h => by
    unfold risingS at h
    obtain ⟨h1, h2⟩ := Bool.and_eq_true_iff.mp h
    have px : leS p x := by
      unfold leS ltS
      rw [ltCps_eq] at h1
      simpa using h1
    have ih := rising_pw r x h2
    refine List.pairwise_cons.mpr ⟨fun z hz => ?_, ih⟩
    rcases List.mem_cons.mp hz with e | e
    · rw [e]; exact px
    · exact leS_trans px ((List.pairwise_cons.mp ih).1 z e)
theorem sortedS_pw {l : List Str} (h : sortedS l = true) : l.Pairwise leS := by
  cases l with
  | nil => exact List.Pairwise.nil
  | cons x r => exact rising_pw r x h
theorem setS_uniq {zs ys : List Str} (p : zs.Perm (gather [] ys)) (s : sortedS zs = true) : zs = setS ys :=
  sorted_uniq (p.trans (isortS_perm _).symm) (sortedS_pw s) (isortS_sorted _)
theorem cut_init {α : Type} (xs : List α) : cutD xs none (some (-1)) = xs.dropLast := by
  unfold cutD
  have e : HT.sIx xs.length xs.length (some (-1)) = xs.length - 1 := by
    show (if (-1 : Int) < 0 then ((-1 : Int) + (xs.length : Int)).toNat else min (-1 : Int).toNat xs.length) = _
    rw [if_pos (by decide)]
    omega
  rw [e]
  show (xs.drop 0).take (xs.length - 1 - 0) = xs.dropLast
  rw [List.drop_zero, Nat.sub_zero, List.dropLast_eq_take]
theorem atI_last {α : Type} (xs : List α) (x : α) (h : xs.getLast? = some x) : atI xs (-1) = some x := by
  have hn : 0 < xs.length := by
    cases xs with
    | nil => simp at h
    | cons _ _ => simp
  unfold atI ixN
  rw [if_neg (by decide), if_pos (show -(xs.length : Int) ≤ -1 by omega)]
  show xs[((-1 : Int) + (xs.length : Int)).toNat]? = some x
  rw [show ((-1 : Int) + (xs.length : Int)).toNat = xs.length - 1 by omega]
  rw [List.getLast?_eq_getElem?] at h
  exact h
end LN
namespace LN
open PySem PySem.Spec PyProof.Rows L2 SlX

/-! ### tables -/
abbrev Shs := List (Str × Rat)
abbrev Tab := List (Option Rat × Shs)
def shsD (s : Shs) : PyData := .tuple (itemsD (s.map fun p => (p.1, fr p.2)))
def tabRow (r : Option Rat × Shs) : PyData := .tuple [eD r.1, shsD r.2]
def tabD (T : Tab) : PyData := .tuple (T.map tabRow)
def Shs.Ok (s : Shs) : Prop := ∀ p ∈ s, StrOk p.1
theorem pl_shs {n : Nat} {s : Shs} (h : s.Ok) : Pl (n + 3) (shsD s) := pl_tuple fun x hx => by
  unfold itemsD at hx
  rw [List.map_map] at hx
  obtain ⟨p, hp, rfl⟩ := List.mem_map.mp hx
  refine pl_tuple fun y hy => ?_
  simp only [List.mem_cons, List.not_mem_nil, or_false] at hy
  rcases hy with e | e <;> subst e
  · exact pl_str (h p hp)
  · exact pl_fr _
theorem pl_tabRow {n : Nat} {r : Option Rat × Shs} (h : r.2.Ok) : Pl (n + 4) (tabRow r) := pl_tuple fun y hy => by
  simp only [List.mem_cons, List.not_mem_nil, or_false] at hy
  rcases hy with e | e <;> subst e
  · exact pl_eD _
  · exact pl_shs h
def Tab.Ok (T : Tab) : Prop := ∀ r ∈ T, r.2.Ok
theorem pl_tab {n : Nat} {T : Tab} (h : T.Ok) : Pl (n + 5) (tabD T) := pl_tuple fun x hx => by
  obtain ⟨r, hr, rfl⟩ := List.mem_map.mp hx
  exact pl_tabRow (h r hr)
theorem items_inj : ∀ {s t : List (Str × PyData)}, itemsD s = itemsD t → s = t
  | [], [], _ => rfl
  | [], _ :: _, h => by cases h
  | _ :: _, [], h => by cases h
  | (a, x) :: s, (b, y) :: t, h => by
    have h' : PyData.tuple [.str a, x] :: itemsD s = .tuple [.str b, y] :: itemsD t := h
    injection h' with h1 h2
    injection h1 with h1
    injection h1 with h3 h4
    injection h3 with h3
    injection h4 with h4 _
    rw [h3, h4, items_inj h2]
theorem map_fr_inj : ∀ {s t : Shs}, (s.map fun p => (p.1, fr p.2)) = (t.map fun p => (p.1, fr p.2)) → s = t
  | [], [], _ => rfl
  | [], _ :: _, h => by cases h
  | _ :: _, [], h => by cases h
  | (a, x) :: s, (b, y) :: t, h => by
    have h' : (a, fr x) :: (s.map fun p => (p.1, fr p.2)) = (b, fr y) :: (t.map fun p => (p.1, fr p.2)) := h
    injection h' with h1 h2
    injection h1 with h3 h4
    rw [h3, fr_inj.mp h4, map_fr_inj h2]
theorem shsD_inj {s t : Shs} : shsD s = shsD t ↔ s = t := by
  refine ⟨fun h => ?_, fun h => by rw [h]⟩
  unfold shsD at h
  injection h with h
  exact map_fr_inj (items_inj h)
theorem tabRow_inj {a b : Option Rat × Shs} (h : tabRow a = tabRow b) : a = b := by
  unfold tabRow at h
  injection h with h
  injection h with h1 h2
  injection h2 with h2 _
  obtain ⟨a1, a2⟩ := a
  obtain ⟨b1, b2⟩ := b
  have e1 : a1 = b1 := eD_inj.mp h1
  have e2 : a2 = b2 := shsD_inj.mp h2
  rw [e1, e2]
theorem rows_inj : ∀ {S T : Tab}, S.map tabRow = T.map tabRow → S = T
  | [], [], _ => rfl
  | [], _ :: _, h => by cases h
  | _ :: _, [], h => by cases h
  | a :: S, b :: T, h => by
    have h' : tabRow a :: S.map tabRow = tabRow b :: T.map tabRow := h
    injection h' with h1 h2
    rw [tabRow_inj h1, rows_inj h2]
theorem tabD_inj {S T : Tab} : tabD S = tabD T ↔ S = T := by
  refine ⟨fun h => ?_, fun h => by rw [h]⟩
  unfold tabD at h
  injection h with h
  exact rows_inj h
instance : DecidableEq Shs := inferInstanceAs (DecidableEq (List (Str × Rat)))
instance : DecidableEq Tab := inferInstanceAs (DecidableEq (List (Option Rat × List (Str × Rat))))
/-- one more layer -/
def layStep (acc : Tab) (r : Option Rat × Shs) : Tab := (match acc.getLast? with
  | some l => if l.2 = r.2 then acc.dropLast else acc
  | none => acc) ++ [r]
def layersM (T : Tab) : Tab := T.foldl layStep []
theorem layStep_len (acc : Tab) (r : Option Rat × Shs) : (layStep acc r).length ≤ acc.length + 1 := by
  unfold layStep
  rw [List.length_append]
  cases acc.getLast? with
  | none => simp
  | some l =>
    simp only [List.length_cons, List.length_nil]
    split
    · rw [List.length_dropLast]; omega
    · omega
theorem layStep_ok {acc : Tab} {r : Option Rat × Shs} (h : acc.Ok) (hr : r.2.Ok) : (layStep acc r).Ok := fun x hx => by
  unfold layStep at hx
  rcases List.mem_append.mp hx with hx | hx
  · refine h x ?_
    split at hx
    · split at hx
      · exact List.dropLast_subset _ hx
      · exact hx
    · exact hx
  · rw [List.mem_singleton.mp hx]; exact hr

section
variable {P : Program} {w : World} {K : Frg} {mg : Str → Option Value} {base : Heap}

def R_set_of : AN := fun xs M Q => ∃ ys : List Str, (xs = [.d (.list (strsD ys))] ∨ xs = [.d (.tuple (strsD ys))]) ∧ ys.length < 64 ∧ Q (.d (.tuple (strsD (setS ys)))) M
abbrev N_set_of : List Str := ["some"]
theorem sc_set_of : FnScope N_set_of ["some"] (L2.defScope s_set_of) := ⟨rfl, rfl, rfl, by decide +kernel, rfl, by decide +kernel, by decide +kernel⟩
set_option maxHeartbeats 4000000 in
theorem kp_set_of (T : Tx K mg) : Kp P w K mg base 1 (He.ga K "set_of") ["some"] R_set_of := by
  refine kp_n (k := 0) (T.def_ 0) sc_set_of (fun _ _ _ _ _ _ us hl => match us, hl with | [_], _ => rfl) (fun xs M Q h => ?len) (fun cdv A outer s H E hr => ⟨_, _, ⟨
    (pss_one (ps_ret (pe_callTy call_tupleS (by rfl) (T.free 69) boot_tuple (pa_cons (pe_callB (cr_sortX rfl) (by rfl) (T.free 72) (by decide +kernel) (pa_cons (pe_callTy (cr_setX rfl) (by rfl) (T.free 71) (by decide +kernel) (pa_cons (pv 0) pa_nil)) pa_nil)) pa_nil)))),
    (ss_ret (se_cb sn_tuple (sa_cons (se_setOf se_var) sa_nil)))⟩, fun xs M Qa h => ?body⟩)
  case len => obtain ⟨ys, e | e, _⟩ := h <;> subst e <;> rfl
  case body =>
    obtain ⟨ys, e, hl, q⟩ := h
    rcases e with e | e
    · subst e
      refine ⟨_, rfl, ys, .inl rfl, hl, fun zs p so => .inl ⟨_, rfl, _, Sub.refl _, ?_⟩⟩
      rw [setS_uniq p so]; exact q
    · subst e
      refine ⟨_, rfl, ys, .inr rfl, hl, fun zs p so => .inl ⟨_, rfl, _, Sub.refl _, ?_⟩⟩
      rw [setS_uniq p so]; exact q

def R_layers_of : AN := fun xs M Q => ∃ T : Tab, xs = [.d (.list (T.map tabRow))] ∧ T.Ok ∧ T.length ≤ 1000 ∧ Q (.d (tabD (layersM T))) M
abbrev N_layers_of : List Str := ["rows", "found", "until", "shares"]
theorem sc_layers_of : FnScope N_layers_of ["rows"] (L2.defScope s_layers_of) := ⟨rfl, rfl, rfl, by decide +kernel, rfl, by decide +kernel, by decide +kernel⟩
set_option maxHeartbeats 4000000 in
theorem kp_layers_of (T : Tx K mg) : Kp P w K mg base 1 (He.ga K "layers_of") ["rows"] R_layers_of := by
  refine kp_n (k := 0) (T.def_ 19) sc_layers_of (fun _ _ _ _ _ _ us hl => match us, hl with | [_], _ => rfl) (fun xs M Q h => ?len) (fun cdv A outer s H E hr => ⟨_, _, ⟨
    (pss_cons (ps_set (i := 1) sc_layers_of.nd rfl (Or.inl rfl) (pe_lst pa_nil)) (pss_cons (ps_for PassesOwn.never rfl (pi_list (pv 0)) (pg_tup (n := 2) rfl (pgs_cons (pg_name (i := 2) sc_layers_of.nd rfl (Or.inl rfl)) (pgs_cons (pg_name (i := 3) sc_layers_of.nd rfl (Or.inl rfl)) pgs_nil))) (pss_cons (ps_if (PW.pt (pw_and (pt_cmpR op_gt (pe_callB call_len_seq (by rfl) (T.free 68) PySem.boot_len (pa_cons (pv 1) pa_nil)) pe_int (nomark _)) (pw_and1 (pt_cmpR (op_eqD hr.units) (pe_ix ix_seq (pe_ix ix_seq (pv 1) (pe_un un_neg pe_int) (fun _ _ => rfl)) pe_int (fun _ _ => rfl)) (pv 3) (nomark _))))) (pss_one (ps_set (i := 1) sc_layers_of.nd rfl (Or.inl rfl) (pe_slice (SlR.or sl_list sl_tupS) (pv 1) po_none (po_some (pe_un un_neg pe_int))))) pss_nil) (pss_one (ps_set (i := 1) sc_layers_of.nd rfl (Or.inl rfl) (pe_lst (StX.pa_star (pv 1) (pa_cons (pe_tupS (pa_cons (pv 2) (pa_cons (pv 3) pa_nil))) pa_nil))))))) (pss_one (ps_ret (pe_callTy call_tupleS (by rfl) (T.free 69) boot_tuple (pa_cons (pv 1) pa_nil)))))),
    (ss_seq (ss_asg (se_lst sa_nil) sg_nm) (ss_seq (ss_for (si_lst se_var) (sg_tup (sgs_cons sg_nm (sgs_cons sg_nm sgs_nil))) (ss_seq (ss_if (st_and (st_T (se_op s2_B0 (se_cb sn_len (sa_cons se_var sa_nil)) se_int)) (st_T (se_op s2_eq (se_op s2_ix (se_op s2_ix se_var (se_un s1_neg se_int)) se_int) se_var))) (ss_asg (se_sl se_var so_none (so_some (se_un s1_neg se_int))) sg_nm) ss_next) (ss_asg (se_lst (sa_star se_var (sa_cons (se_tup (sa_cons se_var (sa_cons se_var sa_nil))) sa_nil))) sg_nm))) (ss_ret (se_cb sn_tuple (sa_cons se_var sa_nil)))))⟩, fun xs M Qa h => ?body⟩)
  case len => obtain ⟨T, rfl, _⟩ := h; rfl
  case body =>
    obtain ⟨T, rfl, ok, hl, q⟩ := h
    refine ⟨_, rfl, (show 0 ≤ 1000000 by decide), ?_⟩
    refine ⟨_, rfl, _, rfl, fun rest ρ M' => M' = M ∧ ∃ (todo acc : Tab) (u v : Option Va), rest = (todo.map tabRow).map .d ∧ ρ = [some (.d (.list (T.map tabRow))), some (.d (.list (acc.map tabRow))), u, v] ∧ acc.Ok ∧ todo.Ok ∧ acc.length + todo.length ≤ 1000 ∧ todo.foldl layStep acc = layersM T,
      ⟨rfl, T, [], none, none, rfl, rfl, (fun _ z => nomatch z), ok, by simpa using hl, rfl⟩, ?_, ?_⟩
    · rintro d r ρ M' ⟨rfl, todo, acc, u, v, e1, rfl, oa, ot, hz, hq⟩
      match todo, e1, ot, hz, hq with
      | (en, sh) :: todo, e1, ot, hz, hq =>
        injection e1 with e2 e3
        subst e2
        have osh : sh.Ok := ot (en, sh) List.mem_cons_self
        have stp := layStep_len acc (en, sh)
        have sok := layStep_ok (r := (en, sh)) oa osh
        have hq2 : todo.foldl layStep (layStep acc (en, sh)) = layersM T := hq
        have hlen : (layStep acc (en, sh)).length + todo.length ≤ 1000 := by
          simp only [List.length_cons] at hz
          omega
        have fin : ∀ acc' : Tab, layStep acc (en, sh) = acc' ++ [(en, sh)] → ∃ ds, dats ((acc'.map tabRow).map Va.d ++ [Va.d (tabRow (en, sh))]) = some ds ∧ ds.length ≤ 1000000 ∧ PyData.list ds = .list ((layStep acc (en, sh)).map tabRow) := fun acc' e => by
          refine ⟨acc'.map tabRow ++ [tabRow (en, sh)], ?_, ?_, ?_⟩
          · rw [dats_maps]; rfl
          · have e9 : acc'.map tabRow ++ [tabRow (en, sh)] = (layStep acc (en, sh)).map tabRow := by rw [e, List.map_append]; rfl
            rw [e9, List.length_map]
            omega
          · rw [e, List.map_append]; rfl
        refine ⟨_, rfl, rfl, _, _, rfl, _, _, rfl, rfl, ?_⟩
        refine ⟨_, rfl, .inl ⟨_, rfl, _, _, rfl, rfl, _, rfl, iteB (fun c => ?_) (fun c => ?_)⟩⟩
        · have c2 : 0 < acc.length := by
            have := of_decide_eq_true c
            rw [List.length_map] at this
            omega
          obtain ⟨l, hlast⟩ : ∃ l, acc.getLast? = some l := by
            cases acc with
            | nil => simp at c2
            | cons x r => exact ⟨_, List.getLast?_cons⟩
          have hl2 : (acc.map tabRow).getLast? = some (tabRow l) := by rw [List.getLast?_map, hlast]; rfl
          have hmem : l ∈ acc := List.mem_of_getLast? hlast
          refine ⟨_, rfl, _, rfl, _, _, _, .inr rfl, rfl, atI_last _ _ hl2, _, _, _, .inl rfl, rfl, rfl, _, rfl, _, _, rfl, rfl, pl_shaped (pl_shs (n := 0) (oa l hmem)), pl_shaped (pl_shs (n := 0) osh), _, rfl, ?_⟩
          have ee : PyData.eqv (shsD l.2) (shsD sh) = decide (l.2 = sh) := eqv_dec (pl_shs (n := 0) (oa l hmem)) (pl_shs (n := 0) osh) shsD_inj
          refine iteB (fun c3 => ?_) (fun c3 => ?_)
          · have c4 : l.2 = sh := of_decide_eq_true (ee.symm.trans c3)
            refine ⟨_, rfl, _, rfl, _, rfl, .inr (.inl ⟨_, rfl, ?_⟩)⟩
            have e5 : cutD (acc.map tabRow) none (some (-1)) = acc.dropLast.map tabRow := by rw [cut_init, List.map_dropLast]
            have e6 : layStep acc (en, sh) = acc.dropLast ++ [(en, sh)] := by
              unfold layStep
              rw [hlast]
              simp only
              rw [if_pos c4]
            obtain ⟨ds, f1, f2, f3⟩ := fin _ e6
            rw [e5]
            refine ⟨_, rfl, _, .inl rfl, _, rfl, _, rfl, _, rfl, (show 2 ≤ 1000000 by decide), ds, f1, f2, ?_⟩
            rw [f3]
            exact ⟨rfl, todo, layStep acc (en, sh), _, _, e3, rfl, sok, fun x hx => ot x (List.mem_cons_of_mem _ hx), hlen, hq2⟩
          · have c4 : ¬ l.2 = sh := of_decide_eq_false (ee.symm.trans c3)
            have e6 : layStep acc (en, sh) = acc ++ [(en, sh)] := by
              unfold layStep
              rw [hlast]
              simp only
              rw [if_neg c4]
            obtain ⟨ds, f1, f2, f3⟩ := fin _ e6
            refine ⟨_, rfl, _, .inl rfl, _, rfl, _, rfl, _, rfl, (show 2 ≤ 1000000 by decide), ds, f1, f2, ?_⟩
            rw [f3]
            exact ⟨rfl, todo, layStep acc (en, sh), _, _, e3, rfl, sok, fun x hx => ot x (List.mem_cons_of_mem _ hx), hlen, hq2⟩
        · have c2 : acc = [] := by
            have := of_decide_eq_false c
            rw [List.length_map] at this
            cases acc with
            | nil => rfl
            | cons x r => simp only [List.length_cons] at this; omega
          have e6 : layStep acc (en, sh) = acc ++ [(en, sh)] := by
            unfold layStep
            rw [c2]
            rfl
          obtain ⟨ds, f1, f2, f3⟩ := fin _ e6
          refine iteB (fun z => nomatch z) (fun _ => ?_)
          refine ⟨_, rfl, _, .inl rfl, _, rfl, _, rfl, _, rfl, (show 2 ≤ 1000000 by decide), ds, f1, f2, ?_⟩
          rw [f3]
          exact ⟨rfl, todo, layStep acc (en, sh), _, _, e3, rfl, sok, fun x hx => ot x (List.mem_cons_of_mem _ hx), hlen, hq2⟩
    · rintro ρ M' ⟨rfl, todo, acc, u, v, e1, rfl, oa, ot, hz, hq⟩
      match todo, e1, hq with
      | [], _, hq =>
        have hq2 : acc = layersM T := hq
        subst hq2
        exact ⟨_, rfl, .inl ⟨_, rfl, _, Sub.refl _, q⟩⟩


def Part.ins : Part → List Str
  | .weir a _ _ _ => [a]
  | .div a _ _ _ => [a]
  | .join a b _ => [a, b]
def Part.outs : Part → List Str
  | .weir _ _ t r => [t, r]
  | .div _ _ t r => [t, r]
  | .join _ _ t => [t]
def madeOf (ps : List Part) : List Str := "in" :: ps.flatMap Part.outs
def takenOf (ps : List Part) : List Str := ps.flatMap Part.ins
def netV (C : Addr) (ps : List Part) (txt : Str) : Va := .o C [.tuple (strsD (madeOf ps)), partsD ps, .tuple (strsD (takenOf ps)), .str txt]
def outsOf (ps : List Part) : List Str := setS ((madeOf ps).filter fun n => decide (n ∉ takenOf ps))
/-- the names can be compared, the outlets are few -/
structure NetOk (ps : List Part) : Prop where
  okm : ∀ n ∈ madeOf ps, StrOk n
  okt : ∀ n ∈ takenOf ps, StrOk n
  lm : (madeOf ps).length ≤ 1000
  few : ((madeOf ps).filter fun n => decide (n ∉ takenOf ps)).length < 64
theorem any_str {n : Str} {l : List Str} (hn : StrOk n) (hl : ∀ x ∈ l, StrOk x) : ((strsD l).any fun z => PyData.eqv z (.str n)) = decide (n ∈ l) := by
  have h1 : ∀ z ∈ strsD l, Pl 0 z := fun z hz => by
    obtain ⟨x, hx, rfl⟩ := List.mem_map.mp hz
    exact pl_str (hl x hx)
  have h2 := any_pl h1 (pl_str (n := 0) hn)
  have h3 : PyData.str n ∈ strsD l ↔ n ∈ l := by
    unfold strsD
    rw [List.mem_map]
    exact ⟨fun ⟨x, hx, e⟩ => by injection e with e; rw [← e]; exact hx, fun h => ⟨n, h, rfl⟩⟩
  by_cases c : n ∈ l
  · rw [decide_eq_true c]; exact h2.mpr (h3.mpr c)
  · rw [decide_eq_false c]
    cases z : (strsD l).any fun z => PyData.eqv z (.str n) with
    | false => rfl
    | true => exact absurd (h3.mp (h2.mp z)) c
theorem sh_strs {l : List Str} (hl : ∀ x ∈ l, StrOk x) : SeqAt.shaped (.tuple (strsD l)) = true := pl_shaped (n := 1) (pl_tuple fun z hz => by
  obtain ⟨x, hx, rfl⟩ := List.mem_map.mp hz
  exact pl_str (hl x hx))

def R_parts (C : Addr) : AN := fun xs M Q => ∃ ps txt, xs = [netV C ps txt] ∧ Q (.d (partsD ps)) M
abbrev N_Net_parts : List Str := ["self"]
theorem sc_Net_parts : FnScope N_Net_parts ["self"] (L2.defScope s_Net_parts) := ⟨rfl, rfl, rfl, by decide +kernel, rfl, by decide +kernel, by decide +kernel⟩
set_option maxHeartbeats 4000000 in
theorem kp_Net_parts (T : Tx K mg) : Kp P w K mg base 1 (He5.wf K (He.ga K "Net") "property" "parts") ["self"] (R_parts (He.ga K "Net")) := by
  refine kp_n (k := 0) (T.def_ 32) sc_Net_parts (fun _ _ _ _ _ _ us hl => match us, hl with | [_], _ => rfl) (fun xs M Q h => ?len) (fun cdv A outer s H E hr => ⟨_, _, ⟨
    (pss_one (ps_ret (SlX.pe_sl (pv 0)))),
    (ss_ret (se_slot T.scls T.sl_own_parts se_var))⟩, fun xs M Qa h => ?body⟩)
  case len => obtain ⟨ps, txt, rfl, _⟩ := h; rfl
  case body =>
    obtain ⟨ps, txt, rfl, q⟩ := h
    exact ⟨_, rfl, _, _, rfl, rfl, _, Sub.refl _, q⟩

def R_outlets (C : Addr) : AN := fun xs M Q => ∃ ps txt, xs = [netV C ps txt] ∧ NetOk ps ∧ Q (.d (.tuple (strsD (outsOf ps)))) M
abbrev N_Net_outlets : List Str := ["self", "name"]
theorem sc_Net_outlets : FnScope N_Net_outlets ["self"] (L2.defScope s_Net_outlets) := ⟨rfl, rfl, rfl, by decide +kernel, rfl, by decide +kernel, by decide +kernel⟩
set_option maxHeartbeats 4000000 in
theorem kp_Net_outlets (T : Tx K mg) (c_set_of : Kp P w K mg base 1 (He.ga K "set_of") ["some"] R_set_of) : Kp P w K mg base 2 (He5.wf K (He.ga K "Net") "property" "outlets") ["self"] (R_outlets (He.ga K "Net")) := by
  refine kp_n (k := 1) (T.def_ 33) sc_Net_outlets (fun _ _ _ _ _ _ us hl => match us, hl with | [_], _ => rfl) (fun xs M Q h => ?len) (fun cdv A outer s H E hr => ⟨_, _, ⟨
    (pss_one (ps_ret (pe_def c_set_of (hr.mono (by decide)) (by rfl) (T.glo 0) (pa_cons (pe_lc (own := [("name", 1)]) rfl sc_Net_outlets.nd (pi_tup (SlX.pe_sl (pv 0))) (blkOk_by (N := N_Net_outlets) (sc := L2.defScope s_Net_outlets) (by decide +kernel)) (fun _ _ _ _ _ => (pg_name (i := 1) sc_Net_outlets.nd rfl (Or.inl rfl))) (fun _ _ _ _ _ => pts_one (pt_cmpR (op_notInDT (u65 hr)) (pv 1) (SlX.pe_sl (pv 0)) rfl)) (fun _ _ _ _ _ => (pv 1))) pa_nil)))),
    (ss_ret (se_call (sa_cons (se_lc (si_tup (se_slot T.scls T.sl_own_made se_var)) sg_nm (wg_nm (by decide)) (st_T (se_op s2_inT se_var (se_slot T.scls T.sl_own_taken se_var))) se_var) sa_nil)))⟩, fun xs M Qa h => ?body⟩)
  case len => obtain ⟨ps, txt, rfl, _⟩ := h; rfl
  case body =>
    obtain ⟨ps, txt, rfl, ok, q⟩ := h
    refine ⟨_, rfl, _, _, rfl, rfl, _, rfl, ?_⟩
    have e1 : (madeOf ps).map (fun n => Va.d (.str n)) = (strsD (madeOf ps)).map .d := by
      unfold strsD
      rw [List.map_map]; rfl
    rw [← e1]
    refine lcF (madeOf ps) (fun n => .d (.str n)) (fun n => decide (n ∉ takenOf ps)) (fun n => .str n) (by have := ok.lm; omega) (fun n hn p Z Y hZ hY => ?_) ?_
    · refine ⟨_, rfl, _, rfl, _, _, rfl, rfl, _, _, rfl, rfl, sh_str (ok.okm n hn), sh_strs ok.okt, _, rfl, ?_⟩
      have e2 := any_str (ok.okm n hn) ok.okt
      refine iteB (fun c => ?_) (fun c => ?_)
      · refine ⟨_, rfl, _, _, rfl, Sub.refl _, rfl, hZ ?_⟩
        rw [e2] at c
        simpa using c
      · refine ⟨_, Sub.refl _, rfl, hY ?_⟩
        rw [e2] at c
        simpa using c
    · exact ⟨(madeOf ps).filter fun n => decide (n ∉ takenOf ps), .inl rfl, ok.few, _, Sub.refl _, q⟩


def ownOf (s : Sts) (outs : List Str) (i : Nat) : Shs := (outs.filter fun n => decide ((s.row n).getD i 0 ≠ 0)).map fun n => (n, (s.row n).getD i 0)
def rowsOf (s : Sts) (outs : List Str) : Tab := (List.range s.es.length).map fun i => (s.es.getD i none, ownOf s outs i)
def tableM (ps : List Part) : Tab := layersM (rowsOf (ps.foldl takeS st0) (outsOf ps))
/-- what table_of asks of a net -/
structure TabNet (ps : List Part) : Prop where
  net : NetOk ps
  run : RunOk st0 ps
  rows : ∀ n ∈ outsOf ps, ∃ row, getP (ps.foldl takeS st0).rows n = some row
theorem RunOk.fold : ∀ {ps : List Part} {s : Sts}, RunOk s ps → WF (ps.foldl takeS s)
  | [], _, h => h
  | _ :: ps, _, h => RunOk.fold (ps := ps) h.2.2
theorem outs_ok {ps : List Part} (h : NetOk ps) : ∀ n ∈ outsOf ps, StrOk n := fun n hn => by
  unfold outsOf at hn
  rw [setS_mem] at hn
  exact h.okm n (List.mem_filter.mp hn).1
theorem range_drop {α : Type} (xs : List α) (f : Nat → α → Va) (k : Nat) : True := trivial

def R_tabl (C : Addr) : AN := fun xs M Q => ∃ ps txt, xs = [netV C ps txt] ∧ TabNet ps ∧ Q (.d (tabD (tableM ps))) M
abbrev N_table_of : List Str := ["net", "told", "rows", "place", "end", "own", "name"]
theorem sc_table_of : FnScope N_table_of ["net"] (L2.defScope s_table_of) := ⟨rfl, rfl, rfl, by decide +kernel, rfl, by decide +kernel, by decide +kernel⟩
set_option maxHeartbeats 4000000 in
theorem kp_table_of (T : Tx K mg) (c_Net_parts : Kp P w K mg base 1 (He5.wf K (He.ga K "Net") "property" "parts") ["self"] (R_parts (He.ga K "Net"))) (c_stretches_of : Kp P w K mg base 7 (He.ga K "stretches_of") ["parts"] (R_strs_of (He.ga K "Stretches"))) (c_Net_outlets : Kp P w K mg base 2 (He5.wf K (He.ga K "Net") "property" "outlets") ["self"] (R_outlets (He.ga K "Net"))) (c_layers_of : Kp P w K mg base 1 (He.ga K "layers_of") ["rows"] R_layers_of) : Kp P w K mg base 8 (He.ga K "table_of") ["net"] (R_tabl (He.ga K "Net")) := by
  refine kp_n (k := 7) (T.def_ 20) sc_table_of (fun _ _ _ _ _ _ us hl => match us, hl with | [_], _ => rfl) (fun xs M Q h => ?len) (fun cdv A outer s H E hr => ⟨_, _, ⟨
    (pss_cons (ps_set (i := 1) sc_table_of.nd rfl (Or.inr rfl) (pe_def c_stretches_of (hr.mono (by decide)) (by rfl) (T.glo 12) (pa_cons (pe_propD (pv 0) T.scls T.pr_parts c_Net_parts (hr.mono (by decide))) pa_nil))) (pss_cons (ps_set (i := 2) sc_table_of.nd rfl (Or.inl rfl) (pe_lst pa_nil)) (pss_cons (ps_for PassesOwn.never rfl (pi_enum (by rfl) (T.free 74) (pa_cons (pe_fld (pv 1) rfl) pa_nil)) (pg_tup (n := 2) rfl (pgs_cons (pg_name (i := 3) sc_table_of.nd rfl (Or.inr rfl)) (pgs_cons (pg_name (i := 4) sc_table_of.nd rfl (Or.inl rfl)) pgs_nil))) (pss_cons (ps_setLc (i := 5) (own := [("name", 6)]) rfl sc_table_of.nd rfl rfl (sw_true rfl rfl rfl (by decide +kernel)) (pi_tup (pe_propD (pv 0) T.scls T.pr_outlets c_Net_outlets (hr.mono (by decide)))) (blkOk_by (N := N_table_of) (sc := L2.defScope s_table_of) (by decide +kernel)) (fun _ _ _ _ _ => (pg_name (i := 6) sc_table_of.nd rfl (Or.inl rfl))) (fun _ _ _ _ _ => pts_one (pt_cmpR (op_neD hr.units) (pe_ix ix_seq (pe_dget (hu_of hr) (pe_fld (pv 1) rfl) (pv 6) (fun _ _ => rfl)) (pv 3) (fun _ _ => rfl)) (pe_glob (v := .ref (He.ga K "NONE")) (by rfl) (T.glo 50) rfl) (nomark _))) (fun _ _ _ _ _ => (pe_tupS (pa_cons (pv 6) (pa_cons (pe_ix ix_seq (pe_dget (hu_of hr) (pe_fld (pv 1) rfl) (pv 6) (fun _ _ => rfl)) (pv 3) (fun _ _ => rfl)) pa_nil))))) (pss_one (ps_expr (pe_bm PySem.F.plainAttrs_list PySem.F.slot_list_append PySem.F.type_list_append mt_append (pv 2) (pa_cons (pe_tupS (pa_cons (pv 4) (pa_cons (pe_callTy call_tupleS (by rfl) (T.free 69) boot_tuple (pa_cons (pe_callB (cr_sortTx rfl) (by rfl) (T.free 72) (by decide +kernel) (pa_cons (pv 5) pa_nil)) pa_nil)) pa_nil))) pa_nil)))))) (pss_one (ps_ret (pe_def c_layers_of (hr.mono (by decide)) (by rfl) (T.glo 13) (pa_cons (pv 2) pa_nil))))))),
    (ss_seq (ss_asg (se_call (sa_cons (se_prop se_var) sa_nil)) sg_nm) (ss_seq (ss_asg (se_lstM sa_nil) sg_nm) (ss_seq (ss_for (si_enum (sa_cons (se_fld T.cls_Stretches T.no_Stretches_ends se_var) sa_nil)) (sg_tup (sgs_cons sg_nm (sgs_cons sg_nm sgs_nil))) (ss_seq (ss_asg (se_lc (si_tup (se_prop se_var)) sg_nm (wg_nm (by decide)) (st_T (se_op s2_ne (se_op s2_ix (se_dget (se_fld T.cls_Stretches T.no_Stretches_flows se_var) se_var) se_var) (se_c T.c_NONE))) (se_tup (sa_cons se_var (sa_cons (se_op s2_ix (se_dget (se_fld T.cls_Stretches T.no_Stretches_flows se_var) se_var) se_var) sa_nil)))) sg_nm) (ss_drop (se_bml sm_append se_var (sa_cons (se_tup (sa_cons se_var (sa_cons (se_cb sn_tuple (sa_cons (se_cb sn_sortTx (sa_cons se_var sa_nil)) sa_nil)) sa_nil))) sa_nil))))) (ss_ret (se_call (sa_cons (se_frz se_var) sa_nil))))))⟩, fun xs M Qa h => ?body⟩)
  case len => obtain ⟨ps, txt, rfl, _⟩ := h; rfl
  case body =>
    obtain ⟨ps, txt, rfl, ok, q⟩ := h
    have wf := ok.run.fold
    have hrow := ok.rows
    have oko := outs_ok ok.net
    have hstr := setS_strict ((madeOf ps).filter fun n => decide (n ∉ takenOf ps))
    have hol : (outsOf ps).length ≤ 1000000 := by
      unfold outsOf setS
      rw [(isortS_perm _).length_eq]
      have h1 := gather_len ((madeOf ps).filter fun n => decide (n ∉ takenOf ps)) []
      have h2 := ok.net.few
      simp only [List.length_nil] at h1
      omega
    unfold tableM at q
    refine ⟨_, rfl, _, rfl, ps, txt, rfl, ps, rfl, ok.run, fun a f => ?_⟩
    generalize ps.foldl takeS st0 = st at wf hrow q
    refine ⟨(show 0 ≤ 1000000 by decide), fun rr => ?_⟩
    refine ⟨_, rfl, a, _, [_], _, _, rfl, rfl, rfl, _, rfl, fun rest ρ M' => ∃ (k : Nat) (u v x y : Option Va), k ≤ st.es.length ∧ rest = enumD k ((st.es.drop k).map eD) ∧ ρ = [some (netV (He.ga K "Net") ps txt), some (.m a), some (.m rr), u, v, x, y] ∧
      M' = (rr, .lst ((((List.range k).map fun i => (st.es.getD i none, ownOf st (outsOf ps) i)).map tabRow).map .d)) :: stM (He.ga K "Stretches") a f st M, ⟨0, none, none, none, none, Nat.zero_le _, rfl, rfl, rfl⟩, ?_, ?_⟩
    · rintro d r ρ M' ⟨k, u, v, x, y, hk, e1, rfl, rfl⟩
      have hlt : k < st.es.length := by
        refine Nat.lt_of_not_le fun z => ?_
        rw [List.drop_of_length_le z] at e1
        cases e1
      rw [List.drop_eq_getElem_cons hlt] at e1
      injection e1 with e2 e3
      subst e2
      refine ⟨_, rfl, rfl, _, _, rfl, _, _, rfl, rfl, ?_⟩
      refine ⟨_, rfl, _, rfl, ps, txt, rfl, ok.net, _, rfl, ?_⟩
      have e4 : (outsOf ps).map (fun n => Va.d (.str n)) = (strsD (outsOf ps)).map .d := by
        unfold strsD
        rw [List.map_map]; rfl
      rw [← e4]
      have at_ : ∀ n ∈ outsOf ps, ∃ row, getA (asK rowD st.rows) n = some (.d (rowD row)) ∧ (row.map fr)[k]? = some (fr ((st.row n).getD k 0)) := fun n hn => by
        obtain ⟨row, hr⟩ := hrow n hn
        obtain ⟨h1, h2⟩ := get_row hr
        refine ⟨row, h1, ?_⟩
        rw [h2]
        exact row_at (by rw [wf.len _ (getP_mem hr)]; exact hlt)
      refine lcF (outsOf ps) (fun n => .d (.str n)) (fun n => decide ((st.row n).getD k 0 ≠ 0)) (fun n => .tuple [.str n, fr ((st.row n).getD k 0)]) hol (fun n hn p Z Y hZ hY => ?_) ?_
      · obtain ⟨row, h1, h2⟩ := at_ n hn
        refine ⟨_, rfl, a, _, [_, _], _, _, rfl, rfl, rfl, _, rfl, f, _, _, _, [_, _, _], _, rfl, rfl, rfl, h1, _, rfl, _, _, _, .inr rfl, rfl, atI_nat _ _ _ h2, _, _, rfl, rfl, sh_fr _, sh_fr _, _, rfl, ?_⟩
        refine iteB (fun c => ?_) (fun c => ?_)
        · refine ⟨_, rfl, _, rfl, a, _, [_, _], _, _, rfl, rfl, rfl, _, rfl, f, _, _, _, [_, _, _], _, rfl, rfl, rfl, h1, _, rfl, _, _, _, .inr rfl, rfl, atI_nat _ _ _ h2, _, rfl, (show 2 ≤ 1000000 by decide), _, _, rfl, Sub.refl _, rfl, hZ ?_⟩
          rw [eqv_fr] at c
          simpa using c
        · refine ⟨_, Sub.refl _, rfl, hY ?_⟩
          rw [eqv_fr] at c
          simpa using c
      have e5 : PyData.list (((outsOf ps).filter fun n => decide ((st.row n).getD k 0 ≠ 0)).map fun n => .tuple [.str n, fr ((st.row n).getD k 0)]) = .list (itemsD ((ownOf st (outsOf ps) k).map fun p => (p.1, fr p.2))) := by
        unfold itemsD ownOf
        rw [List.map_map, List.map_map]; rfl
      rw [e5]
      refine ⟨_, rfl, rr, _, [], _, rfl, rfl, _, rfl, _, rfl, _, .inl rfl, ?_, .inl ⟨_, rfl, _, rfl, (show 2 ≤ 1000000 by decide), ?_⟩⟩
      · have e6 : (((ownOf st (outsOf ps) k).map fun p => (p.1, fr p.2)).map (·.1)) = (outsOf ps).filter fun n => decide ((st.row n).getD k 0 ≠ 0) := by
          unfold ownOf
          rw [List.map_map, List.map_map]
          exact List.map_id _
        rw [e6]
        exact hstr.sublist List.filter_sublist
      refine ⟨rr, _, _, [], _, rfl, rfl, rfl, ?_, ?_⟩
      · rw [List.length_map, List.length_map, List.length_map, List.length_range]
        have := wf.le
        omega
      refine ⟨k + 1, _, _, _, _, hlt, e3, rfl, ?_⟩
      rw [List.range_succ, List.map_append, List.map_append, List.map_append]
      have e7 : st.es.getD k none = st.es[k] := by rw [List.getD_eq_getElem?_getD, List.getElem?_eq_getElem hlt]; rfl
      show _ = (rr, MO.lst (_ ++ [Va.d (.tuple [eD (st.es.getD k none), _])])) :: _
      rw [e7]
      rfl
    · rintro ρ M' ⟨k, u, v, x, y, hk, e1, rfl, rfl⟩
      have hge : k = st.es.length := by
        refine Nat.le_antisymm hk (Nat.le_of_not_lt fun z => ?_)
        rw [List.drop_eq_getElem_cons z] at e1
        cases e1
      subst hge
      refine ⟨_, rfl, rr, _, _, [], _, rfl, rfl, dats_map _, rowsOf st (outsOf ps), rfl, ?_, ?_, _, ?_, q⟩
      · intro r hr p hp
        obtain ⟨i, _, rfl⟩ := List.mem_map.mp hr
        obtain ⟨n, hn, rfl⟩ := List.mem_map.mp hp
        exact oko n (List.mem_filter.mp hn).1
      · unfold rowsOf
        rw [List.length_map, List.length_range]
        exact wf.le
      · exact ⟨[_, _], .refl _⟩

end
end LN
namespace LN
open PySem PySem.Spec PyProof.Rows L2 SlX

/-- the ends of the layers but the last -/
def bordM (T : Tab) : List (Option Rat) := T.dropLast.map (·.1)
def namesOf (T : Tab) : List Str := T.flatMap fun r => r.2.map (·.1)
def outsT (T : Tab) : List Str := setS (namesOf T)
/-- a share, naught where there is none -/
def gS (s : Shs) (o : Str) : Rat := (getP s o).getD 0
def mn (a b : Rat) : Rat := if a < b then a else b
def loE (x : Rat) : Option Rat → Rat
  | none => x
  | some e => mn x e
/-- amount_of's walk -/
def amtGo (o : Str) (x : Rat) : Rat → Rat → Tab → Rat
  | fd, _, [] => fd
  | fd, b, (u, s) :: T => if b < loE x u then amtGo o x (fd + gS s o * (loE x u - b)) (loE x u) T else amtGo o x fd b T
def amtM (T : Tab) (o : Str) (x : Rat) : Rat := amtGo o x 0 0 T
def AmtOk (o : Str) (x : Rat) : Rat → Rat → Tab → Prop
  | fd, b, [] => Fit fd ∧ Fit b
  | fd, b, (u, s) :: T => Fit fd ∧ Fit b ∧ (∀ e, u = some e → Fit e) ∧ (s.map (·.1)).Nodup ∧ Fit (gS s o) ∧
      (b < loE x u → Fit (loE x u - b) ∧ Fit (gS s o * (loE x u - b)) ∧ AmtOk o x (fd + gS s o * (loE x u - b)) (loE x u) T) ∧ (¬ b < loE x u → AmtOk o x fd b T)
theorem merge_nd : ∀ (s : List (Str × PyData)) (acc : List (Str × PyData)), ((acc ++ s).map (·.1)).Nodup → s.foldl (fun acc p => putD acc p.1 (.d p.2)) (asK id acc) = asK id (acc ++ s)
  | [], acc, _ => by rw [List.append_nil]; rfl
  | (k, x) :: s, acc, h => by
    have hk : k ∉ acc.map (·.1) := by
      rw [List.map_append, List.map_cons, List.nodup_append] at h
      exact fun z => h.2.2 k z k List.mem_cons_self rfl
    show s.foldl _ (putD (asK id acc) k (.d (id x))) = _
    rw [asK_put, putP_new _ hk, merge_nd s (acc ++ [(k, x)]) (by rw [List.append_assoc]; exact h), List.append_assoc]
    rfl
theorem mergeD_nd {s : List (Str × PyData)} (h : (s.map (·.1)).Nodup) : mergeD s = asK id s := merge_nd s [] h
theorem gS_dict {s : Shs} (h : (s.map (·.1)).Nodup) (o : Str) : (getA (mergeD (s.map fun p => (p.1, fr p.2))) o).getD (.d (fr 0)) = .d (fr (gS s o)) := by
  rw [mergeD_nd (by rw [map_keys fun _ => fr]; exact h), asK_get, getP_map]
  unfold gS
  cases getP s o <;> rfl

section
variable {P : Program} {w : World} {K : Frg} {mg : Str → Option Value} {base : Heap}

def R_borders : AN := fun xs M Q => ∃ (T : Tab) (bs : List Rat), xs = [.d (tabD T)] ∧ T.length ≤ 1000000 ∧ bordM T = bs.map some ∧ Q (.d (rowD bs)) M
abbrev N_borders : List Str := ["table", "until", "shares"]
theorem sc_borders : FnScope N_borders ["table"] (L2.defScope s_borders) := ⟨rfl, rfl, rfl, by decide +kernel, rfl, by decide +kernel, by decide +kernel⟩
set_option maxHeartbeats 4000000 in
theorem kp_borders (T : Tx K mg) : Kp P w K mg base 1 (He.ga K "borders") ["table"] R_borders := by
  refine kp_n (k := 0) (T.def_ 21) sc_borders (fun _ _ _ _ _ _ us hl => match us, hl with | [_], _ => rfl) (fun xs M Q h => ?len) (fun cdv A outer s H E hr => ⟨_, _, ⟨
    (pss_one (ps_ret (pe_lc (own := [("until", 1), ("shares", 2)]) rfl sc_borders.nd (pi_tup (pe_slice (SlR.or sl_list sl_tupS) (pv 0) po_none (po_some (pe_un un_neg pe_int)))) (blkOk_by (N := N_borders) (sc := L2.defScope s_borders) (by decide +kernel)) (fun _ _ _ _ _ => (pg_tup (n := 2) rfl (pgs_cons (pg_name (i := 1) sc_borders.nd rfl (Or.inl rfl)) (pgs_cons (pg_name (i := 2) sc_borders.nd rfl (Or.inl rfl)) pgs_nil)))) (fun _ _ _ _ _ => pts_nil) (fun _ _ _ _ _ => (pe_callTy call_tupleS (by rfl) (T.free 69) boot_tuple (pa_cons (pv 1) pa_nil)))))),
    (ss_ret (se_lc (si_tup (se_sl se_var so_none (so_some (se_un s1_neg se_int)))) (sg_tup (sgs_cons sg_nm (sgs_cons sg_nm sgs_nil))) (wg_tup (wgs_cons (wg_nm (by decide)) (wgs_cons (wg_nm (by decide)) wgs_nil))) st_yes' (se_cb sn_tuple (sa_cons se_var sa_nil))))⟩, fun xs M Qa h => ?body⟩)
  case len => obtain ⟨T, bs, rfl, _⟩ := h; rfl
  case body =>
    obtain ⟨T, bs, rfl, hl, hb, q⟩ := h
    refine ⟨_, rfl, _, rfl, _, rfl, .inl ⟨_, rfl, _, rfl, ?_⟩⟩
    have e1 : cutD (T.map tabRow) none (some (-1)) = T.dropLast.map tabRow := by rw [cut_init, List.map_dropLast]
    show LcT _ _ _ _ _ _ ((cutD (T.map tabRow) none (some (-1))).map Va.d) _
    rw [e1, List.map_map]
    have hsome : ∀ r ∈ T.dropLast, ∃ x, r.1 = some x := fun r hr => by
      have : r.1 ∈ bordM T := List.mem_map.mpr ⟨r, hr, rfl⟩
      rw [hb] at this
      obtain ⟨x, _, e⟩ := List.mem_map.mp this
      exact ⟨x, e.symm⟩
    refine lcS T.dropLast (fun r => .d (tabRow r)) (fun r => eD r.1) (by rw [List.length_dropLast]; omega) (fun r hr p Z hZ => ?_) ?_
    · obtain ⟨x, ex⟩ := hsome r hr
      obtain ⟨u, sh⟩ := r
      simp only at ex
      subst ex
      exact ⟨_, rfl, rfl, _, _, rfl, _, _, rfl, rfl, _, rfl, .inr (.inl ⟨_, rfl, _, _, rfl, Sub.refl _, rfl, hZ⟩)⟩
    · refine ⟨_, Sub.refl _, ?_⟩
      have e2 : PyData.list (T.dropLast.map fun r => eD r.1) = rowD bs := by
        unfold rowD
        have : T.dropLast.map (fun r => eD r.1) = (bordM T).map eD := by unfold bordM; rw [List.map_map]; rfl
        rw [this, hb, List.map_map]; rfl
      rw [e2]; exact q

def R_outlets_of : AN := fun xs M Q => ∃ T : Tab, xs = [.d (tabD T)] ∧ T.length ≤ 1000 ∧ (∀ r ∈ T, r.2.length ≤ 1000) ∧ (namesOf T).length < 64 ∧ Q (.d (.tuple (strsD (outsT T)))) M
abbrev N_outlets_of : List Str := ["table", "until", "shares", "outlet", "share"]
theorem sc_outlets_of : FnScope N_outlets_of ["table"] (L2.defScope s_outlets_of) := ⟨rfl, rfl, rfl, by decide +kernel, rfl, by decide +kernel, by decide +kernel⟩
set_option maxHeartbeats 4000000 in
theorem kp_outlets_of (T : Tx K mg) (c_set_of : Kp P w K mg base 1 (He.ga K "set_of") ["some"] R_set_of) : Kp P w K mg base 2 (He.ga K "outlets_of") ["table"] R_outlets_of := by
  refine kp_n (k := 1) (T.def_ 22) sc_outlets_of (fun _ _ _ _ _ _ us hl => match us, hl with | [_], _ => rfl) (fun xs M Q h => ?len) (fun cdv A outer s H E hr => ⟨_, _, ⟨
    (pss_one (ps_ret (pe_def c_set_of (hr.mono (by decide)) (by rfl) (T.glo 0) (pa_cons (pe_lc2 (own := [("until", 1), ("shares", 2), ("outlet", 3), ("share", 4)]) (vs1 := [3, 4]) rfl sc_outlets_of.nd (pi_tup (pv 0)) (blkOk_by (N := N_outlets_of) (sc := L2.defScope s_outlets_of) (by decide +kernel)) (by decide) (fun _ _ _ _ _ => (pg_tup (n := 2) rfl (pgs_cons (pg_name (i := 1) sc_outlets_of.nd rfl (Or.inl rfl)) (pgs_cons (pg_name (i := 2) sc_outlets_of.nd rfl (Or.inl rfl)) pgs_nil)))) (fun _ _ _ _ _ => pts_nil) (fun _ _ _ _ _ => (pi_tup (pv 2))) (fun _ _ _ _ _ => (pg_tup (n := 2) rfl (pgs_cons (pg_name (i := 3) sc_outlets_of.nd rfl (Or.inl rfl)) (pgs_cons (pg_name (i := 4) sc_outlets_of.nd rfl (Or.inl rfl)) pgs_nil)))) (fun _ _ _ _ _ => pts_nil) (fun _ _ _ _ _ => (pv 3))) pa_nil)))),
    (ss_ret (se_call (sa_cons (se_lc2 (si_tup se_var) (sg_tup (sgs_cons sg_nm (sgs_cons sg_nm sgs_nil))) (wg_tup (wgs_cons (wg_nm (by decide)) (wgs_cons (wg_nm (by decide)) wgs_nil))) st_yes' (si_tup se_var) (sg_tup (sgs_cons sg_nm (sgs_cons sg_nm sgs_nil))) (wg_tup (wgs_cons (wg_nm (by decide)) (wgs_cons (wg_nm (by decide)) wgs_nil))) se_var) sa_nil)))⟩, fun xs M Qa h => ?body⟩)
  case len => obtain ⟨T, rfl, _⟩ := h; rfl
  case body =>
    obtain ⟨T, rfl, hl, hl2, few, q⟩ := h
    have full : ∀ (acc : List PyData), acc = strsD (namesOf T) → R_set_of [.d (.list acc)] M Qa := fun acc e => by
      subst e
      exact ⟨namesOf T, .inl rfl, few, q⟩
    refine ⟨_, rfl, _, rfl, by rw [List.length_map, List.length_map]; exact hl, fun D => ⟨fun rest acc M' => M' = M ∧ ∃ done todo, T = done ++ todo ∧ rest = (todo.map tabRow).map .d ∧ acc = strsD (namesOf done), ⟨rfl, [], T, rfl, rfl, rfl⟩, ?_, ?_⟩⟩
    · rintro d r acc M' ⟨rfl, done, todo, e1, e2, e3⟩
      match todo, e2 with
      | (u, s) :: todo, e2 =>
        injection e2 with e4 e5
        subst e4
        have hacc : acc.length ≤ 100000 := by
          rw [e3]
          unfold strsD
          rw [List.length_map]
          have : (namesOf done).length ≤ (namesOf T).length := by
            rw [e1]
            unfold namesOf
            rw [List.flatMap_append, List.length_append]
            omega
          omega
        refine ⟨hacc, _, rfl, rfl, _, _, rfl, _, _, rfl, rfl, ?_⟩
        refine ⟨_, rfl, _, rfl, by
          unfold itemsD
          rw [List.length_map, List.length_map, List.length_map]
          exact hl2 (u, s) (by rw [e1]; simp), fun rest1 acc1 M1 => M1 = M' ∧ ∃ dn td, s = dn ++ td ∧ rest1 = (itemsD (td.map fun p => (p.1, fr p.2))).map .d ∧ acc1 = strsD (namesOf done ++ dn.map (·.1)), ⟨_, Sub.refl _, rfl, [], s, rfl, rfl, by rw [e3]; simp⟩, ?_, ?_⟩
        · rintro d1 r1 acc1 M1 ⟨rfl, dn, td, f1, f2, f3⟩
          match td, f2 with
          | (n, x) :: td, f2 =>
            have f2' : d1 :: r1 = .d (.tuple [.str n, fr x]) :: (itemsD (td.map fun p => (p.1, fr p.2))).map .d := f2
            injection f2' with f4 f5
            subst f4
            refine ⟨_, rfl, rfl, _, _, rfl, _, _, rfl, rfl, _, rfl, _, _, rfl, Sub.refl _, rfl, dn ++ [(n, x)], td, by rw [f1]; simp, f5, ?_⟩
            rw [f3]
            unfold strsD
            simp
        · rintro acc1 M1 ⟨rfl, dn, td, f1, f2, f3⟩
          match td, f2 with
          | [], _ =>
            rw [List.append_nil] at f1
            subst f1
            refine ⟨rfl, done ++ [(u, s)], todo, by rw [e1]; simp, e5, ?_⟩
            rw [f3]
            unfold namesOf
            simp
    · rintro acc M' ⟨rfl, done, todo, e1, e2, e3⟩
      match todo, e2 with
      | [], _ =>
        rw [List.append_nil] at e1
        subst e1
        obtain ⟨ys, h1, h2, h3⟩ := full acc e3
        exact ⟨ys, h1, h2, _, Sub.refl _, h3⟩

def R_amount_of : AN := fun xs M Q => ∃ (T : Tab) (o : Str) (x : Rat), xs = [.d (tabD T), .d (.str o), .d (fr x)] ∧ Fit x ∧ AmtOk o x 0 0 T ∧ Q (.d (fr (amtM T o x))) M
abbrev N_amount_of : List Str := ["table", "outlet", "inflow", "found", "before", "until", "shares", "end"]
theorem sc_amount_of : FnScope N_amount_of ["table", "outlet", "inflow"] (L2.defScope s_amount_of) := ⟨rfl, rfl, rfl, by decide +kernel, rfl, by decide +kernel, by decide +kernel⟩
set_option maxHeartbeats 4000000 in
theorem kp_amount_of (T : Tx K mg) (c_lesser : Kp P w K mg base 2 (He.ga K "lesser") ["one", "other"] R_lesser) (c_is_less : Kp P w K mg base 1 (He.ga K "is_less") ["one", "other"] R_is_less) (c_minus : Kp P w K mg base 3 (He.ga K "minus") ["one", "other"] R_minus) (c_times : Kp P w K mg base 3 (He.ga K "times") ["one", "other"] R_times) (c_plus : Kp P w K mg base 3 (He.ga K "plus") ["one", "other"] R_plus) : Kp P w K mg base 4 (He.ga K "amount_of") ["table", "outlet", "inflow"] R_amount_of := by
  refine kp_n (k := 3) (T.def_ 23) sc_amount_of (fun _ _ _ _ _ _ us hl => match us, hl with | [_, _, _], _ => rfl) (fun xs M Q h => ?len) (fun cdv A outer s H E hr => ⟨_, _, ⟨
    (pss_cons (ps_par (i := 3) (j := 4) rfl sc_amount_of.nd rfl rfl (by decide) rfl rfl (pa_cons (pe_glob (v := .ref (He.ga K "NONE")) (by rfl) (T.glo 50) rfl) (pa_cons (pe_glob (v := .ref (He.ga K "NONE")) (by rfl) (T.glo 50) rfl) pa_nil)) rfl) (pss_cons (ps_for PassesOwn.never rfl (pi_tup (pv 0)) (pg_tup (n := 2) rfl (pgs_cons (pg_name (i := 5) sc_amount_of.nd rfl (Or.inl rfl)) (pgs_cons (pg_name (i := 6) sc_amount_of.nd rfl (Or.inl rfl)) pgs_nil))) (pss_cons (ps_set (i := 7) sc_amount_of.nd rfl (Or.inl rfl) (pe_ifExp (pt_cmpR op_isN (pv 5) pe_non (nomark _)) (pe_callTy call_tupleS (by rfl) (T.free 69) boot_tuple (pa_cons (pv 2) pa_nil)) (pe_def c_lesser (hr.mono (by decide)) (by rfl) (T.glo 9) (pa_cons (pv 2) (pa_cons (pv 5) pa_nil))))) (pss_one (ps_if (pt_val (pe_def c_is_less (hr.mono (by decide)) (by rfl) (T.glo 8) (pa_cons (pv 4) (pa_cons (pv 7) pa_nil)))) (pss_cons (ps_set (i := 3) sc_amount_of.nd rfl (Or.inl rfl) (pe_def c_plus (hr.mono (by decide)) (by rfl) (T.glo 4) (pa_cons (pv 3) (pa_cons (pe_def c_times (hr.mono (by decide)) (by rfl) (T.glo 6) (pa_cons (pe_dget2 (hu_of hr) (pe_callTy (call_dictT rfl) (by rfl) (T.free 82) (by decide +kernel) (pa_cons (pv 6) pa_nil)) (pv 1) (pe_glob (v := .ref (He.ga K "NONE")) (by rfl) (T.glo 50) rfl) ⟨rfl, rfl, rfl, rfl⟩) (pa_cons (pe_def c_minus (hr.mono (by decide)) (by rfl) (T.glo 5) (pa_cons (pv 7) (pa_cons (pv 4) pa_nil))) pa_nil))) pa_nil)))) (pss_one (ps_set (i := 4) sc_amount_of.nd rfl (Or.inl rfl) (pv 7)))) pss_nil)))) (pss_one (ps_ret (pv 3))))),
    (ss_seq (ss_par (sa_cons (se_c T.c_NONE) (sa_cons (se_c T.c_NONE) sa_nil))) (ss_seq (ss_for (si_tup se_var) (sg_tup (sgs_cons sg_nm (sgs_cons sg_nm sgs_nil))) (ss_seq (ss_asg (se_if (st_T (se_op s2_is se_var se_non)) (se_cb sn_tuple (sa_cons se_var sa_nil)) (se_call (sa_cons se_var (sa_cons se_var sa_nil)))) sg_nm) (ss_if (st_B (se_call (sa_cons se_var (sa_cons se_var sa_nil)))) (ss_seq (ss_asg (se_call (sa_cons se_var (sa_cons (se_call (sa_cons (se_dget2 (se_cb sn_dict (sa_cons se_var sa_nil)) se_var (se_c T.c_NONE)) (sa_cons (se_call (sa_cons se_var (sa_cons se_var sa_nil))) sa_nil))) sa_nil))) sg_nm) (ss_asg se_var sg_nm)) ss_next))) (ss_ret se_var)))⟩, fun xs M Qa h => ?body⟩)
  case len => obtain ⟨T, o, x, rfl, _⟩ := h; rfl
  case body =>
    obtain ⟨T, o, x, rfl, fx, ok, q⟩ := h
    unfold amtM at q
    refine ⟨_, _, rfl, ?_⟩
    refine ⟨_, rfl, _, rfl, fun rest ρ M' => ∃ (todo : Tab) (fd b : Rat) (u v w : Option Va) (L : Sto), rest = (todo.map tabRow).map .d ∧ ρ = [some (.d (tabD T)), some (.d (.str o)), some (.d (fr x)), some (.d (fr fd)), some (.d (fr b)), u, v, w] ∧ M' = L ++ M ∧ AmtOk o x fd b todo ∧ Qa (.d (fr (amtGo o x fd b todo))) M, ⟨T, 0, 0, none, none, none, [], rfl, rfl, rfl, ok, q⟩, ?_, ?_⟩
    · rintro d r ρ M' ⟨todo, fd, b, u, v, w, L, e1, rfl, rfl, ok, hq⟩
      match todo, e1, ok, hq with
      | (en, sh) :: todo, e1, ok, hq =>
        injection e1 with e2 e3
        subst e2
        obtain ⟨ffd, fb, fe, nd, fg, k1, k2⟩ := ok
        unfold amtGo at hq
        refine ⟨_, rfl, rfl, _, _, rfl, _, _, rfl, rfl, ?_⟩
        have fin : Fit (loE x en) → (aB (aCB R_is_less (aCons (aVar 4) (aCons (aVar 7) aNil)))) [some (.d (tabD T)), some (.d (.str o)), some (.d (fr x)), some (.d (fr fd)), some (.d (fr b)), some (.d (eD en)), some (.d (shsD sh)), some (.d (fr (loE x en)))] (L ++ M) fun c M1 => M1 = L ++ M ∧ c = decide (b < loE x en) := fun fl => ⟨_, rfl, _, rfl, _, _, rfl, fb, fl, _, rfl, rfl, rfl⟩
        have step : Fit (loE x en) → ∀ (W : Va → Sto → Prop), True := fun _ _ => trivial
        have body : ∀ (hfl : Fit (loE x en)) (Z : Prop), True := fun _ _ => trivial
        match en, fe, k1, k2, hq with
        | none, fe, k1, k2, hq =>
          refine ⟨_, rfl, _, rfl, rfl, _, rfl, iteB (fun _ => ?_) (fun z => nomatch z)⟩
          refine ⟨_, rfl, .inr (.inl ⟨_, rfl, ?_⟩)⟩
          refine ⟨_, rfl, _, rfl, b, x, rfl, fb, fx, _, rfl, iteB (fun c => ?_) (fun c => ?_)⟩
          · have c2 : b < x := of_decide_eq_true c
            obtain ⟨g1, g2, g3⟩ := k1 c2
            have hq2 : Qa (Va.d (fr (amtGo o x (fd + gS sh o * (x - b)) x todo))) M := by
              have := hq
              rw [if_pos (show b < loE x none from c2)] at this
              exact this
            refine ⟨_, rfl, _, rfl, _, rfl, fun p => ⟨p, rfl, ⟨_, [], _, rfl⟩, _, rfl, _, o, [], _, rfl, rfl, ?_⟩⟩
            rw [gS_dict nd]
            exact ⟨_, rfl, _, rfl, x, b, rfl, fx, fb, Rat.le_of_lt c2, _, _, rfl, fg, g1, _, _, rfl, ffd, g2, _, rfl, todo, _, _, _, _, _, _ :: L, e3, rfl, rfl, g3, hq2⟩
          · have c2 : ¬ b < x := of_decide_eq_false c
            have hq2 : Qa (Va.d (fr (amtGo o x fd b todo))) M := by
              have := hq
              rw [if_neg (show ¬ b < loE x none from c2)] at this
              exact this
            exact ⟨todo, _, _, _, _, _, L, e3, rfl, rfl, k2 c2, hq2⟩
        | some e0, fe, k1, k2, hq =>
          have fe0 := fe e0 rfl
          refine ⟨_, rfl, _, rfl, rfl, _, rfl, iteB (fun z => nomatch z) (fun _ => ?_)⟩
          refine ⟨_, rfl, _, rfl, x, e0, rfl, fx, fe0, ?_⟩
          have fl : Fit (if x < e0 then x else e0) := by split <;> assumption
          refine ⟨_, rfl, _, rfl, b, _, rfl, fb, fl, _, rfl, iteB (fun c => ?_) (fun c => ?_)⟩
          · have c2 : b < (if x < e0 then x else e0) := of_decide_eq_true c
            obtain ⟨g1, g2, g3⟩ := k1 c2
            have hq2 : Qa (Va.d (fr (amtGo o x (fd + gS sh o * ((if x < e0 then x else e0) - b)) (if x < e0 then x else e0) todo))) M := by
              have := hq
              rw [if_pos (show b < loE x (some e0) from c2)] at this
              exact this
            refine ⟨_, rfl, _, rfl, _, rfl, fun p => ⟨p, rfl, ⟨_, [], _, rfl⟩, _, rfl, _, o, [], _, rfl, rfl, ?_⟩⟩
            rw [gS_dict nd]
            exact ⟨_, rfl, _, rfl, _, b, rfl, fl, fb, Rat.le_of_lt c2, _, _, rfl, fg, g1, _, _, rfl, ffd, g2, _, rfl, todo, _, _, _, _, _, _ :: L, e3, rfl, rfl, g3, hq2⟩
          · have c2 : ¬ b < (if x < e0 then x else e0) := of_decide_eq_false c
            have hq2 : Qa (Va.d (fr (amtGo o x fd b todo))) M := by
              have := hq
              rw [if_neg (show ¬ b < loE x (some e0) from c2)] at this
              exact this
            exact ⟨todo, _, _, _, _, _, L, e3, rfl, rfl, k2 c2, hq2⟩
    · rintro ρ M' ⟨todo, fd, b, u, v, w, L, e1, rfl, rfl, ok, hq⟩
      match todo, e1, hq with
      | [], _, hq => exact ⟨_, rfl, _, ⟨L, .refl _⟩, hq⟩

def amtsM (T : Tab) (x : Rat) : List (Str × Rat) := (outsT T).map fun o => (o, amtM T o x)
def R_amounts : AN := fun xs M Q => ∃ (T : Tab) (x : Rat), xs = [.d (tabD T), .d (fr x)] ∧ Fit x ∧ T.length ≤ 1000 ∧ (∀ r ∈ T, r.2.length ≤ 1000) ∧ (namesOf T).length < 64 ∧ (∀ o ∈ outsT T, AmtOk o x 0 0 T) ∧ Q (.d (shsD (amtsM T x))) M
abbrev N_amounts : List Str := ["table", "inflow", "outlet"]
theorem sc_amounts : FnScope N_amounts ["table", "inflow"] (L2.defScope s_amounts) := ⟨rfl, rfl, rfl, by decide +kernel, rfl, by decide +kernel, by decide +kernel⟩
set_option maxHeartbeats 4000000 in
theorem kp_amounts (T : Tx K mg) (c_outlets_of : Kp P w K mg base 2 (He.ga K "outlets_of") ["table"] R_outlets_of) (c_amount_of : Kp P w K mg base 4 (He.ga K "amount_of") ["table", "outlet", "inflow"] R_amount_of) : Kp P w K mg base 5 (He.ga K "amounts") ["table", "inflow"] R_amounts := by
  refine kp_n (k := 4) (T.def_ 24) sc_amounts (fun _ _ _ _ _ _ us hl => match us, hl with | [_, _], _ => rfl) (fun xs M Q h => ?len) (fun cdv A outer s H E hr => ⟨_, _, ⟨
    (pss_one (ps_ret (pe_callTy call_tupleS (by rfl) (T.free 69) boot_tuple (pa_cons (pe_lc (own := [("outlet", 2)]) rfl sc_amounts.nd (pi_tup (pe_def c_outlets_of (hr.mono (by decide)) (by rfl) (T.glo 16) (pa_cons (pv 0) pa_nil))) (blkOk_by (N := N_amounts) (sc := L2.defScope s_amounts) (by decide +kernel)) (fun _ _ _ _ _ => (pg_name (i := 2) sc_amounts.nd rfl (Or.inl rfl))) (fun _ _ _ _ _ => pts_nil) (fun _ _ _ _ _ => (pe_tupS (pa_cons (pv 2) (pa_cons (pe_def c_amount_of (hr.mono (by decide)) (by rfl) (T.glo 17) (pa_cons (pv 0) (pa_cons (pv 2) (pa_cons (pv 1) pa_nil)))) pa_nil))))) pa_nil)))),
    (ss_ret (se_cb sn_tuple (sa_cons (se_lc (si_tup (se_call (sa_cons se_var sa_nil))) sg_nm (wg_nm (by decide)) st_yes' (se_tup (sa_cons se_var (sa_cons (se_call (sa_cons se_var (sa_cons se_var (sa_cons se_var sa_nil)))) sa_nil)))) sa_nil)))⟩, fun xs M Qa h => ?body⟩)
  case len => obtain ⟨T, x, rfl, _⟩ := h; rfl
  case body =>
    obtain ⟨T, x, rfl, fx, hl, hl2, few, ok, q⟩ := h
    refine ⟨_, rfl, T, rfl, hl, hl2, few, _, rfl, ?_⟩
    have e1 : (outsT T).map (fun n => Va.d (.str n)) = (strsD (outsT T)).map .d := by
      unfold strsD
      rw [List.map_map]; rfl
    have hol : (outsT T).length ≤ 1000000 := by
      unfold outsT setS
      rw [(isortS_perm _).length_eq]
      have h1 := gather_len (namesOf T) []
      simp only [List.length_nil] at h1
      omega
    rw [← e1]
    refine lcS (outsT T) (fun n => .d (.str n)) (fun n => .tuple [.str n, fr (amtM T n x)]) hol (fun n hn p Z hZ => ?_) ?_
    · exact ⟨_, rfl, _, rfl, _, rfl, _, rfl, T, n, x, rfl, fx, ok n hn, _, rfl, (show 2 ≤ 1000000 by decide), _, _, rfl, Sub.refl _, rfl, hZ⟩
    · have e2 : PyData.list ((outsT T).map fun n => .tuple [.str n, fr (amtM T n x)]) = .list (itemsD ((amtsM T x).map fun p => (p.1, fr p.2))) := by
        unfold itemsD amtsM
        rw [List.map_map, List.map_map]; rfl
      rw [e2]
      exact .inl ⟨_, rfl, _, Sub.refl _, q⟩

def R_alk (C : Addr) : AN := fun xs M Q => ∃ ps txt qs tyt, xs = [netV C ps txt, netV C qs tyt] ∧ TabNet ps ∧ TabNet qs ∧ (tableM ps).Ok ∧ (tableM qs).Ok ∧ Q (.d (.bool (decide (tableM ps = tableM qs)))) M
abbrev N_alike : List Str := ["one", "other"]
theorem sc_alike : FnScope N_alike ["one", "other"] (L2.defScope s_alike) := ⟨rfl, rfl, rfl, by decide +kernel, rfl, by decide +kernel, by decide +kernel⟩
set_option maxHeartbeats 4000000 in
theorem kp_alike (T : Tx K mg) (c_table_of : Kp P w K mg base 8 (He.ga K "table_of") ["net"] (R_tabl (He.ga K "Net"))) : Kp P w K mg base 9 (He.ga K "alike") ["one", "other"] (R_alk (He.ga K "Net")) := by
  refine kp_n (k := 8) (T.def_ 25) sc_alike (fun _ _ _ _ _ _ us hl => match us, hl with | [_, _], _ => rfl) (fun xs M Q h => ?len) (fun cdv A outer s H E hr => ⟨_, _, ⟨
    (pss_one (ps_ret (pe_cmpR (op_eqD hr.units) (pe_def c_table_of (hr.mono (by decide)) (by rfl) (T.glo 14) (pa_cons (pv 0) pa_nil)) (pe_def c_table_of (hr.mono (by decide)) (by rfl) (T.glo 14) (pa_cons (pv 1) pa_nil)) (nomark _)))),
    (ss_ret (se_op s2_eq (se_call (sa_cons se_var sa_nil)) (se_call (sa_cons se_var sa_nil))))⟩, fun xs M Qa h => ?body⟩)
  case len => obtain ⟨ps, txt, qs, tyt, rfl, _⟩ := h; rfl
  case body =>
    obtain ⟨ps, txt, qs, tyt, rfl, o1, o2, k1, k2, q⟩ := h
    refine ⟨_, rfl, ps, txt, rfl, o1, _, rfl, qs, tyt, rfl, o2, _, _, rfl, rfl, pl_shaped (pl_tab (n := 0) k1), pl_shaped (pl_tab (n := 0) k2), _, Sub.refl _, ?_⟩
    show Qa (.d (.bool (PyData.eqv (tabD (tableM ps)) (tabD (tableM qs))))) M
    rw [eqv_dec (p := tableM ps = tableM qs) (pl_tab (n := 0) k1) (pl_tab (n := 0) k2) tabD_inj]
    exact q

end
end LN
namespace LN
open PySem PySem.Spec PyProof.Rows L2 SlX

/-! ### tuples of tuples -/
def TO : Nat → PyData → Prop
  | 0, d => Leaf d
  | n + 1, d => Leaf d ∨ ∃ ds, d = .tuple ds ∧ ds.length ≤ 100000 ∧ ∀ x ∈ ds, TO n x
theorem leaf_lt {d : PyData} (h : Leaf d) : isLT d = false := by
  rcases h with h | ⟨i, h⟩ | ⟨x, h, _⟩ <;> subst h <;> rfl
def R_tupled (n : Nat) : AN := fun xs M Q => ∃ d, xs = [.d d] ∧ TO n d ∧ Q (.d d) M
def R_never : AN := fun _ _ _ => False

section
variable {P : Program} {w : World} {K : Frg} {mg : Str → Option Value} {base : Heap}

abbrev N_tupled : List Str := ["value", "part"]
theorem sc_tupled : FnScope N_tupled ["value"] (L2.defScope s_tupled) := ⟨rfl, rfl, rfl, by decide +kernel, rfl, by decide +kernel, by decide +kernel⟩
set_option maxHeartbeats 4000000 in
theorem kp_tupled_step {R0 R1 : AN} {k : Nat} (hlen : ∀ xs M Q, R1 xs M Q → xs.length = 1) (hR : ∀ xs M Q, R1 xs M Q → ∃ d, xs = [.d d] ∧ (Leaf d ∨ ∃ ds, d = .tuple ds ∧ ds.length ≤ 100000 ∧ ∀ x ∈ ds, ∀ (M : Sto) (Q : AQ), Q (.d x) M → R0 [.d x] M Q) ∧ Q (.d d) M) (T : Tx K mg) (c_tupled : Kp P w K mg base k (He.ga K "tupled") ["value"] R0) : Kp P w K mg base (k + 1) (He.ga K "tupled") ["value"] R1 := by
  refine kp_n (k := k) (T.def_ 1) sc_tupled (fun _ _ _ _ _ _ us hl => match us, hl with | [_], _ => rfl) (fun xs M Q h => ?len) (fun cdv A outer s H E hr => ⟨_, _, ⟨
    (pss_one (ps_ret (pe_ifExp (pt_val (pe_callB call_isiT (by rfl) (T.free 76) (by decide +kernel) (pa_cons (pv 0) (pa_cons (pe_tup (pa_cons (pe_bltn (v := .ty "list") (by rfl) (T.free 70) (by decide +kernel) rfl) (pa_cons (pe_bltn (v := .ty "tuple") (by rfl) (T.free 69) boot_tuple rfl) pa_nil))) pa_nil)))) (pe_callTy call_tupleS (by rfl) (T.free 69) boot_tuple (pa_cons (pe_lc (own := [("part", 1)]) rfl sc_tupled.nd (pi_tup (pv 0)) (blkOk_by (N := N_tupled) (sc := L2.defScope s_tupled) (by decide +kernel)) (fun _ _ _ _ _ => (pg_name (i := 1) sc_tupled.nd rfl (Or.inl rfl))) (fun _ _ _ _ _ => pts_nil) (fun _ _ _ _ _ => (pe_def c_tupled hr (by rfl) (T.glo 1) (pa_cons (pv 1) pa_nil)))) pa_nil)) (pv 0)))),
    (ss_ret (se_if (st_B (se_isiT2 kLT se_var)) (se_cb sn_tuple (sa_cons (se_lc (si_tup se_var) sg_nm (wg_nm (by decide)) st_yes' (se_call (sa_cons se_var sa_nil))) sa_nil)) se_var))⟩, fun xs M Qa h => ?body⟩)
  case len => exact hlen _ _ _ h
  case body =>
    obtain ⟨d, rfl, h, q⟩ := hR _ _ _ h
    refine ⟨_, rfl, _, rfl, _, rfl, iteB (fun c => ?_) (fun c => ?_)⟩
    · rcases h with h | ⟨ds, rfl, hl, hx⟩
      · rw [leaf_lt h] at c; cases c
      · refine ⟨_, rfl, _, rfl, ?_⟩
        refine lcS ds (fun x => .d x) (fun x => x) (by omega) (fun x hx2 p Z hZ => ?_) ?_
        · exact ⟨_, rfl, hx x hx2 (p :: M) _ ⟨x, _, rfl, Sub.refl _, rfl, hZ⟩⟩
        · rw [List.map_id']
          exact .inl ⟨_, rfl, _, Sub.refl _, q⟩
    · exact ⟨_, rfl, _, Sub.refl _, q⟩

theorem kp_tupled_no (T : Tx K mg) : Kp P w K mg base 1 (He.ga K "tupled") ["value"] R_never := by
  obtain ⟨fd, Fn⟩ := T.def_ (K := K) (mg := mg) 1
  exact ⟨⟨fd, Fn.ok (N := N_tupled) sc_tupled (fun vs H Q E h => (by obtain ⟨_, _, _, _, _, _, z, _⟩ := h; exact z.elim)) (fun cdv A outer s H vs Q E hr h => (by obtain ⟨_, _, _, _, _, _, z, _⟩ := h; exact z.elim)),
    Fn.bindsN (fun _ _ _ _ _ _ us hl => match us, hl with | [_], _ => rfl)⟩, Fn.kp⟩
theorem kp_tupled (T : Tx K mg) : ∀ n : Nat, Kp P w K mg base (n + 2) (He.ga K "tupled") ["value"] (R_tupled n)
  | 0 => kp_tupled_step (R0 := R_never) (k := 1) (fun xs M Q h => by obtain ⟨d, rfl, _⟩ := h; rfl) (fun xs M Q h => by
      obtain ⟨d, e, h, q⟩ := h
      exact ⟨d, e, .inl h, q⟩) T (kp_tupled_no T)
  | n + 1 => kp_tupled_step (R0 := R_tupled n) (k := n + 2) (fun xs M Q h => by obtain ⟨d, rfl, _⟩ := h; rfl) (fun xs M Q h => by
      obtain ⟨d, e, h, q⟩ := h
      refine ⟨d, e, ?_, q⟩
      rcases h with h | ⟨ds, e2, hl, hx⟩
      · exact .inl h
      · exact .inr ⟨ds, e2, hl, fun x hx2 M Q q => ⟨x, rfl, hx x hx2, q⟩⟩) T (kp_tupled T n)
theorem to_leaf {n : Nat} {d : PyData} (h : Leaf d) : TO n d := by
  cases n with
  | zero => exact h
  | succ n => exact .inl h
theorem to_str {n : Nat} {x : Str} (h : StrOk x) : TO n (.str x) := to_leaf (.inr (.inr ⟨x, rfl, h⟩))
theorem to_fr {n : Nat} (q : Rat) : TO (n + 1) (fr q) := .inr ⟨_, rfl, (show 2 ≤ 100000 by decide), fun x hx => by
  simp only [List.mem_cons, List.not_mem_nil, or_false] at hx
  rcases hx with e | e <;> subst e <;> exact to_leaf (.inr (.inl ⟨_, rfl⟩))⟩
theorem to_part {n : Nat} : ∀ {p : Part}, p.NmOk → TO (n + 2) (partD p)
  | .weir a q t r, ⟨h1, h2, h3⟩ => .inr ⟨_, rfl, (show 5 ≤ 100000 by decide), fun x hx => by
    simp only [List.mem_cons, List.not_mem_nil, or_false] at hx
    rcases hx with e | e | e | e | e <;> subst e
    · exact to_str (by decide +kernel)
    · exact to_str h1
    · exact to_fr q
    · exact to_str h2
    · exact to_str h3⟩
  | .div a q t r, ⟨h1, h2, h3⟩ => .inr ⟨_, rfl, (show 5 ≤ 100000 by decide), fun x hx => by
    simp only [List.mem_cons, List.not_mem_nil, or_false] at hx
    rcases hx with e | e | e | e | e <;> subst e
    · exact to_str (by decide +kernel)
    · exact to_str h1
    · exact to_fr q
    · exact to_str h2
    · exact to_str h3⟩
  | .join a b t, ⟨h1, h2, h3⟩ => .inr ⟨_, rfl, (show 4 ≤ 100000 by decide), fun x hx => by
    simp only [List.mem_cons, List.not_mem_nil, or_false] at hx
    rcases hx with e | e | e | e <;> subst e
    · exact to_str (by decide +kernel)
    · exact to_str h1
    · exact to_str h2
    · exact to_str h3⟩
theorem to_parts {n : Nat} {ps : List Part} (hl : ps.length ≤ 100000) (h : ∀ p ∈ ps, p.NmOk) : TO (n + 3) (partsD ps) := .inr ⟨_, rfl, by rw [List.length_map]; exact hl, fun x hx => by
  obtain ⟨p, hp, rfl⟩ := List.mem_map.mp hx
  exact to_part (h p hp)⟩
/-- short enough to be written out -/
def TxtOk (q : Rat) : Prop := 0 ≤ q ∧ q.num.natAbs < 2 ^ 1900 ∧ q.den < 2 ^ 1900
theorem int_len {i : Int} (h0 : 0 ≤ i) (h : i.natAbs < 2 ^ 1900) : i.natAbs.log2 < 1920 ∧ (Str.ofString (toString i)).length ≤ 600 := by
  refine ⟨Nat.lt_trans (log2_lt h (by decide)) (by decide), toString_length_le h0 (by decide) ?_⟩
  have h2 : (2 : Nat) ^ 1900 ≤ 10 ^ 600 := by decide +kernel
  have h3 : i.natAbs < 10 ^ 600 := Nat.lt_of_lt_of_le h h2
  have h4 : ((10 ^ 600 : Nat) : Int) = (10 : Int) ^ 600 := by
    rw [Int.natCast_pow]; rfl
  rw [← h4]
  omega

def R_amount_text : AN := fun xs M Q => ∃ q, xs = [.d (fr q)] ∧ TxtOk q ∧ ∀ t : Str, t.length ≤ 2000 → Q (.d (.str t)) M
abbrev N_amount_text : List Str := ["amount", "top", "bottom"]
theorem sc_amount_text : FnScope N_amount_text ["amount"] (L2.defScope s_amount_text) := ⟨rfl, rfl, rfl, by decide +kernel, rfl, by decide +kernel, by decide +kernel⟩
set_option maxHeartbeats 4000000 in
theorem kp_amount_text (T : Tx K mg) : Kp P w K mg base 1 (He.ga K "amount_text") ["amount"] R_amount_text := by
  refine kp_n (k := 0) (T.def_ 26) sc_amount_text (fun _ _ _ _ _ _ us hl => match us, hl with | [_], _ => rfl) (fun xs M Q h => ?len) (fun cdv A outer s H E hr => ⟨_, _, ⟨
    (pss_cons (ps_asg (pv 0) (pg_tup (n := 2) rfl (pgs_cons (pg_name (i := 1) sc_amount_text.nd rfl (Or.inl rfl)) (pgs_cons (pg_name (i := 2) sc_amount_text.nd rfl (Or.inl rfl)) pgs_nil)))) (pss_one (ps_ret (pe_ifExp (pt_cmpR (op_eqD hr.units) (pv 2) pe_int (nomark _)) (pe_callTy call_str_int (by rfl) (T.free 79) (by decide +kernel) (pa_cons (pv 1) pa_nil)) (pe_op op_add_str (pe_op op_add_str (pe_callTy call_str_int (by rfl) (T.free 79) (by decide +kernel) (pa_cons (pv 1) pa_nil)) (pe_glob (v := .str "/") (by rfl) T.s_SLASH.choose_spec ⟨_, rfl⟩)) (pe_callTy call_str_int (by rfl) (T.free 79) (by decide +kernel) (pa_cons (pv 2) pa_nil))))))),
    (ss_seq (ss_asg se_var (sg_tup (sgs_cons sg_nm (sgs_cons sg_nm sgs_nil)))) (ss_ret (se_if (st_T (se_op s2_eq se_var se_int)) (se_cb sn_strint (sa_cons se_var sa_nil)) (se_op s2_addS (se_op s2_addS (se_cb sn_strint (sa_cons se_var sa_nil)) se_str) (se_cb sn_strint (sa_cons se_var sa_nil))))))⟩, fun xs M Qa h => ?body⟩)
  case len => obtain ⟨q, rfl, _⟩ := h; rfl
  case body =>
    obtain ⟨q, rfl, ⟨h0, h1, h2⟩, qq⟩ := h
    obtain ⟨l1, t1⟩ := int_len (Rat.num_nonneg.mpr h0) h1
    obtain ⟨l2, t2⟩ := int_len (i := (q.den : Int)) (by omega) (by rw [Int.natAbs_natCast]; exact h2)
    refine ⟨_, rfl, _, rfl, rfl, _, _, rfl, _, _, rfl, rfl, ?_⟩
    refine ⟨_, rfl, _, _, rfl, rfl, rfl, rfl, _, rfl, iteB (fun _ => ?_) (fun _ => ?_)⟩
    · exact ⟨_, rfl, _, rfl, l1, _, Sub.refl _, qq _ (by omega)⟩
    · have s1 : (Str.length "/") = 1 := by decide
      have e1 : (Str.ofString (toString q.num) ++ ("/" : Str)).length = (Str.ofString (toString q.num)).length + 1 := by
        rw [show ∀ a b : Str, (a ++ b).length = a.length + b.length from fun a b => by
          show (a.cps ++ b.cps).size = _
          rw [Array.size_append]; rfl]
        rw [s1]
      refine ⟨_, rfl, _, rfl, l1, _, _, rfl, rfl, by rw [s1]; omega, _, rfl, _, rfl, l2, _, _, rfl, rfl, by rw [e1]; omega, _, Sub.refl _, qq _ ?_⟩
      rw [show ∀ a b : Str, (a ++ b).length = a.length + b.length from fun a b => by
          show (a.cps ++ b.cps).size = _
          rw [Array.size_append]; rfl]
      rw [e1]
      omega


def Part.TxOk : Part → Prop
  | .weir a q t r => TxtOk q ∧ a.length ≤ 100 ∧ t.length ≤ 100 ∧ r.length ≤ 100
  | .div a q t r => TxtOk q ∧ a.length ≤ 100 ∧ t.length ≤ 100 ∧ r.length ≤ 100
  | .join a b t => a.length ≤ 100 ∧ b.length ≤ 100 ∧ t.length ≤ 100
theorem join_len (s : Str) : ∀ ys : List Str, (Txt.join s ys).length ≤ (ys.map (·.length)).sum + ys.length * s.length := fun ys => by
  show (Builtin.Str.glued s ys).length ≤ _
  rw [StrLaws.glued_eq_join]
  have app : ∀ a b : Str, (a ++ b).length = a.length + b.length := fun a b => by
    show (a.cps ++ b.cps).size = _
    rw [Array.size_append]; rfl
  induction ys with
  | nil => exact Nat.zero_le _
  | cons x r ih =>
    cases r with
    | nil =>
      show x.length ≤ _
      simp only [List.map_cons, List.map_nil, List.sum_cons, List.sum_nil, List.length_cons, List.length_nil]
      omega
    | cons y r =>
      show ((x ++ s) ++ Str.join s (y :: r)).length ≤ _
      rw [app, app, List.map_cons, List.sum_cons, List.length_cons, Nat.succ_mul]
      omega
theorem app_len (a b : Str) : (a ++ b).length = a.length + b.length := by
  show (a.cps ++ b.cps).size = _
  rw [Array.size_append]; rfl

def R_part_text : AN := fun xs M Q => ∃ p, xs = [.d (partD p)] ∧ p.TxOk ∧ ∀ t : Str, t.length ≤ 4000 → Q (.d (.str t)) M
abbrev N_part_text : List Str := ["part", "word", "one", "much", "to", "rest"]
theorem sc_part_text : FnScope N_part_text ["part"] (L2.defScope s_part_text) := ⟨rfl, rfl, rfl, by decide +kernel, rfl, by decide +kernel, by decide +kernel⟩
set_option maxHeartbeats 4000000 in
theorem kp_part_text (T : Tx K mg) (c_amount_text : Kp P w K mg base 1 (He.ga K "amount_text") ["amount"] R_amount_text) : Kp P w K mg base 2 (He.ga K "part_text") ["part"] R_part_text := by
  refine kp_n (k := 1) (T.def_ 27) sc_part_text (fun _ _ _ _ _ _ us hl => match us, hl with | [_], _ => rfl) (fun xs M Q h => ?len) (fun cdv A outer s H E hr => ⟨_, _, ⟨
    (pss_cons (ps_if (pt_cmpR (op_eqD hr.units) (pe_ix ix_seq (pv 0) pe_int (fun _ _ => rfl)) pe_str (nomark _)) (pss_one (ps_ret (pe_join (pe_glob (v := .str " ") (by rfl) T.s_BLANK.choose_spec ⟨_, rfl⟩) (pv 0)))) pss_nil) (pss_cons (ps_asg (pv 0) (pg_tup (n := 5) rfl (pgs_cons (pg_name (i := 1) sc_part_text.nd rfl (Or.inl rfl)) (pgs_cons (pg_name (i := 2) sc_part_text.nd rfl (Or.inl rfl)) (pgs_cons (pg_name (i := 3) sc_part_text.nd rfl (Or.inl rfl)) (pgs_cons (pg_name (i := 4) sc_part_text.nd rfl (Or.inl rfl)) (pgs_cons (pg_name (i := 5) sc_part_text.nd rfl (Or.inl rfl)) pgs_nil))))))) (pss_one (ps_ret (pe_join (pe_glob (v := .str " ") (by rfl) T.s_BLANK.choose_spec ⟨_, rfl⟩) (pe_lst (pa_cons (pv 1) (pa_cons (pv 2) (pa_cons (pe_def c_amount_text (hr.mono (by decide)) (by rfl) (T.glo 20) (pa_cons (pv 3) pa_nil)) (pa_cons (pv 4) (pa_cons (pv 5) pa_nil))))))))))),
    (ss_seq (ss_if (st_T (se_op s2_eq (se_op s2_ix se_var se_int) se_str)) (ss_ret (se_join se_str se_var)) ss_next) (ss_seq (ss_asg se_var (sg_tup (sgs_cons sg_nm (sgs_cons sg_nm (sgs_cons sg_nm (sgs_cons sg_nm (sgs_cons sg_nm sgs_nil))))))) (ss_ret (se_join se_str (se_lst (sa_cons se_var (sa_cons se_var (sa_cons (se_call (sa_cons se_var sa_nil)) (sa_cons se_var (sa_cons se_var sa_nil))))))))))⟩, fun xs M Qa h => ?body⟩)
  case len => obtain ⟨p, rfl, _⟩ := h; rfl
  case body =>
    obtain ⟨p, rfl, ok, qq⟩ := h
    have b1 : (Str.length " ") = 1 := by decide
    match p, ok with
    | .join a b t, ⟨h1, h2, h3⟩ =>
      have l4 : (Str.length "join") = 4 := by decide
      refine ⟨_, rfl, _, 0, _, .inl rfl, rfl, rfl, _, _, rfl, rfl, sh_str (by decide +kernel), sh_str (by decide +kernel), _, rfl, iteB (fun _ => ?_) (fun z => absurd z (by rw [id, eqv_strs]; decide))⟩
      have key : ((["join", a, b, t] : List Str).map (·.length)).sum + (["join", a, b, t] : List Str).length * (Str.length " ") ≤ 400 := by
        simp only [List.map_cons, List.map_nil, List.sum_cons, List.sum_nil, List.length_cons, List.length_nil, b1, l4]
        omega
      exact ⟨_, rfl, _, rfl, ["join", a, b, t], .inr rfl, Nat.le_trans key (by decide), _, Sub.refl _, qq _ (Nat.le_trans (join_len _ _) (Nat.le_trans key (by decide)))⟩
    | .weir a q t r, ⟨hq, h1, h2, h3⟩ =>
      have l4 : (Str.length "weir") = 4 := by decide
      refine ⟨_, rfl, _, 0, _, .inl rfl, rfl, rfl, _, _, rfl, rfl, sh_str (by decide +kernel), sh_str (by decide +kernel), _, rfl, iteB (fun z => absurd z (by rw [id, eqv_strs]; decide)) (fun _ => ?_)⟩
      refine ⟨_, rfl, _, rfl, rfl, _, _, rfl, _, _, rfl, _, _, rfl, _, _, rfl, _, _, rfl, rfl, ?_⟩
      refine ⟨_, rfl, _, rfl, _, rfl, _, rfl, q, rfl, hq, fun z hz => ?_⟩
      have key : ((["weir", a, z, t, r] : List Str).map (·.length)).sum + (["weir", a, z, t, r] : List Str).length * (Str.length " ") ≤ 4000 := by
        simp only [List.map_cons, List.map_nil, List.sum_cons, List.sum_nil, List.length_cons, List.length_nil, b1, l4]
        omega
      exact ⟨_, rfl, _, rfl, _, rfl, (show 5 ≤ 1000000 by decide), ["weir", a, z, t, r], .inl rfl, Nat.le_trans key (by decide), _, Sub.refl _, qq _ (Nat.le_trans (join_len _ _) key)⟩
    | .div a q t r, ⟨hq, h1, h2, h3⟩ =>
      have l4 : (Str.length "divide") = 6 := by decide
      refine ⟨_, rfl, _, 0, _, .inl rfl, rfl, rfl, _, _, rfl, rfl, sh_str (by decide +kernel), sh_str (by decide +kernel), _, rfl, iteB (fun z => absurd z (by rw [id, eqv_strs]; decide)) (fun _ => ?_)⟩
      refine ⟨_, rfl, _, rfl, rfl, _, _, rfl, _, _, rfl, _, _, rfl, _, _, rfl, _, _, rfl, rfl, ?_⟩
      refine ⟨_, rfl, _, rfl, _, rfl, _, rfl, q, rfl, hq, fun z hz => ?_⟩
      have key : ((["divide", a, z, t, r] : List Str).map (·.length)).sum + (["divide", a, z, t, r] : List Str).length * (Str.length " ") ≤ 4000 := by
        simp only [List.map_cons, List.map_nil, List.sum_cons, List.sum_nil, List.length_cons, List.length_nil, b1, l4]
        omega
      exact ⟨_, rfl, _, rfl, _, rfl, (show 5 ≤ 1000000 by decide), ["divide", a, z, t, r], .inl rfl, Nat.le_trans key (by decide), _, Sub.refl _, qq _ (Nat.le_trans (join_len _ _) key)⟩

def R_taken_names : AN := fun xs M Q => ∃ p, xs = [.d (partD p)] ∧ Q (.d (.tuple (strsD p.ins))) M
abbrev N_taken_names : List Str := ["part"]
theorem sc_taken_names : FnScope N_taken_names ["part"] (L2.defScope s_taken_names) := ⟨rfl, rfl, rfl, by decide +kernel, rfl, by decide +kernel, by decide +kernel⟩
set_option maxHeartbeats 4000000 in
theorem kp_taken_names (T : Tx K mg) : Kp P w K mg base 1 (He.ga K "taken_names") ["part"] R_taken_names := by
  refine kp_n (k := 0) (T.def_ 28) sc_taken_names (fun _ _ _ _ _ _ us hl => match us, hl with | [_], _ => rfl) (fun xs M Q h => ?len) (fun cdv A outer s H E hr => ⟨_, _, ⟨
    (pss_one (ps_ret (pe_ifExp (pt_cmpR (op_eqD hr.units) (pe_ix ix_seq (pv 0) pe_int (fun _ _ => rfl)) (pe_glob (v := .str "join") (by rfl) T.s_JOIN.choose_spec ⟨_, rfl⟩) (nomark _)) (pe_slice (SlR.or sl_list sl_tupS) (pv 0) (po_some pe_int) (po_some pe_int)) (pe_slice (SlR.or sl_list sl_tupS) (pv 0) (po_some pe_int) (po_some pe_int))))),
    (ss_ret (se_if (st_T (se_op s2_eq (se_op s2_ix se_var se_int) se_str)) (se_sl se_var (so_some se_int) (so_some se_int)) (se_sl se_var (so_some se_int) (so_some se_int))))⟩, fun xs M Qa h => ?body⟩)
  case len => obtain ⟨p, rfl, _⟩ := h; rfl
  case body =>
    obtain ⟨p, rfl, qq⟩ := h
    match p, qq with
    | .join a b t, qq =>
      refine ⟨_, rfl, _, 0, _, .inl rfl, rfl, rfl, _, _, rfl, rfl, sh_str (by decide +kernel), sh_str (by decide +kernel), _, rfl, iteB (fun _ => ?_) (fun z => absurd z (by rw [id, eqv_strs]; decide))⟩
      exact ⟨_, rfl, _, rfl, _, rfl, .inl ⟨_, rfl, _, Sub.refl _, qq⟩⟩
    | .weir a q t r, qq =>
      refine ⟨_, rfl, _, 0, _, .inl rfl, rfl, rfl, _, _, rfl, rfl, sh_str (by decide +kernel), sh_str (by decide +kernel), _, rfl, iteB (fun z => absurd z (by rw [id, eqv_strs]; decide)) (fun _ => ?_)⟩
      exact ⟨_, rfl, _, rfl, _, rfl, .inl ⟨_, rfl, _, Sub.refl _, qq⟩⟩
    | .div a q t r, qq =>
      refine ⟨_, rfl, _, 0, _, .inl rfl, rfl, rfl, _, _, rfl, rfl, sh_str (by decide +kernel), sh_str (by decide +kernel), _, rfl, iteB (fun z => absurd z (by rw [id, eqv_strs]; decide)) (fun _ => ?_)⟩
      exact ⟨_, rfl, _, rfl, _, rfl, .inl ⟨_, rfl, _, Sub.refl _, qq⟩⟩

def R_made_names : AN := fun xs M Q => ∃ p, xs = [.d (partD p)] ∧ Q (.d (.tuple (strsD p.outs))) M
abbrev N_made_names : List Str := ["part"]
theorem sc_made_names : FnScope N_made_names ["part"] (L2.defScope s_made_names) := ⟨rfl, rfl, rfl, by decide +kernel, rfl, by decide +kernel, by decide +kernel⟩
set_option maxHeartbeats 4000000 in
theorem kp_made_names (T : Tx K mg) : Kp P w K mg base 1 (He.ga K "made_names") ["part"] R_made_names := by
  refine kp_n (k := 0) (T.def_ 29) sc_made_names (fun _ _ _ _ _ _ us hl => match us, hl with | [_], _ => rfl) (fun xs M Q h => ?len) (fun cdv A outer s H E hr => ⟨_, _, ⟨
    (pss_one (ps_ret (pe_slice (SlR.or sl_list sl_tupS) (pv 0) (po_some pe_int) po_none))),
    (ss_ret (se_sl se_var (so_some se_int) so_none))⟩, fun xs M Qa h => ?body⟩)
  case len => obtain ⟨p, rfl, _⟩ := h; rfl
  case body =>
    obtain ⟨p, rfl, qq⟩ := h
    match p, qq with
    | .join a b t, qq => exact ⟨_, rfl, _, rfl, .inl ⟨_, rfl, _, Sub.refl _, qq⟩⟩
    | .weir a q t r, qq => exact ⟨_, rfl, _, rfl, .inl ⟨_, rfl, _, Sub.refl _, qq⟩⟩
    | .div a q t r, qq => exact ⟨_, rfl, _, rfl, .inl ⟨_, rfl, _, Sub.refl _, qq⟩⟩


/-- a part that may stand behind others -/
structure PartOk (taken made : List Str) (p : Part) : Prop where
  ni : p.ins.Nodup
  no : p.outs.Nodup
  im : ∀ n ∈ p.ins, n ∈ made
  it : ∀ n ∈ p.ins, n ∉ taken
  om : ∀ n ∈ p.outs, n ∉ made
theorem nodup_set {l : List Str} (h : l.Nodup) : (setS l).length = l.length := by
  unfold setS
  rw [(isortS_perm _).length_eq]
  have key : ∀ (xs acc : List Str), (acc ++ xs).Nodup → (gather acc xs).length = acc.length + xs.length := by
    intro xs
    induction xs with
    | nil => intro acc _; rfl
    | cons x r ih =>
      intro acc h
      have hx : x ∉ acc := fun z => by
        rw [List.nodup_append] at h
        exact h.2.2 x z x List.mem_cons_self rfl
      show (gather (if x ∈ acc then acc else x :: acc) r).length = _
      rw [if_neg hx, ih (x :: acc) (List.perm_middle.nodup_iff.mp h)]
      simp only [List.length_cons]
      omega
  have := key l [] (by simpa using h)
  simpa using this
theorem ins_le (p : Part) : p.ins.length < 64 := by cases p <;> simp [Part.ins]
theorem outs_le (p : Part) : p.outs.length < 64 := by cases p <;> simp [Part.outs]
theorem outs_nm : ∀ {p : Part}, p.NmOk → ∀ n ∈ p.outs, StrOk n
  | .weir a q t r, h, n, hn => by
    simp only [Part.outs, List.mem_cons, List.not_mem_nil, or_false] at hn
    rcases hn with e | e
    · rw [e]; exact h.2.1
    · rw [e]; exact h.2.2
  | .div a q t r, h, n, hn => by
    simp only [Part.outs, List.mem_cons, List.not_mem_nil, or_false] at hn
    rcases hn with e | e
    · rw [e]; exact h.2.1
    · rw [e]; exact h.2.2
  | .join a b t, h, n, hn => by
    simp only [Part.outs, List.mem_cons, List.not_mem_nil, or_false] at hn
    rw [hn]; exact h.2.2
theorem ins_nm : ∀ {p : Part}, p.NmOk → ∀ n ∈ p.ins, StrOk n
  | .weir a q t r, h, n, hn => by
    simp only [Part.ins, List.mem_cons, List.not_mem_nil, or_false] at hn
    rw [hn]; exact h.1
  | .div a q t r, h, n, hn => by
    simp only [Part.ins, List.mem_cons, List.not_mem_nil, or_false] at hn
    rw [hn]; exact h.1
  | .join a b t, h, n, hn => by
    simp only [Part.ins, List.mem_cons, List.not_mem_nil, or_false] at hn
    rcases hn with e | e
    · rw [e]; exact h.1
    · rw [e]; exact h.2.1

def R_stands_behind : AN := fun xs M Q => ∃ tk md p, xs = [.d (.tuple (strsD tk)), .d (.tuple (strsD md)), .d (partD p)] ∧ PartOk tk md p ∧ p.NmOk ∧ (∀ n ∈ tk, StrOk n) ∧ (∀ n ∈ md, StrOk n) ∧ Q (.d (.bool true)) M
abbrev N_stands_behind : List Str := ["taken", "made", "part", "takes", "makes", "name"]
theorem sc_stands_behind : FnScope N_stands_behind ["taken", "made", "part"] (L2.defScope s_stands_behind) := ⟨rfl, rfl, rfl, by decide +kernel, rfl, by decide +kernel, by decide +kernel⟩
set_option maxHeartbeats 4000000 in
theorem kp_stands_behind (T : Tx K mg) (c_made_names : Kp P w K mg base 1 (He.ga K "made_names") ["part"] R_made_names) (c_taken_names : Kp P w K mg base 1 (He.ga K "taken_names") ["part"] R_taken_names) (c_set_of : Kp P w K mg base 1 (He.ga K "set_of") ["some"] R_set_of) : Kp P w K mg base 2 (He.ga K "stands_behind") ["taken", "made", "part"] R_stands_behind := by
  refine kp_n (k := 1) (T.def_ 30) sc_stands_behind (fun _ _ _ _ _ _ us hl => match us, hl with | [_, _, _], _ => rfl) (fun xs M Q h => ?len) (fun cdv A outer s H E hr => ⟨_, _, ⟨
    (pss_cons (ps_par (i := 3) (j := 4) rfl sc_stands_behind.nd rfl rfl (by decide) rfl rfl (pa_cons (pe_def c_taken_names (hr.mono (by decide)) (by rfl) (T.glo 22) (pa_cons (pv 2) pa_nil)) (pa_cons (pe_def c_made_names (hr.mono (by decide)) (by rfl) (T.glo 23) (pa_cons (pv 2) pa_nil)) pa_nil)) rfl) (pss_cons (ps_if (PW.pt (pw_or (pt_cmpR op_lt (pe_callB call_len_seq (by rfl) (T.free 68) PySem.boot_len (pa_cons (pe_def c_set_of (hr.mono (by decide)) (by rfl) (T.glo 0) (pa_cons (pv 3) pa_nil)) pa_nil)) (pe_callB call_len_seq (by rfl) (T.free 68) PySem.boot_len (pa_cons (pv 3) pa_nil)) (nomark _)) (pw_or1 (pt_cmpR op_lt (pe_callB call_len_seq (by rfl) (T.free 68) PySem.boot_len (pa_cons (pe_def c_set_of (hr.mono (by decide)) (by rfl) (T.glo 0) (pa_cons (pv 4) pa_nil)) pa_nil)) (pe_callB call_len_seq (by rfl) (T.free 68) PySem.boot_len (pa_cons (pv 4) pa_nil)) (nomark _))))) (pss_one (ps_ret pe_bl)) pss_nil) (pss_one (ps_ret (pe_and (pe_callB (cr_all rfl) (by rfl) (T.free 80) (by decide +kernel) (pa_cons (pe_lc (own := [("name", 5)]) rfl sc_stands_behind.nd (pi_tup (pv 3)) (blkOk_by (N := N_stands_behind) (sc := L2.defScope s_stands_behind) (by decide +kernel)) (fun _ _ _ _ _ => (pg_name (i := 5) sc_stands_behind.nd rfl (Or.inl rfl))) (fun _ _ _ _ _ => pts_nil) (fun _ _ _ _ _ => (pe_and (pe_cmpR (op_inDT (u65 hr)) (pv 5) (pv 1) rfl) (pe_one (pe_cmpR (op_notInDT (u65 hr)) (pv 5) (pv 0) rfl))))) pa_nil)) (pe_one (pe_not (pe_callB (cr_any rfl) (by rfl) (T.free 81) (by decide +kernel) (pa_cons (pe_lc (own := [("name", 5)]) rfl sc_stands_behind.nd (pi_tup (pv 4)) (blkOk_by (N := N_stands_behind) (sc := L2.defScope s_stands_behind) (by decide +kernel)) (fun _ _ _ _ _ => (pg_name (i := 5) sc_stands_behind.nd rfl (Or.inl rfl))) (fun _ _ _ _ _ => pts_nil) (fun _ _ _ _ _ => (pe_cmpR (op_inDT (u65 hr)) (pv 5) (pv 1) rfl))) pa_nil))))))))),
    (ss_seq (ss_par (sa_cons (se_call (sa_cons se_var sa_nil)) (sa_cons (se_call (sa_cons se_var sa_nil)) sa_nil))) (ss_seq (ss_if (st_or (st_T (se_op s2_B0 (se_cb sn_len (sa_cons (se_call (sa_cons se_var sa_nil)) sa_nil)) (se_cb sn_len (sa_cons se_var sa_nil)))) (st_T (se_op s2_B0 (se_cb sn_len (sa_cons (se_call (sa_cons se_var sa_nil)) sa_nil)) (se_cb sn_len (sa_cons se_var sa_nil))))) (ss_ret se_bl) ss_next) (ss_ret (se_andV (se_cb sn_all (sa_cons (se_lc (si_tup se_var) sg_nm (wg_nm (by decide)) st_yes' (se_andV (se_op s2_inT se_var se_var) (se_op s2_inT se_var se_var))) sa_nil)) (se_notV (se_cb sn_any (sa_cons (se_lc (si_tup se_var) sg_nm (wg_nm (by decide)) st_yes' (se_op s2_inT se_var se_var)) sa_nil)))))))⟩, fun xs M Qa h => ?body⟩)
  case len => obtain ⟨tk, md, p, rfl, _⟩ := h; rfl
  case body =>
    obtain ⟨tk, md, p, rfl, ok, nm, h1, h2, qq⟩ := h
    have oi : ∀ n ∈ p.ins, StrOk n := fun n hn => h2 n (ok.im n hn)
    have oo : ∀ n ∈ p.outs, StrOk n := outs_nm nm
    refine ⟨_, rfl, p, rfl, _, rfl, p, rfl, _, _, rfl, ?_⟩
    refine ⟨_, rfl, p.ins, .inr rfl, ins_le p, .inr (.inl ⟨_, rfl, _, rfl, .inr (.inl ⟨_, rfl, _, _, rfl, rfl, _, rfl, iteB (fun c => ?_) (fun _ => ?_)⟩)⟩)⟩
    · have := of_decide_eq_true c
      unfold strsD at this
      rw [List.length_map, List.length_map, nodup_set ok.ni] at this
      omega
    refine ⟨_, rfl, p.outs, .inr rfl, outs_le p, .inr (.inl ⟨_, rfl, _, rfl, .inr (.inl ⟨_, rfl, _, _, rfl, rfl, _, rfl, iteB (fun c => ?_) (fun _ => ?_)⟩)⟩)⟩
    · have := of_decide_eq_true c
      unfold strsD at this
      rw [List.length_map, List.length_map, nodup_set ok.no] at this
      omega
    have em : ∀ l : List Str, l.map (fun n => Va.d (.str n)) = (strsD l).map .d := fun l => by
      unfold strsD
      rw [List.map_map]; rfl
    refine ⟨_, rfl, _, rfl, ?_⟩
    rw [← em]
    refine lcS p.ins (fun n => .d (.str n)) (fun _ => .bool true) (by have := ins_le p; omega) (fun n hn q Z hZ => ?_) ?_
    · refine ⟨_, rfl, _, rfl, _, _, rfl, rfl, sh_str (oi n hn), sh_strs h2, _, rfl, ?_⟩
      rw [any_str (oi n hn) h2, decide_eq_true (ok.im n hn)]
      refine ⟨_, rfl, _, rfl, _, _, rfl, rfl, sh_str (oi n hn), sh_strs h1, _, _, rfl, Sub.refl _, rfl, ?_⟩
      rw [any_str (oi n hn) h1, decide_eq_false (ok.it n hn)]
      exact hZ
    have e1 : p.ins.map (fun _ => PyData.bool true) = boolsD (p.ins.map fun _ => true) := by
      unfold boolsD
      rw [List.map_map]; rfl
    rw [e1]
    refine ⟨_, rfl, _, rfl, ?_⟩
    have ha : (p.ins.map fun _ => true).all id = true := by rw [List.all_map]; simp
    refine iteB (fun _ => ?_) (fun c => absurd (ha.symm.trans c) (by decide))
    refine ⟨_, rfl, _, rfl, ?_⟩
    rw [← em]
    refine lcS p.outs (fun n => .d (.str n)) (fun _ => .bool false) (by have := outs_le p; omega) (fun n hn q Z hZ => ?_) ?_
    · refine ⟨_, rfl, _, rfl, _, _, rfl, rfl, sh_str (oo n hn), sh_strs h2, _, _, rfl, Sub.refl _, rfl, ?_⟩
      rw [any_str (oo n hn) h2, decide_eq_false (ok.om n hn)]
      exact hZ
    have e2 : p.outs.map (fun _ => PyData.bool false) = boolsD (p.outs.map fun _ => false) := by
      unfold boolsD
      rw [List.map_map]; rfl
    rw [e2]
    have hb : (p.outs.map fun _ => false).any id = false := by rw [List.any_map]; simp
    exact ⟨_, rfl, false, congrArg (fun b => Va.d (.bool b)) hb, _, Sub.refl _, qq⟩

end
end LN
namespace LN
open PySem PySem.Spec PyProof.Rows L2 SlX

section
variable {P : Program} {w : World} {K : Frg} {mg : Str → Option Value} {base : Heap}
/-- a def with one default, called with all its arguments -/
theorem kp_d {x qual : Str} {params : Arguments} {st : List Stmt} {sc : Scope} {d : V} {kws : List (Str × V)} {f : Addr} {N ps : List Str} {k : Nat} {R : AN} (Fn : ∃ fd, FunD K x qual params st sc [d] kws f fd) (S : FnScope N ps sc)
    (hb : ∀ (T : Addr) (kV doc pm : Value) (an : Option Addr) (cdv ct : Value) (us its : List Value), us.length = ps.length → its.length = 1 →
      ∃ k, bindArgs (PySem.W.fnOf x qual params st sc (.ref T) kV doc pm an cdv ct) ⟨us, []⟩ = seqItems? (.ref T) >>= k ∧ k (some its.toArray) = pure (ps.zip (us ++ its.drop 1))) (len : ∀ xs M Q, R xs M Q → xs.length = ps.length)
    (body : ∀ (cdv : Value) (A : Around) (outer : List Env) (s : Shared) (H : Hp) (E : XK), Room k (A.deeper (envOfC qual sc s.heap.objs.size f cdv)) →
      ∃ t α, XSs (cxOf CX0 P w K mg base N qual sc f cdv A outer s H E).nox st t α ∧
        ∀ xs M Qa, R xs M Qa → α { nx := fun _ M1 => ∃ M', Sub M' M1 ∧ Qa (.d .none) M', rt := fun v M1 => ∃ M', Sub M' M1 ∧ Qa v M' } (startA N xs) M) : Kp P w K mg base (k + 1) f ps R := by
  obtain ⟨fd, Fn⟩ := Fn
  obtain ⟨ds, h1, B⟩ := Fn.binds1 ps.length 1 (fun z => nomatch z) rfl hb
  have e : ds = [] := by cases h1; rfl
  subst e
  exact kp_of Fn S B len body
end
theorem made_app (a b : List Part) : madeOf (a ++ b) = madeOf a ++ b.flatMap Part.outs := by
  unfold madeOf
  rw [List.flatMap_append]; rfl
theorem taken_app (a b : List Part) : takenOf (a ++ b) = takenOf a ++ b.flatMap Part.ins := by
  unfold takenOf
  rw [List.flatMap_append]
/-- every part may stand where it stands -/
def Valid (ps : List Part) : Prop := ∀ done p todo, ps = done ++ p :: todo → PartOk (takenOf done) (madeOf done) p
theorem star2 (a b : List Str) : dats ((strsD a).map Va.d ++ ((strsD b).map Va.d ++ [])) = some (strsD (a ++ b)) := by
  rw [dats_maps, List.append_nil, dats_map]
  unfold strsD
  rw [List.map_append]; rfl
theorem sum_le {l : List Str} {n : Nat} (h : ∀ x ∈ l, x.length ≤ n) : (l.map (·.length)).sum ≤ l.length * n := by
  induction l with
  | nil => simp
  | cons x r ih =>
    have h1 := h x List.mem_cons_self
    have h2 := ih fun y hy => h y (List.mem_cons_of_mem _ hy)
    rw [List.map_cons, List.sum_cons, List.length_cons, Nat.succ_mul]
    omega

section
variable {P : Program} {w : World} {K : Frg} {mg : Str → Option Value} {base : Heap}

def R_net (C : Addr) : AN := fun xs M Q => ∃ (a dx : Addr) (ps : List Part) (M0 : Sto), xs = [.m a, .d (partsD ps)] ∧ M = (a, .sl C dx []) :: M0 ∧ Valid ps ∧ (∀ p ∈ ps, p.NmOk ∧ p.TxOk) ∧ ps.length ≤ 500 ∧
  ∀ t : Str, Q (.d .none) ((a, .sl C dx ([.tuple (strsD (madeOf ps)), partsD ps, .tuple (strsD (takenOf ps)), .str t].map fun d => some (.d d))) :: M0)
abbrev N_Net___init__ : List Str := ["self", "parts", "taken", "made", "place", "part", "pieces"]
theorem sc_Net___init__ : FnScope N_Net___init__ ["self", "parts"] (L2.defScope s_Net___init__) := ⟨rfl, rfl, rfl, by decide +kernel, rfl, by decide +kernel, by decide +kernel⟩
set_option maxHeartbeats 4000000 in
theorem kp_Net___init__ (T : Tx K mg) (c_tupled : Kp P w K mg base 5 (He.ga K "tupled") ["value"] (R_tupled 3)) (c_stands_behind : Kp P w K mg base 2 (He.ga K "stands_behind") ["taken", "made", "part"] R_stands_behind) (c_made_names : Kp P w K mg base 1 (He.ga K "made_names") ["part"] R_made_names) (c_taken_names : Kp P w K mg base 1 (He.ga K "taken_names") ["part"] R_taken_names) (c_part_text : Kp P w K mg base 2 (He.ga K "part_text") ["part"] R_part_text) : Kp P w K mg base 6 (He.ma K (He.ga K "Net") "__init__") ["self", "parts"] (R_net (He.ga K "Net")) := by
  refine kp_d (k := 5) (T.def_ 31) sc_Net___init__ (fun _ _ _ _ _ _ _ us its h1 h2 => match us, its, h1, h2 with | [_, _], [_], _, _ => ⟨_, rfl, rfl⟩) (fun xs M Q h => ?len) (fun cdv A outer s H E hr => ⟨_, _, ⟨
    (pss_cons (ps_asg (pe_tupS (pa_cons (pe_def c_tupled (hr.mono (by decide)) (by rfl) (T.glo 1) (pa_cons (pv 1) pa_nil)) (pa_cons (pe_tupS pa_nil) (pa_cons (pe_tupS (pa_cons (pe_glob (v := .str "in") (by rfl) T.s_SOURCE_nets.choose_spec ⟨_, rfl⟩) pa_nil)) pa_nil)))) (pg_tup (n := 3) rfl (pgs_cons (pg_slot (pv 0)) (pgs_cons (pg_name (i := 2) sc_Net___init__.nd rfl (Or.inl rfl)) (pgs_cons (pg_name (i := 3) sc_Net___init__.nd rfl (Or.inl rfl)) pgs_nil))))) (pss_cons (ps_for PassesOwn.never rfl (pi_enumT (by rfl) (T.free 74) (pa_cons (SlX.pe_sl (pv 0)) pa_nil)) (pg_tup (n := 2) rfl (pgs_cons (pg_name (i := 4) sc_Net___init__.nd rfl (Or.inl rfl)) (pgs_cons (pg_name (i := 5) sc_Net___init__.nd rfl (Or.inl rfl)) pgs_nil))) (pss_cons (ps_if (pt_not (pt_val (pe_def c_stands_behind (hr.mono (by decide)) (by rfl) (T.glo 24) (pa_cons (pv 2) (pa_cons (pv 3) (pa_cons (pv 5) pa_nil)))))) (pss_one ps_never) pss_nil) (pss_one (ps_par (i := 2) (j := 3) rfl sc_Net___init__.nd rfl rfl (by decide) rfl rfl (pa_cons (pe_tupS (StX.pa_star (pv 2) (StX.pa_star (pe_def c_taken_names (hr.mono (by decide)) (by rfl) (T.glo 22) (pa_cons (pv 5) pa_nil)) pa_nil))) (pa_cons (pe_tupS (StX.pa_star (pv 3) (StX.pa_star (pe_def c_made_names (hr.mono (by decide)) (by rfl) (T.glo 23) (pa_cons (pv 5) pa_nil)) pa_nil))) pa_nil)) rfl)))) (pss_cons (ps_asg (pe_tupS (pa_cons (pv 2) (pa_cons (pv 3) pa_nil))) (pg_tup (n := 2) rfl (pgs_cons (pg_slot (pv 0)) (pgs_cons (pg_slot (pv 0)) pgs_nil)))) (pss_cons (ps_setLc (i := 6) (own := [("part", 5)]) rfl sc_Net___init__.nd rfl rfl (sw_true rfl rfl rfl (by decide +kernel)) (pi_tup (SlX.pe_sl (pv 0))) (blkOk_by (N := N_Net___init__) (sc := L2.defScope s_Net___init__) (by decide +kernel)) (fun _ _ _ _ _ => (pg_name (i := 5) sc_Net___init__.nd rfl (Or.inl rfl))) (fun _ _ _ _ _ => pts_nil) (fun _ _ _ _ _ => (pe_def c_part_text (hr.mono (by decide)) (by rfl) (T.glo 21) (pa_cons (pv 5) pa_nil)))) (pss_one (SlX.ps_sl (pv 0) (pe_ifExp (pt_cmpR op_gt (pe_callB call_len_seq (by rfl) (T.free 68) PySem.boot_len (pa_cons (pv 6) pa_nil)) pe_int (nomark _)) (pe_join (pe_glob (v := .str "; ") (by rfl) T.s_BETWEEN.choose_spec ⟨_, rfl⟩) (pv 6)) (pe_glob (v := .str "-") (by rfl) T.s_NOTHING.choose_spec ⟨_, rfl⟩)))))))),
    (ss_seq (ss_asg (se_tup (sa_cons (se_call (sa_cons se_var sa_nil)) (sa_cons (se_tup sa_nil) (sa_cons (se_tup (sa_cons se_str sa_nil)) sa_nil)))) (sg_tup (sgs_cons (sg_slot T.scls T.sl_own_parts se_var) (sgs_cons sg_nm (sgs_cons sg_nm sgs_nil))))) (ss_seq (ss_for (si_enumT (sa_cons (se_slotM T.scls T.sl_own_parts se_var) sa_nil)) (sg_tup (sgs_cons sg_nm (sgs_cons sg_nm sgs_nil))) (ss_seq (ss_if (st_not (st_B (se_call (sa_cons se_var (sa_cons se_var (sa_cons se_var sa_nil)))))) ss_never ss_next) (ss_par (sa_cons (se_tup (sa_star se_var (sa_star (se_call (sa_cons se_var sa_nil)) sa_nil))) (sa_cons (se_tup (sa_star se_var (sa_star (se_call (sa_cons se_var sa_nil)) sa_nil))) sa_nil))))) (ss_seq (ss_asg (se_tup (sa_cons se_var (sa_cons se_var sa_nil))) (sg_tup (sgs_cons (sg_slot T.scls T.sl_own_taken se_var) (sgs_cons (sg_slot T.scls T.sl_own_made se_var) sgs_nil)))) (ss_seq (ss_asg (se_lc (si_tup (se_slotM T.scls T.sl_own_parts se_var)) sg_nm (wg_nm (by decide)) st_yes' (se_call (sa_cons se_var sa_nil))) sg_nm) (ss_slot T.scls T.sl_own_text se_var (se_if (st_T (se_op s2_B0 (se_cb sn_len (sa_cons se_var sa_nil)) se_int)) (se_join se_str se_var) se_str))))))⟩, fun xs M Qa h => ?body⟩)
  case len => obtain ⟨a, dx, ps, M0, rfl, _⟩ := h; rfl
  case body =>
    obtain ⟨a, dx, ps, M0, rfl, rfl, val, ok, hl, qq⟩ := h
    refine ⟨_, rfl, _, rfl, to_parts (n := 0) (by omega) (fun p hp => (ok p hp).1), _, rfl, (show 0 ≤ 1000000 by decide), _, rfl, (show 1 ≤ 1000000 by decide), _, rfl, (show 3 ≤ 1000000 by decide), ?_⟩
    refine ⟨_, rfl, rfl, _, _, rfl, _, rfl, a, dx, [], [], M0, rfl, rfl, _, _, rfl, _, _, rfl, rfl, ?_⟩
    refine ⟨_, rfl, a, dx, _, [], M0, _, rfl, rfl, rfl, _, rfl, fun rest ρ M' => ∃ (done todo : List Part) (k : Nat) (u v y : Option Va), ps = done ++ todo ∧ rest = enumD k (todo.map partD) ∧ ρ = [some (.m a), some (.d (partsD ps)), some (.d (.tuple (strsD (takenOf done)))), some (.d (.tuple (strsD (madeOf done)))), u, v, y] ∧
      M' = (a, .sl (He.ga K "Net") dx [none, some (.d (partsD ps))]) :: M0, ⟨[], ps, 0, none, none, none, rfl, rfl, rfl, rfl⟩, ?_, ?_⟩
    · rintro d r ρ M' ⟨done, todo, k, u, v, y, e1, e2, rfl, rfl⟩
      match todo, e2 with
      | p :: todo, e2 =>
        injection e2 with e3 e4
        subst e3
        have po := val done p todo e1
        have hp : p ∈ ps := by rw [e1]; simp
        have okd : ∀ q ∈ done, q.NmOk := fun q hq => (ok q (by rw [e1]; simp [hq])).1
        have okt : ∀ n ∈ takenOf done, StrOk n := fun n hn => by
          obtain ⟨q, hq, hn⟩ := List.mem_flatMap.mp hn
          exact ins_nm (okd q hq) n hn
        have okm : ∀ n ∈ madeOf done, StrOk n := fun n hn => by
          rcases List.mem_cons.mp hn with e | hn
          · rw [e]; decide +kernel
          · obtain ⟨q, hq, hn⟩ := List.mem_flatMap.mp hn
            exact outs_nm (okd q hq) n hn
        have ltk : ∀ l : List Part, (l.flatMap Part.ins).length ≤ 2 * l.length := fun l => by
          induction l with
          | nil => simp
          | cons x l ih =>
            rw [List.flatMap_cons, List.length_append, List.length_cons]
            have : x.ins.length ≤ 2 := by cases x <;> simp [Part.ins]
            omega
        have lmd : ∀ l : List Part, (l.flatMap Part.outs).length ≤ 2 * l.length := fun l => by
          induction l with
          | nil => simp
          | cons x l ih =>
            rw [List.flatMap_cons, List.length_append, List.length_cons]
            have : x.outs.length ≤ 2 := by cases x <;> simp [Part.outs]
            omega
        have dl : done.length ≤ 500 := by rw [e1, List.length_append] at hl; omega
        refine ⟨_, rfl, rfl, _, _, rfl, _, _, rfl, rfl, ?_⟩
        refine ⟨_, rfl, _, rfl, _, rfl, takenOf done, madeOf done, p, rfl, po, (ok p hp).1, okt, okm, _, rfl, ?_⟩
        refine iteB (fun z => nomatch z) (fun _ => ?_)
        refine ⟨_, rfl, _, .inr rfl, _, rfl, p, rfl, _, .inr rfl, _, star2 _ _, ?_, ?_⟩
        · unfold strsD
          rw [List.length_map, List.length_append]
          have h1 := ltk done
          have h2 := ins_le p
          unfold takenOf
          omega
        refine ⟨_, rfl, _, .inr rfl, _, rfl, p, rfl, _, .inr rfl, _, star2 _ _, ?_, _, _, rfl, ?_⟩
        · unfold strsD
          rw [List.length_map, List.length_append]
          have h1 := lmd done
          have h2 := outs_le p
          unfold madeOf
          rw [List.length_cons]
          omega
        refine ⟨done ++ [p], todo, k + 1, some (.d (.int (k : Int))), some (.d (partD p)), y, by rw [e1]; simp, e4, ?_, rfl⟩
        rw [taken_app, made_app, List.flatMap_cons, List.flatMap_cons, List.flatMap_nil, List.flatMap_nil, List.append_nil, List.append_nil]
        rfl
    · rintro ρ M' ⟨done, todo, k, u, v, y, e1, e2, rfl, rfl⟩
      match todo, e2 with
      | [], _ =>
        rw [List.append_nil] at e1
        subst e1
        refine ⟨_, rfl, _, rfl, _, rfl, (show 2 ≤ 1000000 by decide), _, rfl, rfl, _, _, rfl, _, rfl, a, dx, _, [], M0, rfl, rfl, _, _, rfl, _, rfl, a, dx, _, [], M0, rfl, rfl, rfl, ?_⟩
        refine ⟨_, rfl, a, dx, _, [], M0, _, rfl, rfl, rfl, _, rfl, ?_⟩
        refine ⟨by rw [List.length_map, List.length_map]; omega, fun D => ⟨fun rest acc M' => M' = (a, .sl (He.ga K "Net") dx [some (.d (.tuple (strsD (madeOf ps)))), some (.d (partsD ps)), some (.d (.tuple (strsD (takenOf ps))))]) :: M0 ∧ ∃ (dn td : List Part) (ts : List Str), ps = dn ++ td ∧ rest = (td.map partD).map .d ∧ acc = strsD ts ∧ ts.length = dn.length ∧ ∀ t ∈ ts, t.length ≤ 4000, ⟨rfl, [], ps, [], rfl, rfl, rfl, rfl, fun t z => nomatch z⟩, ?_, ?_⟩⟩
        · rintro d r acc M' ⟨rfl, dn, td, ts, f1, f2, rfl, f4, f5⟩
          match td, f2 with
          | p :: td, f2 =>
            injection f2 with f6 f7
            subst f6
            refine ⟨_, rfl, p, rfl, (ok p (by rw [f1]; simp)).2, fun t ht => ⟨_, _, rfl, Sub.refl _, rfl, dn ++ [p], td, ts ++ [t], by rw [f1]; simp, f7, ?_, ?_, ?_⟩⟩
            · unfold strsD
              rw [List.map_append]; rfl
            · rw [List.length_append, List.length_append, f4]; rfl
            · intro z hz
              rcases List.mem_append.mp hz with h | h
              · exact f5 z h
              · rw [List.mem_singleton.mp h]; exact ht
        · rintro acc M' ⟨rfl, dn, td, ts, f1, f2, rfl, f4, f5⟩
          have tl : ts.length ≤ 500 := by rw [f4]; rw [f1, List.length_append] at hl; omega
          have b2 : (Str.length "; ") = 2 := by decide
          refine ⟨_, rfl, .inl ⟨_, rfl, _, _, rfl, rfl, _, rfl, iteB (fun _ => ?_) (fun _ => ?_)⟩⟩
          · refine ⟨_, rfl, _, rfl, ts, .inl rfl, ?_, _, rfl, a, dx, _, [], M0, rfl, rfl, _, Sub.refl _, qq _⟩
            have h1 := sum_le f5
            have h2 : ts.length * 4000 ≤ 500 * 4000 := Nat.mul_le_mul_right _ tl
            rw [b2]
            omega
          · exact ⟨_, rfl, a, dx, _, [], M0, rfl, rfl, _, Sub.refl _, qq _⟩

end
end LN
namespace LN
open PySem PySem.Spec PyProof.Rows L2 SlX

/-! ### flows -/
abbrev Fl := List (Str × Rat)
def stepP (l : Fl) : Part → Fl
  | .weir a q t r => putP (putP l t (mn (gS l a) q)) r (gS l a - mn (gS l a) q)
  | .div a q t r => putP (putP l t (gS l a * q)) r (gS l a - gS l a * q)
  | .join a b t => putP l t (gS l a + gS l b)
def FStep (l : Fl) : Part → Prop
  | .weir a q _ _ => ∃ c, getP l a = some c ∧ Fit c ∧ Fit q
  | .div a q _ _ => ∃ c, getP l a = some c ∧ Fit c ∧ Fit q ∧ Fit (c * q) ∧ c * q ≤ c
  | .join a b _ => ∃ c d, getP l a = some c ∧ getP l b = some d ∧ Fit c ∧ Fit d
def FlowOk : Fl → List Part → Prop
  | _, [] => True
  | l, p :: ps => FStep l p ∧ FlowOk (stepP l p) ps
theorem gS_of {l : Fl} {k : Str} {c : Rat} (h : getP l k = some c) : gS l k = c := by
  unfold gS
  rw [h]; rfl
theorem dK_get {l : Fl} {k : Str} {c : Rat} (h : getP l k = some c) : getA (asK fr l) k = some (.d (fr c)) := by rw [asK_get, h]; rfl
theorem stepP_len (l : Fl) (p : Part) : (stepP l p).length ≤ l.length + 2 := by
  cases p with
  | weir a q t r => exact Nat.le_trans (putP_len _ _ _) (by have := putP_len l t (mn (gS l a) q); omega)
  | div a q t r => exact Nat.le_trans (putP_len _ _ _) (by have := putP_len l t (gS l a * q); omega)
  | join a b t => exact Nat.le_trans (putP_len _ _ _) (by omega)
theorem mn_le (a b : Rat) : mn a b ≤ a := by
  unfold mn
  split
  · exact Rat.le_refl
  · rename_i h; exact Rat.not_lt.mp h
theorem mn_fit {a b : Rat} (h : Fit a) (k : Fit b) : Fit (mn a b) := by unfold mn; split <;> assumption
def run0 (x : Rat) : Fl := [("in", x)]
def runM (ps : List Part) (x : Rat) : Fl := ps.foldl stepP (run0 x)
theorem wd_any {n : Str} (h : StrOk n) : ([PyData.str "weir", .str "divide"].any fun z => PyData.eqv z (.str n)) = decide (n ∈ (["weir", "divide"] : List Str)) := any_str (l := ["weir", "divide"]) h fun x hx => by
  simp only [List.mem_cons, List.not_mem_nil, or_false] at hx
  rcases hx with e | e <;> subst e <;> decide +kernel
theorem sh_wd : SeqAt.shaped (.tuple [.str "weir", .str "divide"]) = true := sh_strs (l := ["weir", "divide"]) fun x hx => by
  simp only [List.mem_cons, List.not_mem_nil, or_false] at hx
  rcases hx with e | e <;> subst e <;> decide +kernel

section
variable {P : Program} {w : World} {K : Frg} {mg : Str → Option Value} {base : Heap}

def R_runn (C : Addr) : AN := fun xs M Q => ∃ ps txt x, xs = [netV C ps txt, .d (fr x)] ∧ ps.length ≤ 500 ∧ FlowOk (run0 x) ps ∧ ∀ f, Q (.m f) ((f, .dK (asK fr (runM ps x))) :: M)
abbrev N_run : List Str := ["net", "inflow", "found", "part", "word", "come", "one"]
theorem sc_run : FnScope N_run ["net", "inflow"] (L2.defScope s_run) := ⟨rfl, rfl, rfl, by decide +kernel, rfl, by decide +kernel, by decide +kernel⟩
set_option maxHeartbeats 4000000 in
theorem kp_run (T : Tx K mg) (c_Net_parts : Kp P w K mg base 1 (He5.wf K (He.ga K "Net") "property" "parts") ["self"] (R_parts (He.ga K "Net"))) (c_lesser : Kp P w K mg base 2 (He.ga K "lesser") ["one", "other"] R_lesser) (c_times : Kp P w K mg base 3 (He.ga K "times") ["one", "other"] R_times) (c_minus : Kp P w K mg base 3 (He.ga K "minus") ["one", "other"] R_minus) (c_plus : Kp P w K mg base 3 (He.ga K "plus") ["one", "other"] R_plus) : Kp P w K mg base 4 (He.ga K "run") ["net", "inflow"] (R_runn (He.ga K "Net")) := by
  refine kp_n (k := 3) (T.def_ 42) sc_run (fun _ _ _ _ _ _ us hl => match us, hl with | [_, _], _ => rfl) (fun xs M Q h => ?len) (fun cdv A outer s H E hr => ⟨_, _, ⟨
    (pss_cons (ps_set (i := 2) sc_run.nd rfl (Or.inl rfl) (pe_disp (pps_one pe_str (pe_callTy call_tupleS (by rfl) (T.free 69) boot_tuple (pa_cons (pv 1) pa_nil))) rfl rfl (by simp) (by decide))) (pss_cons (ps_for PassesOwn.never rfl (pi_tup (pe_propD (pv 0) T.scls T.pr_parts c_Net_parts (hr.mono (by decide)))) (pg_name (i := 3) sc_run.nd rfl (Or.inl rfl)) (pss_cons (ps_par (i := 4) (j := 5) rfl sc_run.nd rfl rfl (by decide) rfl rfl (pa_cons (pe_ix ix_seq (pv 3) pe_int (fun _ _ => rfl)) (pa_cons (pe_dget (hu_of hr) (pv 2) (pe_ix ix_seq (pv 3) pe_int (fun _ _ => rfl)) (fun _ _ => rfl)) pa_nil)) rfl) (pss_one (ps_if (pt_cmpR (op_inDT (u65 hr)) (pv 4) (pe_tupS (pa_cons (pe_glob (v := .str "weir") (by rfl) T.s_WEIR_walks.choose_spec ⟨_, rfl⟩) (pa_cons (pe_glob (v := .str "divide") (by rfl) T.s_DIVIDE.choose_spec ⟨_, rfl⟩) pa_nil))) rfl) (pss_cons (ps_set (i := 6) sc_run.nd rfl (Or.inl rfl) (pe_ifExp (pt_cmpR (op_eqD hr.units) (pv 4) (pe_glob (v := .str "weir") (by rfl) T.s_WEIR_walks.choose_spec ⟨_, rfl⟩) (nomark _)) (pe_def c_lesser (hr.mono (by decide)) (by rfl) (T.glo 9) (pa_cons (pv 5) (pa_cons (pe_ix ix_seq (pv 3) pe_int (fun _ _ => rfl)) pa_nil))) (pe_def c_times (hr.mono (by decide)) (by rfl) (T.glo 6) (pa_cons (pv 5) (pa_cons (pe_ix ix_seq (pv 3) pe_int (fun _ _ => rfl)) pa_nil))))) (pss_one (ps_asg (pe_tupS (pa_cons (pv 6) (pa_cons (pe_def c_minus (hr.mono (by decide)) (by rfl) (T.glo 5) (pa_cons (pv 5) (pa_cons (pv 6) pa_nil))) pa_nil))) (pg_tup (n := 2) rfl (pgs_cons (pg_sub (pv 2) (pe_ix ix_seq (pv 3) pe_int (fun _ _ => rfl)) (L2.set_dict (hu_of hr))) (pgs_cons (pg_sub (pv 2) (pe_ix ix_seq (pv 3) pe_int (fun _ _ => rfl)) (L2.set_dict (hu_of hr))) pgs_nil)))))) (pss_one (ps_dput (hu_of hr) (pv 2) (pe_ix ix_seq (pv 3) pe_int (fun _ _ => rfl)) (pe_def c_plus (hr.mono (by decide)) (by rfl) (T.glo 4) (pa_cons (pv 5) (pa_cons (pe_dget (hu_of hr) (pv 2) (pe_ix ix_seq (pv 3) pe_int (fun _ _ => rfl)) (fun _ _ => rfl)) pa_nil))) rfl)))))) (pss_one (ps_ret (pv 2))))),
    (ss_seq (ss_asg (se_disp1 se_str (se_cb sn_tuple (sa_cons se_var sa_nil))) sg_nm) (ss_seq (ss_for (si_tup (se_prop se_var)) sg_nm (ss_seq (ss_par (sa_cons (se_op s2_ix se_var se_int) (sa_cons (se_dget se_var (se_op s2_ix se_var se_int)) sa_nil))) (ss_if (st_T (se_op s2_inT se_var (se_tup (sa_cons se_str (sa_cons se_str sa_nil))))) (ss_seq (ss_asg (se_if (st_T (se_op s2_eq se_var se_str)) (se_call (sa_cons se_var (sa_cons (se_op s2_ix se_var se_int) sa_nil))) (se_call (sa_cons se_var (sa_cons (se_op s2_ix se_var se_int) sa_nil)))) sg_nm) (ss_asg (se_tup (sa_cons se_var (sa_cons (se_call (sa_cons se_var (sa_cons se_var sa_nil))) sa_nil))) (sg_tup (sgs_cons (sg_dct se_var (se_op s2_ix se_var se_int)) (sgs_cons (sg_dct se_var (se_op s2_ix se_var se_int)) sgs_nil))))) (ss_dput se_var (se_op s2_ix se_var se_int) (se_call (sa_cons se_var (sa_cons (se_dget se_var (se_op s2_ix se_var se_int)) sa_nil))))))) (ss_ret se_var)))⟩, fun xs M Qa h => ?body⟩)
  case len => obtain ⟨ps, txt, x, rfl, _⟩ := h; rfl
  case body =>
    obtain ⟨ps, txt, x, rfl, hl, ok, qq⟩ := h
    refine fun f => ⟨_, rfl, _, rfl, .inr (.inl ⟨_, rfl, M, .refl _, ?_⟩)⟩
    refine ⟨_, rfl, _, rfl, ps, txt, rfl, _, rfl, fun rest ρ M' => ∃ (todo : List Part) (l : Fl) (u v w y : Option Va), rest = (todo.map partD).map .d ∧ ρ = [some (netV (He.ga K "Net") ps txt), some (.d (fr x)), some (.m f), u, v, w, y] ∧
      M' = (f, .dK (asK fr l)) :: M ∧ FlowOk l todo ∧ todo.foldl stepP l = runM ps x ∧ l.length + 2 * todo.length ≤ 1001, ⟨ps, run0 x, none, none, none, none, rfl, rfl, rfl, ok, rfl, by
        show 1 + 2 * ps.length ≤ 1001
        omega⟩, ?_, ?_⟩
    · rintro d r ρ M' ⟨todo, l, u, v, w, y, e1, rfl, rfl, ok, e2, hz⟩
      match todo, e1, ok, e2, hz with
      | p :: todo, e1, ok, e2, hz =>
        injection e1 with e3 e4
        subst e3
        have hz2 : l.length + 2 * (todo.length + 1) ≤ 1001 := hz
        have sl := stepP_len l p
        have e5 : todo.foldl stepP (stepP l p) = runM ps x := e2
        have kl : (asK fr l).length ≤ 1001 := by rw [asK_len]; omega
        obtain ⟨fs, ok2⟩ := ok
        match p, fs, sl, e5, ok2 with
        | .weir a q t r0, ⟨c, hc, fc, fq⟩, sl, e5, ok2 =>
          have gc := gS_of hc
          refine ⟨_, rfl, _, 0, _, .inl rfl, rfl, rfl, _, rfl, _, rfl, _, 1, _, .inl rfl, rfl, rfl, f, _, a, _, [], _, rfl, rfl, rfl, dK_get hc, _, _, rfl, ?_⟩
          refine ⟨_, rfl, _, rfl, (show 2 ≤ 1000000 by decide), _, _, rfl, rfl, sh_str (by decide +kernel), sh_wd, _, rfl, iteB (fun _ => ?_) (fun z => absurd ((wd_any (by decide +kernel)).symm.trans z) (by decide))⟩
          refine ⟨_, rfl, _, _, rfl, rfl, sh_str (by decide +kernel), sh_str (by decide +kernel), _, rfl, iteB (fun _ => ?_) (fun z => absurd z (by rw [id, eqv_strs]; decide))⟩
          refine ⟨_, rfl, _, rfl, _, 2, _, .inl rfl, rfl, rfl, c, q, rfl, fc, fq, ?_⟩
          refine ⟨_, rfl, _, rfl, _, rfl, c, mn c q, rfl, fc, mn_fit fc fq, mn_le c q, _, rfl, (show 2 ≤ 1000000 by decide), ?_⟩
          refine ⟨_, rfl, rfl, _, _, rfl, _, rfl, _, rfl, _, 3, _, .inl rfl, rfl, rfl, f, _, t, [], _, rfl, rfl, rfl, by omega, ?_⟩
          refine ⟨_, _, rfl, _, rfl, _, rfl, _, 4, _, .inl rfl, rfl, rfl, f, _, r0, [], _, rfl, rfl, rfl, ?_, rfl, ?_⟩
          · rw [show (Va.d (fr (if c < q then c else q))) = .d (fr (mn c q)) from rfl, asK_put, asK_len]
            have := putP_len l t (mn c q)
            omega
          refine ⟨todo, stepP l (.weir a q t r0), _, _, _, _, e4, rfl, ?_, ok2, e5, by omega⟩
          show _ = (f, MO.dK (asK fr (putP (putP l t (mn (gS l a) q)) r0 (gS l a - mn (gS l a) q)))) :: M
          rw [gc, ← asK_put, ← asK_put]
          rfl
        | .div a q t r0, ⟨c, hc, fc, fq, fcq, hle⟩, sl, e5, ok2 =>
          have gc := gS_of hc
          refine ⟨_, rfl, _, 0, _, .inl rfl, rfl, rfl, _, rfl, _, rfl, _, 1, _, .inl rfl, rfl, rfl, f, _, a, _, [], _, rfl, rfl, rfl, dK_get hc, _, _, rfl, ?_⟩
          refine ⟨_, rfl, _, rfl, (show 2 ≤ 1000000 by decide), _, _, rfl, rfl, sh_str (by decide +kernel), sh_wd, _, rfl, iteB (fun _ => ?_) (fun z => absurd ((wd_any (by decide +kernel)).symm.trans z) (by decide))⟩
          refine ⟨_, rfl, _, _, rfl, rfl, sh_str (by decide +kernel), sh_str (by decide +kernel), _, rfl, iteB (fun z => absurd z (by rw [id, eqv_strs]; decide)) (fun _ => ?_)⟩
          refine ⟨_, rfl, _, rfl, _, 2, _, .inl rfl, rfl, rfl, c, q, rfl, fc, fq, ?_⟩
          refine ⟨_, rfl, _, rfl, _, rfl, c, c * q, rfl, fc, fcq, hle, _, rfl, (show 2 ≤ 1000000 by decide), ?_⟩
          refine ⟨_, rfl, rfl, _, _, rfl, _, rfl, _, rfl, _, 3, _, .inl rfl, rfl, rfl, f, _, t, [], _, rfl, rfl, rfl, by omega, ?_⟩
          refine ⟨_, _, rfl, _, rfl, _, rfl, _, 4, _, .inl rfl, rfl, rfl, f, _, r0, [], _, rfl, rfl, rfl, ?_, rfl, ?_⟩
          · rw [asK_put, asK_len]
            have := putP_len l t (c * q)
            omega
          refine ⟨todo, stepP l (.div a q t r0), _, _, _, _, e4, rfl, ?_, ok2, e5, by omega⟩
          show _ = (f, MO.dK (asK fr (putP (putP l t (gS l a * q)) r0 (gS l a - gS l a * q)))) :: M
          rw [gc, ← asK_put, ← asK_put]
          rfl
        | .join a b t, ⟨c, d, hc, hd, fc, fd⟩, sl, e5, ok2 =>
          have gc := gS_of hc
          have gd := gS_of hd
          refine ⟨_, rfl, _, 0, _, .inl rfl, rfl, rfl, _, rfl, _, rfl, _, 1, _, .inl rfl, rfl, rfl, f, _, a, _, [], _, rfl, rfl, rfl, dK_get hc, _, _, rfl, ?_⟩
          refine ⟨_, rfl, _, rfl, (show 2 ≤ 1000000 by decide), _, _, rfl, rfl, sh_str (by decide +kernel), sh_wd, _, rfl, iteB (fun z => absurd ((wd_any (by decide +kernel)).symm.trans z) (by decide)) (fun _ => ?_)⟩
          refine ⟨_, rfl, _, rfl, _, rfl, _, 2, _, .inl rfl, rfl, rfl, f, _, b, _, [], _, rfl, rfl, rfl, dK_get hd, c, d, rfl, fc, fd, ?_⟩
          refine ⟨_, rfl, _, rfl, _, 3, _, .inl rfl, rfl, rfl, f, _, t, [], _, rfl, rfl, rfl, by omega, ?_⟩
          refine ⟨todo, stepP l (.join a b t), _, _, _, _, e4, rfl, ?_, ok2, e5, by omega⟩
          show _ = (f, MO.dK (asK fr (putP l t (gS l a + gS l b)))) :: M
          rw [gc, gd, ← asK_put]
          rfl
    · rintro ρ M' ⟨todo, l, u, v, w, y, e1, rfl, rfl, ok, e2, hz⟩
      match todo, e1, e2 with
      | [], _, e2 =>
        have e3 : l = runM ps x := e2
        subst e3
        exact ⟨_, rfl, _, Sub.refl _, qq f⟩

def flowM (ps : List Part) (x : Rat) : Fl := (outsOf ps).map fun o => (o, gS (runM ps x) o)
def R_floww (C : Addr) : AN := fun xs M Q => ∃ ps txt x, xs = [netV C ps txt, .d (fr x)] ∧ NetOk ps ∧ ps.length ≤ 500 ∧ FlowOk (run0 x) ps ∧ (∀ o ∈ outsOf ps, ∃ c, getP (runM ps x) o = some c) ∧ Q (.d (shsD (flowM ps x))) M
abbrev N_flow : List Str := ["net", "inflow", "found", "name"]
theorem sc_flow : FnScope N_flow ["net", "inflow"] (L2.defScope s_flow) := ⟨rfl, rfl, rfl, by decide +kernel, rfl, by decide +kernel, by decide +kernel⟩
set_option maxHeartbeats 4000000 in
theorem kp_flow (T : Tx K mg) (c_run : Kp P w K mg base 4 (He.ga K "run") ["net", "inflow"] (R_runn (He.ga K "Net"))) (c_Net_outlets : Kp P w K mg base 2 (He5.wf K (He.ga K "Net") "property" "outlets") ["self"] (R_outlets (He.ga K "Net"))) : Kp P w K mg base 5 (He.ga K "flow") ["net", "inflow"] (R_floww (He.ga K "Net")) := by
  refine kp_n (k := 4) (T.def_ 43) sc_flow (fun _ _ _ _ _ _ us hl => match us, hl with | [_, _], _ => rfl) (fun xs M Q h => ?len) (fun cdv A outer s H E hr => ⟨_, _, ⟨
    (pss_cons (ps_set (i := 2) sc_flow.nd rfl (Or.inr rfl) (pe_def c_run (hr.mono (by decide)) (by rfl) (T.glo 28) (pa_cons (pv 0) (pa_cons (pv 1) pa_nil)))) (pss_one (ps_ret (pe_callTy call_tupleS (by rfl) (T.free 69) boot_tuple (pa_cons (pe_lc (own := [("name", 3)]) rfl sc_flow.nd (pi_tup (pe_propD (pv 0) T.scls T.pr_outlets c_Net_outlets (hr.mono (by decide)))) (blkOk_by (N := N_flow) (sc := L2.defScope s_flow) (by decide +kernel)) (fun _ _ _ _ _ => (pg_name (i := 3) sc_flow.nd rfl (Or.inl rfl))) (fun _ _ _ _ _ => pts_nil) (fun _ _ _ _ _ => (pe_tupS (pa_cons (pv 3) (pa_cons (pe_dget (hu_of hr) (pv 2) (pv 3) (fun _ _ => rfl)) pa_nil))))) pa_nil))))),
    (ss_seq (ss_asg (se_call (sa_cons se_var (sa_cons se_var sa_nil))) sg_nm) (ss_ret (se_cb sn_tuple (sa_cons (se_lc (si_tup (se_prop se_var)) sg_nm (wg_nm (by decide)) st_yes' (se_tup (sa_cons se_var (sa_cons (se_dget se_var se_var) sa_nil)))) sa_nil))))⟩, fun xs M Qa h => ?body⟩)
  case len => obtain ⟨ps, txt, x, rfl, _⟩ := h; rfl
  case body =>
    obtain ⟨ps, txt, x, rfl, nk, hl, ok, has, qq⟩ := h
    refine ⟨_, rfl, _, rfl, ps, txt, x, rfl, hl, ok, fun f => ?_⟩
    refine ⟨_, rfl, _, rfl, ps, txt, rfl, nk, _, rfl, ?_⟩
    have e1 : (outsOf ps).map (fun n => Va.d (.str n)) = (strsD (outsOf ps)).map .d := by
      unfold strsD
      rw [List.map_map]; rfl
    have hol : (outsOf ps).length ≤ 1000000 := by
      unfold outsOf setS
      rw [(isortS_perm _).length_eq]
      have h1 := gather_len ((madeOf ps).filter fun n => decide (n ∉ takenOf ps)) []
      have h2 := nk.few
      simp only [List.length_nil] at h1
      omega
    rw [← e1]
    refine lcS (outsOf ps) (fun n => .d (.str n)) (fun n => .tuple [.str n, fr (gS (runM ps x) n)]) hol (fun n hn p Z hZ => ?_) ?_
    · obtain ⟨c, hc⟩ := has n hn
      rw [gS_of hc] at hZ
      exact ⟨_, rfl, _, rfl, _, rfl, f, _, n, _, [_], _, rfl, rfl, rfl, dK_get hc, _, rfl, (show 2 ≤ 1000000 by decide), _, _, rfl, Sub.refl _, rfl, hZ⟩
    · have e2 : PyData.list ((outsOf ps).map fun n => .tuple [.str n, fr (gS (runM ps x) n)]) = .list (itemsD ((flowM ps x).map fun p => (p.1, fr p.2))) := by
        unfold itemsD flowM
        rw [List.map_map, List.map_map]; rfl
      rw [e2]
      exact .inl ⟨_, rfl, _, ⟨[_], .refl _⟩, qq⟩

end
end LN
namespace LN
open PySem PySem.Spec PyProof.Rows L2 SlX

section
variable {K : Frg}
/-- a comprehension's list that will be changed -/
def LcM (γ : AG) (τ : AT) (ε : AE) (vs : List Nat) (ρ : AEnv) (Q : AQ) (items : List Va) (M1 : Sto) : Prop := items.length ≤ 1000000 ∧ ∀ D, ∃ Iv : List Va → List PyData → Sto → Prop, Iv items [] M1 ∧
  (∀ d r acc M, Iv (d :: r) acc M → γ d (wipeA ρ vs) ((D, .lst (acc.map .d)) :: M) fun ρ2 M2 => τ ρ2 M2 fun b M3 =>
    if b = true then ε ρ2 M3 fun y M4 => ∃ z M5, y = .d z ∧ Sub ((D, .lst (acc.map .d)) :: M5) M4 ∧ Iv r (acc ++ [z]) M5 else ∃ M5, Sub ((D, .lst (acc.map .d)) :: M5) M3 ∧ Iv r acc M5) ∧
  ∀ acc M, Iv [] acc M → Q (.m D) ((D, .lst (acc.map .d)) :: M)
def aLcM (ι : AI) (γ : AG) (τ : AT) (ε : AE) (vs : List Nat) : AE := fun ρ M Q => ι ρ M (LcM γ τ ε vs ρ Q)
theorem se_lcM {wi : TI} {g : TG} {tt : TT} {te : TE} {vs : List Nat} {ι : AI} {γ : AG} {τ : AT} {ε : AE} (hi : SI K wi ι) (hg : SG K g γ) (hw : WG g vs) (ht : ST K tt τ) (he : SE K te ε) : SE K (tLc wi g tt te vs) (aLcM ι γ τ ε vs) := by
  intro ρ M Qa σ F H Q ok qa k
  refine hi ρ M _ σ F H _ ok qa fun items M1 F1 H1 J ⟨hz, q1⟩ s1 ok1 wk D hD => ?_
  obtain ⟨Iv, i0, turn, fin⟩ := q1 D
  have okD : OkM K F1 (upd H1 D (.lst [])) ((D, .lst (([] : List PyData).map Va.d)) :: M1) := ok1.toOkM.made hD ⟨[], upd_same, .nil⟩
  refine ⟨fun i m H' => m = items.length - i ∧ i ≤ items.length ∧ ∃ acc M' F', acc.length ≤ i ∧ Same F1 F' ∧ OkM K F' H' ((D, .lst (acc.map .d)) :: M') ∧ Iv (items.drop i) acc M',
    ⟨items.length, by simp, Nat.zero_le _, [], M1, F1, Nat.le_refl _, Same.refl _, okD, i0⟩, ?_⟩
  rintro i m H' ⟨rfl, hle, acc, M', F', hac, s2, ok2, iv⟩
  by_cases hlt : i < items.length
  · refine .inr ⟨wk.goes H' i (s2.trans ok2.same) hlt, fun H2 => ∃ acc2 M2 F2, acc2.length ≤ i + 1 ∧ Same F1 F2 ∧ OkM K F2 H2 ((D, .lst (acc2.map .d)) :: M2) ∧ Iv (items.drop (i + 1)) acc2 M2, fun H2 z => ⟨items.length - (i + 1), by omega, rfl, hlt, z⟩, fun x H2 y => ?_⟩
    have hd := List.getElem?_eq_getElem hlt
    obtain ⟨F2, s3, ok3, dp⟩ := wk.ylds F' H' _ i x H2 _ s2 ok2 hd y
    rw [drop_cons hd] at iv
    have s12 : Same F1 F2 := s2.trans s3
    have okW : Ok K (wipeA ρ vs) ((D, .lst (acc.map .d)) :: M') (wipe σ vs) F2 H2 := ⟨ok3, wipe_pair (env_mono s12 ok1.env) vs⟩
    refine hw.mono _ _ _ _ _ (fun σ3 H3 ⟨e3, q3⟩ => ⟨e3.trans (wipe_wipe σ vs), q3⟩) (hw.keep _ _ _ _ ?_)
    refine hg items[i] (wipeA ρ vs) _ _ x (wipe σ vs) F2 H2 _ okW dp (turn _ _ acc M' iv) fun ρ3 M3 σ3 F3 H3 q3 s4 ok4 => ?_
    refine ht ρ3 M3 _ σ3 F3 H3 _ ok4 q3 fun b M4 F4 H4 q4 s5 ok5 => ?_
    cases b with
    | false =>
      obtain ⟨M5, sb, iv5⟩ := q4
      exact ⟨acc, M5, F4, by omega, (s12.trans s4).trans s5, ok5.toOkM.sub sb, iv5⟩
    | true =>
      refine he ρ3 M4 _ σ3 F4 H4 _ ok5 q4 fun y M6 v F6 H6 ⟨z, M5, ey, sb, iv5⟩ s6 ok6 r6 => ?_
      subst ey
      have ok7 := ok6.toOkM.sub sb
      obtain ⟨ws, g1, g2⟩ := ok7.at_ _ List.mem_cons_self
      have hl := pair_len g2
      rw [List.length_map] at hl
      refine ⟨ws, g1, by rw [hl]; exact size_lt (by omega), acc ++ [z], M5, F6, by rw [List.length_append, List.length_singleton]; omega, ((s12.trans s4).trans s5).trans s6, ?_, iv5⟩
      refine OkM.write (l1 := []) ok7 ⟨_, upd_same, ?_⟩
      rw [List.map_append]
      exact paired_app g2 (.cons r6 .nil)
  · have e : i = items.length := by omega
    subst e
    rw [List.drop_length] at iv
    exact .inl ⟨wk.stops H' (s2.trans ok2.same), k _ _ _ F' H' (fin acc M' iv) (s1.trans s2) ⟨ok2, env_mono s2 ok1.env⟩ rfl⟩
end
def letters : List Str := (Str.ofString "abcdefghijklmnopqrstuvwxyz").cps.toList.map fun c => ⟨#[c]⟩
def allNames : List Str := letters.flatMap fun a => letters.map fun b => a ++ b
def freeOf (tk : List Str) : List Str := allNames.filter fun n => decide (n ∉ tk) && decide (n ≠ "in")
theorem chars_letters : charsD (Str.ofString "abcdefghijklmnopqrstuvwxyz") = strsD letters := by
  unfold charsD strsD letters
  rw [List.map_map]; rfl
theorem flat_le {α β : Type} {g : α → List β} {l a b : List α} (e : l = a ++ b) : (a.flatMap g).length ≤ (l.flatMap g).length := by
  rw [e, List.flatMap_append, List.length_append]
  omega
theorem letters_len : letters.length = 26 := by decide +kernel
theorem names_ok : ∀ n ∈ allNames, StrOk n := by
  have h : (allNames.all fun n => PyData.strOk n) = true := by decide +kernel
  exact fun n hn => List.all_eq_true.mp h n hn
theorem letter_one : ∀ n ∈ letters, n.length = 1 := by
  have h : (letters.all fun n => n.length == 1) = true := by decide +kernel
  exact fun n hn => by simpa using List.all_eq_true.mp h n hn
theorem all_len : allNames.length = 676 := by decide +kernel

section
variable {P : Program} {w : World} {K : Frg} {mg : Str → Option Value} {base : Heap}

def R_fresh_names : AN := fun xs M Q => ∃ tk : List Str, xs = [.d (.tuple (strsD tk))] ∧ (∀ n ∈ tk, StrOk n) ∧ ∀ p, Q (.m p) ((p, .lst (txV (freeOf tk))) :: M)
abbrev N_fresh_names : List Str := ["taken", "names", "one", "other", "name"]
theorem sc_fresh_names : FnScope N_fresh_names ["taken"] (L2.defScope s_fresh_names) := ⟨rfl, rfl, rfl, by decide +kernel, rfl, by decide +kernel, by decide +kernel⟩
set_option maxHeartbeats 4000000 in
theorem kp_fresh_names (T : Tx K mg) : Kp P w K mg base 1 (He.ga K "fresh_names") ["taken"] R_fresh_names := by
  refine kp_n (k := 0) (T.def_ 34) sc_fresh_names (fun _ _ _ _ _ _ us hl => match us, hl with | [_], _ => rfl) (fun xs M Q h => ?len) (fun cdv A outer s H E hr => ⟨_, _, ⟨
    (pss_cons (ps_setLc2 (i := 1) (own := [("one", 2), ("other", 3)]) (vs1 := [3]) rfl sc_fresh_names.nd rfl rfl (sw_true rfl rfl rfl (by decide +kernel)) (pi_str (pe_glob (v := .str "abcdefghijklmnopqrstuvwxyz") (by rfl) T.s_LETTERS.choose_spec ⟨_, rfl⟩)) (blkOk_by (N := N_fresh_names) (sc := L2.defScope s_fresh_names) (by decide +kernel)) (by decide) (fun _ _ _ _ _ => (pg_name (i := 2) sc_fresh_names.nd rfl (Or.inl rfl))) (fun _ _ _ _ _ => pts_nil) (fun _ _ _ _ _ => (pi_str (pe_glob (v := .str "abcdefghijklmnopqrstuvwxyz") (by rfl) T.s_LETTERS.choose_spec ⟨_, rfl⟩))) (fun _ _ _ _ _ => (pg_name (i := 3) sc_fresh_names.nd rfl (Or.inl rfl))) (fun _ _ _ _ _ => pts_nil) (fun _ _ _ _ _ => (pe_op op_add_str (pv 2) (pv 3)))) (pss_one (ps_ret (pe_lc (own := [("name", 4)]) rfl sc_fresh_names.nd (pi_list (pv 1)) (blkOk_by (N := N_fresh_names) (sc := L2.defScope s_fresh_names) (by decide +kernel)) (fun _ _ _ _ _ => (pg_name (i := 4) sc_fresh_names.nd rfl (Or.inl rfl))) (fun _ _ _ _ _ => pts_one (PW.pt (pw_and (pt_cmpR (op_notInDT (u65 hr)) (pv 4) (pv 0) rfl) (pw_and1 (pt_cmpR (op_neD hr.units) (pv 4) (pe_glob (v := .str "in") (by rfl) T.s_SOURCE_builds.choose_spec ⟨_, rfl⟩) (nomark _)))))) (fun _ _ _ _ _ => (pv 4)))))),
    (ss_seq (ss_asg (se_lc2 (si_str se_str) sg_nm (wg_nm (by decide)) st_yes' (si_str se_str) sg_nm (wg_nm (by decide)) (se_op s2_addS se_var se_var)) sg_nm) (ss_ret (se_lcM (si_lst se_var) sg_nm (wg_nm (by decide)) (st_and (st_T (se_op s2_inT se_var se_var)) (st_T (se_op s2_ne se_var se_str))) se_var)))⟩, fun xs M Qa h => ?body⟩)
  case len => obtain ⟨tk, rfl, _⟩ := h; rfl
  case body =>
    obtain ⟨tk, rfl, ok, qq⟩ := h
    have hlet : ∀ l : List Str, (strsD l).map Va.d = l.map (fun n => Va.d (.str n)) := fun l => by
      unfold strsD
      rw [List.map_map]; rfl
    refine ⟨_, rfl, ?_⟩
    rw [chars_letters, hlet]
    refine ⟨by rw [List.length_map, letters_len]; decide, fun D => ⟨fun rest acc M' => M' = M ∧ ∃ dn td, letters = dn ++ td ∧ rest = td.map (fun n => Va.d (.str n)) ∧ acc = strsD (dn.flatMap fun a => letters.map fun b => a ++ b), ⟨rfl, [], letters, rfl, rfl, rfl⟩, ?_, ?_⟩⟩
    · rintro d r acc M' ⟨rfl, dn, td, e1, e2, rfl⟩
      match td, e2 with
      | a :: td, e2 =>
        injection e2 with e3 e4
        subst e3
        have ha : a ∈ letters := by rw [e1]; simp
        refine ⟨?_, ?_⟩
        · have : (dn.flatMap fun a => letters.map fun b => a ++ b).length ≤ 676 := by
            rw [← all_len]
            exact flat_le e1
          unfold strsD
          rw [List.length_map]
          omega
        refine ⟨_, rfl, ?_⟩
        rw [chars_letters, hlet]
        refine ⟨by rw [List.length_map]; unfold strsD; rw [List.length_map, letters_len]; decide, fun rest1 acc1 M1 => M1 = M' ∧ ∃ dn1 td1, letters = dn1 ++ td1 ∧ rest1 = td1.map (fun n => Va.d (.str n)) ∧ acc1 = strsD ((dn.flatMap fun a => letters.map fun b => a ++ b) ++ dn1.map fun b => a ++ b), ⟨_, Sub.refl _, rfl, [], letters, rfl, rfl, by rw [List.map_nil, List.append_nil]⟩, ?_, ?_⟩
        · rintro d1 r1 acc1 M1 ⟨rfl, dn1, td1, f1, f2, rfl⟩
          match td1, f2 with
          | b :: td1, f2 =>
            injection f2 with f3 f4
            subst f3
            have hb : b ∈ letters := by rw [f1]; simp
            have l1 := letter_one a ha
            have l2 := letter_one b hb
            refine ⟨_, rfl, _, rfl, a, b, rfl, rfl, by omega, _, _, rfl, Sub.refl _, rfl, dn1 ++ [b], td1, by rw [f1]; simp, f4, ?_⟩
            unfold strsD
            simp
        · rintro acc1 M1 ⟨rfl, dn1, td1, f1, f2, rfl⟩
          match td1, f2 with
          | [], _ =>
            rw [List.append_nil] at f1
            subst f1
            refine ⟨rfl, dn ++ [a], td, by rw [e1]; simp, e4, ?_⟩
            rw [List.flatMap_append, List.flatMap_cons, List.flatMap_nil, List.append_nil]
    · rintro acc M' ⟨rfl, dn, td, e1, e2, rfl⟩
      match td, e2 with
      | [], _ =>
        rw [List.append_nil] at e1
        subst e1
        refine ⟨_, rfl, _, rfl, ?_⟩
        show LcM _ _ _ _ _ _ ((strsD allNames).map Va.d) _
        rw [hlet]
        refine ⟨by rw [List.length_map, all_len]; decide, fun D2 => ⟨fun rest acc M1 => M1 = M' ∧ ∃ dn td, allNames = dn ++ td ∧ rest = td.map (fun n => Va.d (.str n)) ∧ acc = strsD (dn.filter fun n => decide (n ∉ tk) && decide (n ≠ "in")), ⟨rfl, [], allNames, rfl, rfl, rfl⟩, ?_, ?_⟩⟩
        · rintro d r acc M1 ⟨rfl, dn, td, f1, f2, rfl⟩
          match td, f2 with
          | n :: td, f2 =>
            injection f2 with f3 f4
            subst f3
            have on := names_ok n (by rw [f1]; simp)
            refine ⟨_, rfl, _, rfl, _, _, rfl, rfl, sh_str on, sh_strs ok, _, rfl, iteB (fun c => ?_) (fun c => iteB (fun z => nomatch z) (fun _ => ?_))⟩
            · rw [any_str on ok] at c
              have c1 : n ∉ tk := by simpa using c
              refine ⟨_, rfl, _, _, rfl, rfl, sh_str on, sh_str (by decide +kernel), _, rfl, iteB (fun c2 => ?_) (fun c2 => ?_)⟩
              · rw [eqv_strs] at c2
                have c3 : n ≠ "in" := by simpa using c2
                refine ⟨_, rfl, _, _, rfl, Sub.refl _, rfl, dn ++ [n], td, by rw [f1]; simp, f4, ?_⟩
                rw [List.filter_append]
                unfold strsD
                simp [c1, c3]
              · rw [eqv_strs] at c2
                have c3 : n = "in" := by simpa using c2
                refine ⟨_, Sub.refl _, rfl, dn ++ [n], td, by rw [f1]; simp, f4, ?_⟩
                rw [List.filter_append]
                simp [c3]
            · rw [any_str on ok] at c
              have c1 : n ∈ tk := by simpa using c
              refine ⟨_, Sub.refl _, rfl, dn ++ [n], td, by rw [f1]; simp, f4, ?_⟩
              rw [List.filter_append]
              simp [c1]
        · rintro acc M1 ⟨rfl, dn, td, f1, f2, rfl⟩
          match td, f2 with
          | [], _ =>
            rw [List.append_nil] at f1
            exact ⟨_, Sub.refl _, by
              have := qq D2
              unfold freeOf at this
              rw [f1] at this
              exact this⟩

end
end LN
namespace LN
open PySem PySem.Spec PyProof.Rows L2 SlX

/-! ### the builder -/
structure Bs where
  free : List Str
  made : List Part
  pcs : List (Str × List Str)
abbrev bIns (C a : Addr) (outs : List Str) (fl ml pd : Addr) : Addr × MO := (a, .ins C [("own_outlets", .d (.tuple (strsD outs))), ("own_free", .m fl), ("own_made", .m ml), ("pieces", .m pd)])
abbrev bI1 (C a : Addr) (outs : List Str) (fl ml : Addr) : Addr × MO := (a, .ins C [("own_outlets", .d (.tuple (strsD outs))), ("own_free", .m fl), ("own_made", .m ml)])
def dn_ad (ad : Str → Addr) (dn : List Str) : Sto := dn.reverse.map fun o => (ad o, .lst [])
theorem putD_new {l : List (Str × Va)} {k : Str} {v : Va} (h : k ∉ l.map (·.1)) : putD l k v = l ++ [(k, v)] := by
  unfold putD
  rw [if_neg]
  intro z
  obtain ⟨x, hx, e⟩ := List.any_eq_true.mp z
  exact h (List.mem_map.mpr ⟨x, hx, of_decide_eq_true e⟩)
theorem bini_perm {A B M0 : Sto} {d q p i : Addr × MO} (h : A.Perm B) : (A ++ [d, q, p] ++ i :: M0).Perm (i :: p :: q :: d :: (B ++ M0)) := by
  rw [List.append_assoc]
  refine List.perm_append_comm.trans ?_
  show ((d :: q :: p :: ([] ++ i :: M0)) ++ A).Perm _
  have h1 : (d :: q :: p :: ([] ++ i :: M0)).Perm (i :: p :: q :: d :: M0) := by
    refine (List.reverse_perm [d, q, p, i]).symm.append_right M0 |>.trans ?_
    exact .refl _
  refine (h1.append_right A).trans ?_
  show (i :: p :: q :: d :: (M0 ++ A)).Perm _
  exact .cons _ (.cons _ (.cons _ (.cons _ (List.perm_append_comm.trans (h.append_right M0)))))
theorem dk_self_aux (ad : Str → Addr) : ∀ (l : List Str) (o : Str), o ∈ l → getA (l.map fun o => (o, Va.m (ad o))) o = some (.m (ad o))
  | [], _, h => by simp at h
  | x :: l, o, h => by
    unfold getA
    rw [List.map_cons, List.find?_cons]
    by_cases e : x = o
    · subst e; simp
    · simp only [decide_eq_false e]
      have h2 : o ∈ l := by
        rcases List.mem_cons.mp h with z | z
        · exact absurd z.symm e
        · exact z
      exact dk_self_aux ad l o h2
def mdV (ps : List Part) : List Va := ps.map fun p => .d (partD p)
def pcM (ad : Str → Addr) (pcs : List (Str × List Str)) : Sto := pcs.map fun p => (ad p.1, .lst (txV p.2))
/-- where a builder's objects stand -/
structure Bw where
  a : Addr
  fl : Addr
  ml : Addr
  pd : Addr
  outs : List Str
  ad : Str → Addr
  dk : List (Str × Va)
abbrev bM (C : Addr) (w : Bw) (b : Bs) (M0 : Sto) : Sto := bIns C w.a w.outs w.fl w.ml w.pd :: (w.fl, .lst (txV b.free)) :: (w.ml, .lst (mdV b.made)) :: (w.pd, .dK w.dk) :: (pcM w.ad b.pcs ++ M0)
def DkOk (w : Bw) (pcs : List (Str × List Str)) : Prop := ∀ p ∈ pcs, getA w.dk p.1 = some (.m (w.ad p.1))
def addP (o n : Str) : List (Str × List Str) → List (Str × List Str)
  | [] => []
  | (k, c) :: r => if k = o then (k, c ++ [n]) :: r else (k, c) :: addP o n r
theorem addP_split {o : Str} : ∀ {l : List (Str × List Str)}, o ∈ l.map (·.1) → ∃ p1 c p2, l = p1 ++ (o, c) :: p2 ∧ ∀ n, addP o n l = p1 ++ (o, c ++ [n]) :: p2
  | [], h => by simp at h
  | (k, c) :: r, h => by
    by_cases e : k = o
    · subst e
      exact ⟨[], c, r, rfl, fun n => by unfold addP; rw [if_pos rfl]; rfl⟩
    · have h2 : o ∈ r.map (·.1) := by
        rcases List.mem_cons.mp h with z | z
        · exact absurd z.symm e
        · exact z
      obtain ⟨p1, c2, p2, e1, e2⟩ := addP_split h2
      exact ⟨(k, c) :: p1, c2, p2, by rw [e1]; rfl, fun n => by unfold addP; rw [if_neg e, e2 n]; rfl⟩
theorem addP_keys (o n : Str) : ∀ l : List (Str × List Str), (addP o n l).map (·.1) = l.map (·.1)
  | [] => rfl
  | (k, c) :: r => by
    unfold addP
    split
    · rfl
    · rw [List.map_cons, List.map_cons, addP_keys o n r]
theorem dk_self {a p q D : Addr} (ad : Str → Addr) (outs : List Str) : DkOk ⟨a, p, q, D, outs, ad, outs.map fun o => (o, Va.m (ad o))⟩ (outs.map fun o => (o, [])) := fun x hx => by
  obtain ⟨o, ho, rfl⟩ := List.mem_map.mp hx
  exact dk_self_aux ad outs o ho
theorem dk_keys {w : Bw} {p q : List (Str × List Str)} (h : DkOk w p) (e : q.map (·.1) = p.map (·.1)) : DkOk w q := fun x hx => by
  have : x.1 ∈ p.map (·.1) := by rw [← e]; exact List.mem_map.mpr ⟨x, hx, rfl⟩
  obtain ⟨y, hy, ey⟩ := List.mem_map.mp this
  rw [← ey]; exact h y hy
theorem txV_app (l : List Str) (n : Str) : txV (l ++ [n]) = txV l ++ [.d (.str n)] := by
  unfold txV strsD
  rw [List.map_append, List.map_append]; rfl
theorem mdV_app (l : List Part) (p : Part) : mdV (l ++ [p]) = mdV l ++ [.d (partD p)] := by
  unfold mdV
  rw [List.map_append]; rfl
def Bs.n1 (b : Bs) : Str := b.free.headD ""
def Bs.n2 (b : Bs) : Str := (b.free.drop 1).headD ""
def Bs.two (b : Bs) (p : Part) : Bs := ⟨b.free.drop 2, b.made ++ [p], b.pcs⟩
/-- small enough to be handled -/
def BsOk (b : Bs) : Prop := b.made.length ≤ 1000 ∧ ∀ p ∈ b.pcs, p.2.length ≤ 1000

section
variable {P : Program} {w : World} {K : Frg} {mg : Str → Option Value} {base : Heap}

def R_bini (C : Addr) : AN := fun xs M Q => ∃ (a : Addr) (T : Tab) (M0 : Sto), xs = [.m a, .d (tabD T)] ∧ M = (a, .ins C []) :: M0 ∧ T.length ≤ 1000 ∧ (∀ r ∈ T, r.2.length ≤ 1000) ∧ (namesOf T).length < 64 ∧ T.Ok ∧
  ∀ w : Bw, w.a = a → w.outs = outsT T → DkOk w ((outsT T).map fun o => (o, [])) → Q (.d .none) (bM C w ⟨freeOf (outsT T), [], (outsT T).map fun o => (o, [])⟩ M0)
abbrev N_Builder___init__ : List Str := ["self", "table", "outlet"]
theorem sc_Builder___init__ : FnScope N_Builder___init__ ["self", "table"] (L2.defScope s_Builder___init__) := ⟨rfl, rfl, rfl, by decide +kernel, rfl, by decide +kernel, by decide +kernel⟩
set_option maxHeartbeats 4000000 in
theorem kp_Builder___init__ (T : Tx K mg) (c_outlets_of : Kp P w K mg base 2 (He.ga K "outlets_of") ["table"] R_outlets_of) (c_fresh_names : Kp P w K mg base 1 (He.ga K "fresh_names") ["taken"] R_fresh_names) : Kp P w K mg base 3 (He.ma K (He.ga K "Builder") "__init__") ["self", "table"] (R_bini (He.ga K "Builder")) := by
  refine kp_n (k := 2) (T.def_ 35) sc_Builder___init__ (fun _ _ _ _ _ _ us hl => match us, hl with | [_, _], _ => rfl) (fun xs M Q h => ?len) (fun cdv A outer s H E hr => ⟨_, _, ⟨
    (pss_cons (ps_fld (pv 0) (pe_def c_outlets_of (hr.mono (by decide)) (by rfl) (T.glo 16) (pa_cons (pv 1) pa_nil)) rfl) (pss_cons (ps_fld (pv 0) (pe_def c_fresh_names (hr.mono (by decide)) (by rfl) (T.glo 25) (pa_cons (pe_fld (pv 0) rfl) pa_nil)) rfl) (pss_cons (ps_fld (pv 0) (pe_lst pa_nil) rfl) (pss_one (ps_fld (pv 0) (pe_dc (own := [("outlet", 2)]) rfl sc_Builder___init__.nd (pi_tup (pe_fld (pv 0) rfl)) (blkOk_by (N := N_Builder___init__) (sc := L2.defScope s_Builder___init__) (by decide +kernel)) (fun _ _ _ _ _ => (pg_name (i := 2) sc_Builder___init__.nd rfl (Or.inl rfl))) (fun _ _ _ _ _ => pts_nil) (fun _ _ _ _ _ => (pv 2)) (fun _ _ _ _ _ => (pe_lst pa_nil))) rfl))))),
    (ss_seq (ss_fld T.cls_Builder T.no_Builder_own_outlets se_var (se_call (sa_cons se_var sa_nil))) (ss_seq (ss_fld T.cls_Builder T.no_Builder_own_free se_var (se_call (sa_cons (se_fld T.cls_Builder T.no_Builder_own_outlets se_var) sa_nil))) (ss_seq (ss_fld T.cls_Builder T.no_Builder_own_made se_var (se_lstM sa_nil)) (ss_fld T.cls_Builder T.no_Builder_pieces se_var (se_dc (si_tup (se_fld T.cls_Builder T.no_Builder_own_outlets se_var)) sg_nm (wg_nm (by decide)) se_var (se_lstM sa_nil))))))⟩, fun xs M Qa h => ?body⟩)
  case len => obtain ⟨a, T, M0, rfl, _⟩ := h; rfl
  case body =>
    obtain ⟨a, T, M0, rfl, rfl, h1, h2, h3, h4, qq⟩ := h
    have ok : ∀ n ∈ outsT T, StrOk n := fun n hn => by
      unfold outsT at hn
      rw [setS_mem] at hn
      obtain ⟨r, hr, hn⟩ := List.mem_flatMap.mp hn
      obtain ⟨p, hp, rfl⟩ := List.mem_map.mp hn
      exact h4 r hr p hp
    have nd : (outsT T).Nodup := setS_nodup _
    refine ⟨_, rfl, T, rfl, h1, h2, h3, ?_⟩
    refine ⟨_, rfl, a, [], [], M0, rfl, rfl, (show 0 < 1000 by decide), ?_⟩
    refine ⟨_, rfl, a, _, [], M0, _, rfl, rfl, rfl, outsT T, rfl, ok, fun p => ?_⟩
    have hol : (outsT T).length ≤ 64 := by
      unfold outsT setS
      rw [(isortS_perm _).length_eq]
      have h1 := gather_len (namesOf T) []
      simp only [List.length_nil] at h1
      omega
    generalize outsT T = outs at qq ok nd hol
    refine ⟨_, rfl, a, _, [(p, .lst (txV (freeOf outs)))], M0, rfl, rfl, (show 1 < 1000 by decide), ?_⟩
    refine ⟨(show 0 ≤ 1000000 by decide), fun q => ?_⟩
    refine ⟨_, rfl, a, _, [(q, .lst []), (p, .lst (txV (freeOf outs)))], M0, rfl, rfl, (show 2 < 1000 by decide), ?_⟩
    refine ⟨_, rfl, a, _, [(q, .lst []), (p, .lst (txV (freeOf outs)))], M0, _, rfl, rfl, rfl, _, rfl, fun D => ?_⟩
    have e1 : (strsD outs).map Va.d = outs.map (fun n => Va.d (.str n)) := by
      unfold strsD
      rw [List.map_map]; rfl
    rw [e1]
    refine ⟨fun rest M' => ∃ (dn td : List Str) (ad : Str → Addr), outs = dn ++ td ∧ rest = td.map (fun n => Va.d (.str n)) ∧ M' = dn.reverse.map (fun o => (ad o, MO.lst [])) ++ (D, .dK (dn.map fun o => (o, Va.m (ad o)))) :: (q, .lst []) :: (p, .lst (txV (freeOf outs))) :: bI1 (He.ga K "Builder") a outs p q :: M0, ⟨[], outs, fun _ => a, rfl, rfl, rfl⟩, ?_, ?_⟩
    · rintro d r M' ⟨dn, td, ad, e1, e2, rfl⟩
      match td, e2 with
      | o :: td, e2 =>
        injection e2 with e3 e4
        subst e3
        have hn : o ∉ dn := by
          rw [e1] at nd
          exact fun z => (List.nodup_append.mp nd).2.2 o z o List.mem_cons_self rfl
        have hdl : dn.length ≤ 100 := by rw [e1, List.length_append] at hol; omega
        refine ⟨_, rfl, (show 0 ≤ 1000000 by decide), fun x => ⟨o, _, (x, .lst []) :: dn.reverse.map (fun o => (ad o, MO.lst [])), _, rfl, rfl, by rw [List.length_map]; omega, dn ++ [o], td, fun y => if y = o then x else ad y, by rw [e1]; simp, e4, ?_⟩⟩
        have k1 : ∀ y ∈ dn, (if y = o then x else ad y) = ad y := fun y hy => if_neg (fun z => hn (by rw [← z]; exact hy))
        rw [List.reverse_append, List.map_append, List.map_append, putD_new (by simpa using hn)]
        have m1 : dn.reverse.map (fun y => ((if y = o then x else ad y), MO.lst [])) = dn.reverse.map (fun y => (ad y, MO.lst [])) := List.map_congr_left fun y hy => by rw [k1 y (List.mem_reverse.mp hy)]
        have m2 : dn.map (fun y => (y, Va.m (if y = o then x else ad y))) = dn.map (fun y => (y, Va.m (ad y))) := List.map_congr_left fun y hy => by rw [k1 y hy]
        rw [m1, m2]
        simp
    · rintro M' ⟨dn, td, ad, e1, e2, rfl⟩
      have : td = [] := List.map_eq_nil_iff.mp e2.symm
      subst this
      rw [List.append_nil] at e1
      subst e1
      refine ⟨_, rfl, a, [("own_outlets", .d (.tuple (strsD outs))), ("own_free", .m p), ("own_made", .m q)], dn_ad ad outs ++ [(D, .dK (outs.map fun o => (o, Va.m (ad o)))), (q, .lst []), (p, .lst (txV (freeOf outs)))], M0, rfl, by simp [dn_ad], (show 3 < 1000 by decide), ?_⟩
      refine ⟨_, ?_, qq ⟨a, p, q, D, outs, ad, outs.map fun o => (o, Va.m (ad o))⟩ rfl rfl ?_⟩
      · refine ⟨[], ?_⟩
        have m1 : pcM ad (outs.map fun o => (o, ([] : List Str))) = outs.map fun o => (ad o, MO.lst []) := by
          unfold pcM
          rw [List.map_map]; rfl
        have m2 : (dn_ad ad outs).Perm (pcM ad (outs.map fun o => (o, ([] : List Str)))) := by
          rw [m1]
          exact (List.reverse_perm outs).map _
        exact bini_perm m2
      · exact dk_self ad outs

end
end LN
namespace LN
open PySem PySem.Spec PyProof.Rows L2 SlX

abbrev bMr (C : Addr) (w : Bw) (f m : List Va) (pc : List (Str × List Str)) (M0 : Sto) : Sto := bIns C w.a w.outs w.fl w.ml w.pd :: (w.fl, .lst f) :: (w.ml, .lst m) :: (w.pd, .dK w.dk) :: (pcM w.ad pc ++ M0)
theorem bM_piece {w : Bw} {pc : List (Str × List Str)} {o : Str} (C : Addr) (f m : List Va) (M0 : Sto) (h : o ∈ pc.map (·.1)) : ∃ c l1 l2, (o, c) ∈ pc ∧ bMr C w f m pc M0 = l1 ++ (w.ad o, .lst (txV c)) :: l2 ∧ ∀ n, l1 ++ (w.ad o, .lst (txV c ++ [.d (.str n)])) :: l2 = bMr C w f m (addP o n pc) M0 := by
  obtain ⟨p1, c, p2, e1, e2⟩ := addP_split h
  refine ⟨c, [bIns C w.a w.outs w.fl w.ml w.pd, (w.fl, .lst f), (w.ml, .lst m), (w.pd, .dK w.dk)] ++ pcM w.ad p1, pcM w.ad p2 ++ M0, by rw [e1]; simp, ?_, fun n => ?_⟩
  · unfold bMr
    rw [e1]
    unfold pcM
    simp
  · unfold bMr
    rw [e2, ← txV_app]
    unfold pcM
    simp
theorem txV_len (l : List Str) : (txV l).length = l.length := by
  unfold txV strsD
  rw [List.length_map, List.length_map]
theorem dk_at {w : Bw} {pc : List (Str × List Str)} (h : DkOk w pc) {o : Str} (ho : o ∈ pc.map (·.1)) : getA w.dk o = some (.m (w.ad o)) := by
  obtain ⟨y, hy, ey⟩ := List.mem_map.mp ho
  rw [← ey]; exact h y hy
def PgOk : Rat → Shs → Prop
  | _, [] => False
  | _, [_] => True
  | left, p :: q :: r => Fit p.2 ∧ Fit left ∧ 0 < left ∧ p.2 ≤ left ∧ PgOk (left - p.2) (q :: r)
def partGo : Bs → Str → Rat → Shs → Bs
  | b, _, _, [] => b
  | b, ch, _, [p] => ⟨b.free, b.made, addP p.1 ch b.pcs⟩
  | b, ch, left, p :: q :: r => partGo ⟨b.free.drop 2, b.made ++ [.div ch (p.2 / left) b.n1 b.n2], addP p.1 b.n1 b.pcs⟩ b.n2 (left - p.2) (q :: r)
def BsLe (b : Bs) (k : Nat) : Prop := b.made.length ≤ k ∧ ∀ p ∈ b.pcs, p.2.length ≤ k
theorem addP_le {o n : Str} {k : Nat} : ∀ {l : List (Str × List Str)}, (∀ p ∈ l, p.2.length ≤ k) → ∀ p ∈ addP o n l, p.2.length ≤ k + 1
  | [], _, p, hp => by simp [addP] at hp
  | (x, c) :: l, h, p, hp => by
    unfold addP at hp
    split at hp
    · rcases List.mem_cons.mp hp with e | z
      · rw [e]
        have := h _ List.mem_cons_self
        simp only [List.length_append, List.length_singleton] at this ⊢
        omega
      · have := h p (List.mem_cons_of_mem _ z); omega
    · rcases List.mem_cons.mp hp with e | z
      · rw [e]
        have := h _ List.mem_cons_self
        exact Nat.le_succ_of_le this
      · exact addP_le (fun q hq => h q (List.mem_cons_of_mem _ hq)) p z

section
variable {P : Program} {w : World} {K : Frg} {mg : Str → Option Value} {base : Heap}

def R_fr (C : Addr) : AN := fun xs M Q => ∃ (w : Bw) (b : Bs) (n : Str) (fr : List Str) (M0 : Sto), xs = [.m w.a] ∧ M = bM C w b M0 ∧ b.free = n :: fr ∧ Q (.d (.str n)) (bM C w ⟨fr, b.made, b.pcs⟩ M0)
abbrev N_Builder_fresh : List Str := ["self"]
theorem sc_Builder_fresh : FnScope N_Builder_fresh ["self"] (L2.defScope s_Builder_fresh) := ⟨rfl, rfl, rfl, by decide +kernel, rfl, by decide +kernel, by decide +kernel⟩
set_option maxHeartbeats 4000000 in
theorem kp_Builder_fresh (T : Tx K mg) : Kp P w K mg base 1 (He.ma K (He.ga K "Builder") "fresh") ["self"] (R_fr (He.ga K "Builder")) := by
  refine kp_n (k := 0) (T.def_ 36) sc_Builder_fresh (fun _ _ _ _ _ _ us hl => match us, hl with | [_], _ => rfl) (fun xs M Q h => ?len) (fun cdv A outer s H E hr => ⟨_, _, ⟨
    (pss_one (ps_ret (pe_bm PySem.F.plainAttrs_list PySem.F.slot_list_pop PySem.F.type_list_pop mt_popAt (pe_fld (pv 0) rfl) (pa_cons pe_int pa_nil)))),
    (ss_ret (se_bml sm_popAt (se_fld T.cls_Builder T.no_Builder_own_free se_var) (sa_cons se_int sa_nil)))⟩, fun xs M Qa h => ?body⟩)
  case len => obtain ⟨w, b, n, fr, M0, rfl, _⟩ := h; rfl
  case body =>
    obtain ⟨w, ⟨f, m, pc⟩, n, fr, M0, rfl, rfl, e, q⟩ := h
    simp only at e
    subst e
    refine ⟨_, rfl, w.a, _, [], _, _, rfl, rfl, rfl, w.fl, _, [_], _, rfl, rfl, ?_⟩
    exact ⟨w.fl, txV (n :: fr), 0, .d (.str n), [_], _, rfl, rfl, rfl, by decide, rfl, _, Sub.refl _, q⟩

def R_prt (C : Addr) : AN := fun xs M Q => ∃ (w : Bw) (b : Bs) (ch : Str) (shs : Shs) (k : Nat) (M0 : Sto), xs = [.m w.a, .d (.str ch), .d (shsD shs)] ∧ M = bM C w b M0 ∧ DkOk w b.pcs ∧ (∀ p ∈ shs, p.1 ∈ b.pcs.map (·.1)) ∧ PgOk 1 shs ∧ 2 * shs.length ≤ b.free.length + 2 ∧ BsLe b k ∧ k + shs.length ≤ 100000 ∧ Q (.d .none) (bM C w (partGo b ch 1 shs) M0)
abbrev N_Builder_parted : List Str := ["self", "channel", "shares", "left", "outlet", "share", "to", "rest"]
theorem sc_Builder_parted : FnScope N_Builder_parted ["self", "channel", "shares"] (L2.defScope s_Builder_parted) := ⟨rfl, rfl, rfl, by decide +kernel, rfl, by decide +kernel, by decide +kernel⟩
set_option maxHeartbeats 4000000 in
theorem kp_Builder_parted (T : Tx K mg) (c_Builder_fresh : Kp P w K mg base 1 (He.ma K (He.ga K "Builder") "fresh") ["self"] (R_fr (He.ga K "Builder"))) (c_over : Kp P w K mg base 3 (He.ga K "over") ["one", "other"] R_over) (c_minus : Kp P w K mg base 3 (He.ga K "minus") ["one", "other"] R_minus) : Kp P w K mg base 4 (He.ma K (He.ga K "Builder") "parted") ["self", "channel", "shares"] (R_prt (He.ga K "Builder")) := by
  refine kp_n (k := 3) (T.def_ 37) sc_Builder_parted (fun _ _ _ _ _ _ us hl => match us, hl with | [_, _, _], _ => rfl) (fun xs M Q h => ?len) (fun cdv A outer s H E hr => ⟨_, _, ⟨
    (pss_cons (ps_set (i := 3) sc_Builder_parted.nd rfl (Or.inl rfl) (pe_glob (v := .ref (He.ga K "WHOLE_fractions")) (by rfl) (T.glo 51) rfl)) (pss_cons (ps_for PassesOwn.never rfl (pi_tup (pe_slice (SlR.or sl_list sl_tupS) (pv 2) po_none (po_some (pe_un un_neg pe_int)))) (pg_tup (n := 2) rfl (pgs_cons (pg_name (i := 4) sc_Builder_parted.nd rfl (Or.inl rfl)) (pgs_cons (pg_name (i := 5) sc_Builder_parted.nd rfl (Or.inl rfl)) pgs_nil))) (pss_cons (ps_par (i := 6) (j := 7) rfl sc_Builder_parted.nd rfl rfl (by decide) rfl rfl (pa_cons (pe_mt0_ (pv 0) T.cls_Builder T.me_Builder_fresh c_Builder_fresh (hr.mono (by decide)) ) (pa_cons (pe_mt0_ (pv 0) T.cls_Builder T.me_Builder_fresh c_Builder_fresh (hr.mono (by decide)) ) pa_nil)) rfl) (pss_cons (ps_expr (pe_bm PySem.F.plainAttrs_list PySem.F.slot_list_append PySem.F.type_list_append mt_append (pe_fld (pv 0) rfl) (pa_cons (pe_tupS (pa_cons pe_str (pa_cons (pv 1) (pa_cons (pe_def c_over (hr.mono (by decide)) (by rfl) (T.glo 7) (pa_cons (pv 5) (pa_cons (pv 3) pa_nil))) (pa_cons (pv 6) (pa_cons (pv 7) pa_nil)))))) pa_nil))) (pss_cons (ps_expr (pe_bm PySem.F.plainAttrs_list PySem.F.slot_list_append PySem.F.type_list_append mt_append (pe_dget (hu_of hr) (pe_fld (pv 0) rfl) (pv 4) (fun _ _ => rfl)) (pa_cons (pv 6) pa_nil))) (pss_one (ps_par (i := 3) (j := 1) rfl sc_Builder_parted.nd rfl rfl (by decide) rfl rfl (pa_cons (pe_def c_minus (hr.mono (by decide)) (by rfl) (T.glo 5) (pa_cons (pv 3) (pa_cons (pv 5) pa_nil))) (pa_cons (pv 7) pa_nil)) rfl)))))) (pss_one (ps_expr (pe_bm PySem.F.plainAttrs_list PySem.F.slot_list_append PySem.F.type_list_append mt_append (pe_dget (hu_of hr) (pe_fld (pv 0) rfl) (pe_ix ix_seq (pe_ix ix_seq (pv 2) (pe_un un_neg pe_int) (fun _ _ => rfl)) pe_int (fun _ _ => rfl)) (fun _ _ => rfl)) (pa_cons (pv 1) pa_nil)))))),
    (ss_seq (ss_asg (se_c T.c_WHOLE_fractions) sg_nm) (ss_seq (ss_for (si_tup (se_sl se_var so_none (so_some (se_un s1_neg se_int)))) (sg_tup (sgs_cons sg_nm (sgs_cons sg_nm sgs_nil))) (ss_seq (ss_par (sa_cons (se_meth se_var sa_nil) (sa_cons (se_meth se_var sa_nil) sa_nil))) (ss_seq (ss_drop (se_bml sm_append (se_fld T.cls_Builder T.no_Builder_own_made se_var) (sa_cons (se_tup (sa_cons se_str (sa_cons se_var (sa_cons (se_call (sa_cons se_var (sa_cons se_var sa_nil))) (sa_cons se_var (sa_cons se_var sa_nil)))))) sa_nil))) (ss_seq (ss_drop (se_bml sm_append (se_dget (se_fld T.cls_Builder T.no_Builder_pieces se_var) se_var) (sa_cons se_var sa_nil))) (ss_par (sa_cons (se_call (sa_cons se_var (sa_cons se_var sa_nil))) (sa_cons se_var sa_nil))))))) (ss_drop (se_bml sm_append (se_dget (se_fld T.cls_Builder T.no_Builder_pieces se_var) (se_op s2_ix (se_op s2_ix se_var (se_un s1_neg se_int)) se_int)) (sa_cons se_var sa_nil)))))⟩, fun xs M Qa h => ?body⟩)
  case len => obtain ⟨w, b, ch, shs, k, M0, rfl, _⟩ := h; rfl
  case body =>
    obtain ⟨w, b, ch, shs, k, M0, rfl, rfl, dk, keys, pg, hf, ble, hk, qq⟩ := h
    refine ⟨_, rfl, _, rfl, _, rfl, .inl ⟨_, rfl, _, rfl, ?_⟩⟩
    refine ⟨fun rest ρ M' => ∃ (done todo : Shs) (b' : Bs) (ch' : Str) (left' : Rat) (u v x y : Option Va), shs = done ++ todo ∧ rest = todo.dropLast.map (fun p => Va.d (.tuple [.str p.1, fr p.2])) ∧ ρ = [some (.m w.a), some (.d (.str ch')), some (.d (shsD shs)), some (.d (fr left')), u, v, x, y] ∧
      M' = bM (He.ga K "Builder") w b' M0 ∧ partGo b' ch' left' todo = partGo b ch 1 shs ∧ PgOk left' todo ∧ 2 * todo.length ≤ b'.free.length + 2 ∧ b'.pcs.map (·.1) = b.pcs.map (·.1) ∧ BsLe b' (k + done.length),
      ⟨[], shs, b, ch, 1, none, none, none, none, rfl, ?_, rfl, rfl, rfl, pg, hf, rfl, ble⟩, ?_, ?_⟩
    · show (cutD (itemsD (shs.map fun p => (p.1, fr p.2))) none (some (-1))).map Va.d = _
      rw [cut_init]
      unfold itemsD
      rw [List.map_dropLast, List.map_map, List.map_map, List.map_dropLast]
      rfl
    · rintro d r ρ M' ⟨done, todo, b', ch', left', u, v, x, y, e1, e2, rfl, rfl, e3, pg', hf', ks, bl'⟩
      match todo, e2, pg', hf', e3 with
      | p :: q :: todo, e2, ⟨g1, g2, g3, g4, g5⟩, hf', e3 =>
        injection e2 with e4 e5
        subst e4
        obtain ⟨f', m', pc'⟩ := b'
        simp only at hf' ks
        match f', hf' with
        | n1 :: n2 :: f', hf' =>
          have hko : p.1 ∈ pc'.map (·.1) := by rw [ks]; exact keys p (by rw [e1]; simp)
          have dk' : DkOk w pc' := dk_keys dk ks
          obtain ⟨c, l1, l2, hc, em, ea⟩ := bM_piece (w := w) (He.ga K "Builder") (txV f') (mdV m' ++ [.d (partD (.div ch' (p.2 / left') n1 n2))]) M0 hko
          have hcl : c.length ≤ 1000000 := by
            have := bl'.2 _ hc
            have h9 : done.length + (todo.length + 1 + 1) = shs.length := by rw [e1, List.length_append]; rfl
            simp only at this
            omega
          have hml : m'.length ≤ 1000000 := by
            have := bl'.1
            have h9 : done.length + (todo.length + 1 + 1) = shs.length := by rw [e1, List.length_append]; rfl
            simp only at this
            omega
          refine ⟨_, rfl, rfl, _, _, rfl, _, _, rfl, rfl, ?_⟩
          refine ⟨_, rfl, w.a, _, [], _, rfl, rfl, rfl, w, ⟨n1 :: n2 :: f', m', pc'⟩, n1, n2 :: f', M0, rfl, rfl, rfl, ?_⟩
          refine ⟨_, rfl, w.a, _, [], _, rfl, rfl, rfl, w, ⟨n2 :: f', m', pc'⟩, n2, f', M0, rfl, rfl, rfl, _, _, rfl, ?_⟩
          refine ⟨_, rfl, w.a, _, [], _, _, rfl, rfl, rfl, w.ml, _, [_, _], _, rfl, rfl, _, rfl, _, rfl, _, rfl, p.2, left', rfl, g1, g2, g3, _, rfl, _, rfl, _, rfl, (show 5 ≤ 1000000 by decide), ?_⟩
          refine ⟨w.ml, mdV m', _, [_, _], _, rfl, rfl, rfl, by unfold mdV; rw [List.length_map]; exact hml, ?_⟩
          refine ⟨_, rfl, w.a, _, [], _, _, rfl, rfl, rfl, _, rfl, w.pd, w.dk, p.1, .m (w.ad p.1), [_, _, _], _, rfl, rfl, rfl, dk_at dk' hko, w.ad p.1, txV c, l1, l2, rfl, em, _, rfl, ?_⟩
          refine ⟨w.ad p.1, txV c, _, l1, l2, rfl, rfl, em, by rw [txV_len]; exact hcl, ?_⟩
          refine ⟨_, rfl, _, rfl, left', p.2, rfl, g2, g1, g4, _, rfl, _, _, rfl, ?_⟩
          refine ⟨done ++ [p], q :: todo, ⟨f', m' ++ [Part.div ch' (p.2 / left') n1 n2], addP p.1 n1 pc'⟩, n2, left' - p.2, _, _, _, _, by rw [e1]; simp, e5, rfl, ?_, (by rw [← e3]; rfl), g5, by simp only [List.length_cons] at hf' ⊢; omega, by rw [← ks]; exact addP_keys _ _ _, ?_⟩
          · rw [ea n1]
            unfold bM
            rw [mdV_app]
          · have := bl'.1
            refine ⟨by simp only [List.length_append, List.length_singleton] at this ⊢; omega, fun z hz => ?_⟩
            have := addP_le bl'.2 z hz
            simp only [List.length_append, List.length_singleton] at this ⊢
            omega
        | [n1], hf' => simp only [List.length_cons, List.length_nil] at hf'; omega
        | [], hf' => simp only [List.length_cons, List.length_nil] at hf'; omega
      | [p], e2, _, _, _ => exact absurd e2 (by simp)
    · rintro ρ M' ⟨done, todo, b', ch', left', u, v, x, y, e1, e2, rfl, rfl, e3, pg', hf', ks, bl'⟩
      match todo, e2, pg', e3 with
      | [p], e2, _, e3 =>
        obtain ⟨f', m', pc'⟩ := b'
        simp only at ks
        have hko : p.1 ∈ pc'.map (·.1) := by rw [ks]; exact keys p (by rw [e1]; simp)
        have dk' : DkOk w pc' := dk_keys dk ks
        obtain ⟨c, l1, l2, hc, em, ea⟩ := bM_piece (w := w) (He.ga K "Builder") (txV f') (mdV m') M0 hko
        have hcl : c.length ≤ 1000000 := by
          have := bl'.2 _ hc
          have h9 : done.length + 1 = shs.length := by rw [e1, List.length_append]; rfl
          simp only at this
          omega
        have hlast : (shs.map fun p => (p.1, fr p.2)).getLast? = some (p.1, fr p.2) := by rw [e1]; simp
        have hl2 : (itemsD (shs.map fun p => (p.1, fr p.2))).getLast? = some (.tuple [.str p.1, fr p.2]) := by
          unfold itemsD
          rw [List.getLast?_map, hlast]; rfl
        refine ⟨_, rfl, w.a, _, [], _, _, rfl, rfl, rfl, _, rfl, _, rfl, _, _, _, .inl rfl, rfl, atI_last _ _ hl2, _, 0, _, .inl rfl, rfl, rfl, ?_⟩
        refine ⟨w.pd, w.dk, p.1, .m (w.ad p.1), [_, _, _], _, rfl, rfl, rfl, dk_at dk' hko, w.ad p.1, txV c, l1, l2, rfl, em, _, rfl, ?_⟩
        refine ⟨w.ad p.1, txV c, _, l1, l2, rfl, rfl, em, by rw [txV_len]; exact hcl, ?_⟩
        refine ⟨_, Sub.refl _, ?_⟩
        rw [ea ch']
        rw [← e3] at qq
        exact qq
      | p :: q :: todo, e2, _, _ => exact absurd e2 (by simp)


theorem partGo_keys : ∀ (s : Shs) (b : Bs) (ch : Str) (l : Rat), (partGo b ch l s).pcs.map (·.1) = b.pcs.map (·.1)
  | [], _, _, _ => rfl
  | [p], b, ch, _ => addP_keys _ _ _
  | p :: q :: r, b, ch, l => by
    unfold partGo
    rw [partGo_keys (q :: r)]
    exact addP_keys _ _ _
theorem partGo_free : ∀ (s : Shs) (b : Bs) (ch : Str) (l : Rat), b.free.length ≤ (partGo b ch l s).free.length + 2 * (s.length - 1)
  | [], _, _, _ => Nat.le_refl _
  | [p], b, ch, _ => Nat.le_refl _
  | p :: q :: r, b, ch, l => by
    unfold partGo
    have := partGo_free (q :: r) ⟨b.free.drop 2, b.made ++ [.div ch (p.2 / l) b.n1 b.n2], addP p.1 b.n1 b.pcs⟩ b.n2 (l - p.2)
    simp only [List.length_drop, List.length_cons] at this ⊢
    omega
theorem partGo_le : ∀ (s : Shs) (b : Bs) (ch : Str) (l : Rat) (k : Nat), BsLe b k → BsLe (partGo b ch l s) (k + s.length)
  | [], _, _, _, k, h => h
  | [p], b, ch, _, k, h => ⟨Nat.le_succ_of_le h.1, addP_le h.2⟩
  | p :: q :: r, b, ch, l, k, h => by
    unfold partGo
    have := partGo_le (q :: r) ⟨b.free.drop 2, b.made ++ [.div ch (p.2 / l) b.n1 b.n2], addP p.1 b.n1 b.pcs⟩ b.n2 (l - p.2) (k + 1) ⟨by rw [List.length_append, List.length_singleton]; have := h.1; omega, addP_le h.2⟩
    rw [show k + (p :: q :: r).length = k + 1 + (q :: r).length from by simp only [List.length_cons]; omega]
    exact this
def layGo : Bs → Str → Rat → Tab → Bs
  | b, _, _, [] => b
  | b, ch, bef, (none, s) :: T => layGo (partGo b ch 1 s) ch bef T
  | b, ch, bef, (some u, s) :: T => layGo (partGo ⟨b.free.drop 2, b.made ++ [.weir ch (u - bef) b.n1 b.n2], b.pcs⟩ b.n1 1 s) b.n2 u T
def LgOk : Rat → Tab → Prop
  | _, [] => True
  | bef, (u, s) :: T => PgOk 1 s ∧ (∀ e, u = some e → Fit e ∧ Fit bef ∧ bef ≤ e) ∧ LgOk (u.getD bef) T
theorem pg_pos : ∀ {l : Rat} {s : Shs}, PgOk l s → 1 ≤ s.length
  | _, [], h => h.elim
  | _, _ :: _, _ => by simp

def R_lay (C : Addr) : AN := fun xs M Q => ∃ (w : Bw) (b : Bs) (T : Tab) (k : Nat) (M0 : Sto), xs = [.m w.a, .d (tabD T)] ∧ M = bM C w b M0 ∧ DkOk w b.pcs ∧ (∀ r ∈ T, ∀ p ∈ r.2, p.1 ∈ b.pcs.map (·.1)) ∧ LgOk 0 T ∧ 2 * (namesOf T).length ≤ b.free.length ∧ BsLe b k ∧ k + 2 * (namesOf T).length ≤ 100000 ∧ Q (.d .none) (bM C w (layGo b "in" 0 T) M0)
abbrev N_Builder_layered : List Str := ["self", "table", "channel", "before", "until", "shares", "own", "rest"]
theorem sc_Builder_layered : FnScope N_Builder_layered ["self", "table"] (L2.defScope s_Builder_layered) := ⟨rfl, rfl, rfl, by decide +kernel, rfl, by decide +kernel, by decide +kernel⟩
set_option maxHeartbeats 4000000 in
theorem kp_Builder_layered (T : Tx K mg) (c_Builder_fresh : Kp P w K mg base 1 (He.ma K (He.ga K "Builder") "fresh") ["self"] (R_fr (He.ga K "Builder"))) (c_minus : Kp P w K mg base 3 (He.ga K "minus") ["one", "other"] R_minus) (c_Builder_parted : Kp P w K mg base 4 (He.ma K (He.ga K "Builder") "parted") ["self", "channel", "shares"] (R_prt (He.ga K "Builder"))) : Kp P w K mg base 5 (He.ma K (He.ga K "Builder") "layered") ["self", "table"] (R_lay (He.ga K "Builder")) := by
  refine kp_n (k := 4) (T.def_ 38) sc_Builder_layered (fun _ _ _ _ _ _ us hl => match us, hl with | [_, _], _ => rfl) (fun xs M Q h => ?len) (fun cdv A outer s H E hr => ⟨_, _, ⟨
    (pss_cons (ps_par (i := 2) (j := 3) rfl sc_Builder_layered.nd rfl rfl (by decide) rfl rfl (pa_cons (pe_glob (v := .str "in") (by rfl) T.s_SOURCE_builds.choose_spec ⟨_, rfl⟩) (pa_cons (pe_glob (v := .ref (He.ga K "NONE")) (by rfl) (T.glo 50) rfl) pa_nil)) rfl) (pss_one (ps_for PassesOwn.never rfl (pi_tup (pv 1)) (pg_tup (n := 2) rfl (pgs_cons (pg_name (i := 4) sc_Builder_layered.nd rfl (Or.inl rfl)) (pgs_cons (pg_name (i := 5) sc_Builder_layered.nd rfl (Or.inl rfl)) pgs_nil))) (pss_cons (ps_set (i := 6) sc_Builder_layered.nd rfl (Or.inl rfl) (pv 2)) (pss_cons (ps_if (pt_cmpR op_notN (pv 4) pe_non (nomark _)) (pss_cons (ps_par (i := 6) (j := 7) rfl sc_Builder_layered.nd rfl rfl (by decide) rfl rfl (pa_cons (pe_mt0_ (pv 0) T.cls_Builder T.me_Builder_fresh c_Builder_fresh (hr.mono (by decide)) ) (pa_cons (pe_mt0_ (pv 0) T.cls_Builder T.me_Builder_fresh c_Builder_fresh (hr.mono (by decide)) ) pa_nil)) rfl) (pss_cons (ps_expr (pe_bm PySem.F.plainAttrs_list PySem.F.slot_list_append PySem.F.type_list_append mt_append (pe_fld (pv 0) rfl) (pa_cons (pe_tupS (pa_cons pe_str (pa_cons (pv 2) (pa_cons (pe_def c_minus (hr.mono (by decide)) (by rfl) (T.glo 5) (pa_cons (pv 4) (pa_cons (pv 3) pa_nil))) (pa_cons (pv 6) (pa_cons (pv 7) pa_nil)))))) pa_nil))) (pss_one (ps_par (i := 2) (j := 3) rfl sc_Builder_layered.nd rfl rfl (by decide) rfl rfl (pa_cons (pv 7) (pa_cons (pv 4) pa_nil)) rfl)))) pss_nil) (pss_one (ps_expr (pe_mt_ (pv 0) T.cls_Builder T.me_Builder_parted c_Builder_parted (hr.mono (by decide)) (pa_cons (pv 6) (pa_cons (pv 5) pa_nil)))))))))),
    (ss_seq (ss_par (sa_cons se_str (sa_cons (se_c T.c_NONE) sa_nil))) (ss_for (si_tup se_var) (sg_tup (sgs_cons sg_nm (sgs_cons sg_nm sgs_nil))) (ss_seq (ss_asg se_var sg_nm) (ss_seq (ss_if (st_T (se_op s2_isnot se_var se_non)) (ss_seq (ss_par (sa_cons (se_meth se_var sa_nil) (sa_cons (se_meth se_var sa_nil) sa_nil))) (ss_seq (ss_drop (se_bml sm_append (se_fld T.cls_Builder T.no_Builder_own_made se_var) (sa_cons (se_tup (sa_cons se_str (sa_cons se_var (sa_cons (se_call (sa_cons se_var (sa_cons se_var sa_nil))) (sa_cons se_var (sa_cons se_var sa_nil)))))) sa_nil))) (ss_par (sa_cons se_var (sa_cons se_var sa_nil))))) ss_next) (ss_drop (se_meth se_var (sa_cons se_var (sa_cons se_var sa_nil))))))))⟩, fun xs M Qa h => ?body⟩)
  case len => obtain ⟨w, b, T, k, M0, rfl, _⟩ := h; rfl
  case body =>
    obtain ⟨w, b, T, k, M0, rfl, rfl, dk, keys, lg, hf, ble, hk, qq⟩ := h
    refine ⟨_, _, rfl, _, rfl, _, rfl, ?_⟩
    refine ⟨fun rest ρ M' => ∃ (done todo : Tab) (b' : Bs) (ch' : Str) (bef' : Rat) (u v x y : Option Va), T = done ++ todo ∧ rest = todo.map (fun r => Va.d (tabRow r)) ∧ ρ = [some (.m w.a), some (.d (tabD T)), some (.d (.str ch')), some (.d (fr bef')), u, v, x, y] ∧
      M' = bM (He.ga K "Builder") w b' M0 ∧ layGo b' ch' bef' todo = layGo b "in" 0 T ∧ LgOk bef' todo ∧ 2 * (namesOf todo).length ≤ b'.free.length ∧ b'.pcs.map (·.1) = b.pcs.map (·.1) ∧ BsLe b' (k + 2 * (namesOf done).length),
      ⟨[], T, b, "in", 0, none, none, none, none, rfl, by rw [List.map_map]; rfl, rfl, rfl, rfl, lg, hf, rfl, ble⟩, ?_, ?_⟩
    · rintro d r ρ M' ⟨done, todo, b', ch', bef', u, v, x, y, e1, e2, rfl, rfl, e3, lg', hf', ks, bl'⟩
      match todo, e2, lg', hf', e3 with
      | (ut, s) :: todo, e2, ⟨g1, g2, g3⟩, hf', e3 =>
        injection e2 with e4 e5
        subst e4
        obtain ⟨f', m', pc'⟩ := b'
        simp only at hf' ks
        have dk' : DkOk w pc' := dk_keys dk ks
        have hs := pg_pos g1
        have nm : (namesOf ((ut, s) :: todo)).length = s.length + (namesOf todo).length := by
          unfold namesOf
          rw [List.flatMap_cons, List.length_append, List.length_map]
        have nd : (namesOf (done ++ [(ut, s)])).length = (namesOf done).length + s.length := by
          unfold namesOf
          rw [List.flatMap_append, List.length_append, List.flatMap_cons, List.flatMap_nil, List.append_nil, List.length_map]
        have nt : (namesOf T).length = (namesOf done).length + (s.length + (namesOf todo).length) := by
          rw [← nm, e1]
          unfold namesOf
          rw [List.flatMap_append, List.length_append]
        rw [nm] at hf'
        have kk : ∀ p ∈ s, p.1 ∈ pc'.map (·.1) := fun p hp => by rw [ks]; exact keys (ut, s) (by rw [e1]; simp) p hp
        have hb := bl'.1
        simp only at hb
        match ut, g2, g3, e1, e3, nd with
        | none, _, g3, e1, e3, nd =>
          refine ⟨_, rfl, rfl, _, _, rfl, _, _, rfl, rfl, _, rfl, _, rfl, _, rfl, rfl, _, rfl, ?_⟩
          refine iteB (fun z => nomatch z) (fun _ => ?_)
          refine ⟨_, rfl, w.a, _, [], _, rfl, rfl, rfl, _, rfl, _, rfl, w, ⟨f', m', pc'⟩, ch', s, k + 2 * (namesOf done).length, M0, rfl, rfl, dk', kk, g1, by show 2 * s.length ≤ f'.length + 2; omega, bl', by omega, ?_⟩
          refine ⟨done ++ [(none, s)], todo, _, ch', bef', _, _, _, _, by rw [e1]; simp, e5, rfl, rfl, e3, g3, ?_, by rw [partGo_keys]; exact ks, ?_⟩
          · have := partGo_free s ⟨f', m', pc'⟩ ch' 1
            simp only at this
            omega
          · have := partGo_le s _ ch' 1 _ bl'
            rw [nd]
            exact ⟨by have := this.1; omega, fun z hz => by have := this.2 z hz; omega⟩
        | some e, g2, g3, e1, e3, nd =>
          obtain ⟨h1, h2, h3⟩ := g2 e rfl
          match f', hf', bl', e3 with
          | n1 :: n2 :: f', hf', bl', e3 =>
            simp only [List.length_cons] at hf'
            refine ⟨_, rfl, rfl, _, _, rfl, _, _, rfl, rfl, _, rfl, _, rfl, _, rfl, rfl, _, rfl, ?_⟩
            refine iteB (fun _ => ?_) (fun z => nomatch z)
            refine ⟨_, rfl, w.a, _, [], _, rfl, rfl, rfl, w, ⟨n1 :: n2 :: f', m', pc'⟩, n1, n2 :: f', M0, rfl, rfl, rfl, ?_⟩
            refine ⟨_, rfl, w.a, _, [], _, rfl, rfl, rfl, w, ⟨n2 :: f', m', pc'⟩, n2, f', M0, rfl, rfl, rfl, _, _, rfl, ?_⟩
            refine ⟨_, rfl, w.a, _, [], _, _, rfl, rfl, rfl, w.ml, _, [_, _], _, rfl, rfl, _, rfl, _, rfl, _, rfl, e, bef', rfl, h1, h2, h3, _, rfl, _, rfl, _, rfl, (show 5 ≤ 1000000 by decide), ?_⟩
            refine ⟨w.ml, mdV m', _, [_, _], _, rfl, rfl, rfl, by unfold mdV; rw [List.length_map]; omega, ?_⟩
            refine ⟨_, rfl, _, rfl, _, _, rfl, ?_⟩
            have bl2 : BsLe ⟨f', m' ++ [Part.weir ch' (e - bef') n1 n2], pc'⟩ (k + 2 * (namesOf done).length + 1) := ⟨by rw [List.length_append, List.length_singleton]; omega, fun z hz => Nat.le_succ_of_le (bl'.2 z hz)⟩
            refine ⟨_, rfl, w.a, _, [], _, rfl, rfl, rfl, _, rfl, _, rfl, w, ⟨f', m' ++ [Part.weir ch' (e - bef') n1 n2], pc'⟩, n1, s, k + 2 * (namesOf done).length + 1, M0, rfl, by unfold bM; rw [mdV_app]; rfl, dk', kk, g1, by show 2 * s.length ≤ f'.length + 2; omega, bl2, by omega, ?_⟩
            refine ⟨done ++ [(some e, s)], todo, _, n2, e, _, _, _, _, by rw [e1]; simp, e5, rfl, rfl, by rw [← e3]; rfl, g3, ?_, by rw [partGo_keys]; exact ks, ?_⟩
            · have := partGo_free s ⟨f', m' ++ [Part.weir ch' (e - bef') n1 n2], pc'⟩ n1 1
              simp only at this
              omega
            · have := partGo_le s _ n1 1 _ bl2
              rw [nd]
              exact ⟨by have := this.1; omega, fun z hz => by have := this.2 z hz; omega⟩
          | [n1], hf', _, _ => simp only [List.length_cons, List.length_nil] at hf'; omega
          | [], hf', _, _ => simp only [List.length_nil] at hf'; omega
    · rintro ρ M' ⟨done, todo, b', ch', bef', u, v, x, y, e1, e2, rfl, rfl, e3, pg', hf', ks, bl'⟩
      match todo, e2, e3 with
      | [], e2, e3 =>
        refine ⟨_, Sub.refl _, ?_⟩
        rw [← e3] at qq
        exact qq

end
end LN
namespace LN
open PySem PySem.Spec PyProof.Rows L2 SlX

def joinGo (o : Str) : List Str → List Part → Str → Str → List Str → List Str × List Part
  | fr, md, a, b, [] => (fr, md ++ [.join a b o])
  | fr, md, a, b, c :: r => joinGo o (fr.drop 1) (md ++ [.join a b (fr.headD "")]) (fr.headD "") c r
def gathM (o : Str) (fr : List Str) (md : List Part) : List Str → List Str × List Part
  | [] => (fr, md)
  | [x] => joinGo o (fr.drop 2) (md ++ [.div x (1/2) (fr.headD "") ((fr.drop 1).headD "")]) (fr.headD "") ((fr.drop 1).headD "") []
  | x :: y :: r => joinGo o fr md x y r
section
variable {K : Frg}
abbrev gatLoop (K : Frg) : AS := sFor
  (iLst (aOp RCat (aSl (aVar 2) (aPart (aC (Va.d (PyData.int 2)))) aNoPart) (aLst (aCons (aC (Va.d PyData.none)) aNil))))
  (gNm 5)
  (sSeq
    (sAsg (aIf (aB (aOp (RIs id) (aVar 5) (aC (Va.d PyData.none)))) (aVar 1) (aMeth (He.ga K "Builder") "fresh" (R_fr (He.ga K "Builder")) (aVar 0) aNil)) (gNm 3))
    (sSeq
      (sDrop (aBMl RAppend (aFld (He.ga K "Builder") "own_made" (aVar 0)) (aCons (aTup (aCons (aC (Va.d (PyData.str "join"))) (aCons (aOp RIx (aVar 2) (aC (Va.d (PyData.int 0)))) (aCons (aOp RIx (aVar 2) (aC (Va.d (PyData.int 1)))) (aCons (aVar 3) aNil))))) aNil)))
      (sAsg (aLst (aCons (aVar 3) (aStar (aIf (aB (aOp (RIs not) (aVar 5) (aC (Va.d PyData.none)))) (aLst (aCons (aVar 5) aNil)) (aLst aNil)) aNil))) (gNm 2))))
theorem gat_loop {w : Bw} {o : Str} {pc : List (Str × List Str)} {M0 : Sto} {D : AEnds} (a b : Str) (r : List Str) (f : List Str) (m : List Part) (u v x : Option Va) {X : List Va} (hX : X = mdV m) (hf : r.length ≤ f.length) (hm : m.length + r.length + 1 ≤ 100000)
    (hD : ∀ ρ, D.nx ρ (bMr (He.ga K "Builder") w (txV (joinGo o f m a b r).1) (mdV (joinGo o f m a b r).2) pc M0)) :
    gatLoop K D [some (.m w.a), some (.d (.str o)), some (.d (.list (strsD (a :: b :: r)))), u, v, x] (bMr (He.ga K "Builder") w (txV f) X pc M0) := by
  subst hX
  refine ⟨_, rfl, _, rfl, .inr (.inl ⟨_, rfl, _, rfl, (show 1 ≤ 1000000 by decide), ?_⟩)⟩
  have e1 : cutD (strsD (a :: b :: r)) (some (2 : Int)) none = strsD r := by
    have := cut_from (strsD (a :: b :: r)) 2
    exact this
  refine ⟨_, _, rfl, rfl, ?_, _, rfl, ?_⟩
  · show (cutD (strsD (a :: b :: r)) (some (2 : Int)) none).length + 1 ≤ 1000000
    rw [e1]; unfold strsD; rw [List.length_map]; omega
  refine ⟨fun rest ρ M' => (∃ (todo : List Str) (a' b' : Str) (fr : List Str) (md : List Part) (tl : List PyData) (u v x : Option Va), rest = todo.map (fun n => Va.d (.str n)) ++ [.d .none] ∧ ρ = [some (.m w.a), some (.d (.str o)), some (.d (.list (.str a' :: .str b' :: tl))), u, v, x] ∧ M' = bMr (He.ga K "Builder") w (txV fr) (mdV md) pc M0 ∧ joinGo o fr md a' b' todo = joinGo o f m a b r ∧ todo.length ≤ fr.length ∧ md.length + todo.length + 1 ≤ 100000) ∨ (rest = [] ∧ M' = bMr (He.ga K "Builder") w (txV (joinGo o f m a b r).1) (mdV (joinGo o f m a b r).2) pc M0), .inl ⟨r, a, b, f, m, strsD r, u, v, x, ?_, rfl, rfl, rfl, hf, hm⟩, ?_, ?_⟩
  · show (cutD (strsD (a :: b :: r)) (some (2 : Int)) none ++ [PyData.none]).map Va.d = _
    rw [e1]
    unfold strsD
    rw [List.map_append, List.map_map]; rfl
  · rintro d rest ρ M' (⟨todo, a', b', fr, md, tl, u, v, x, e2, rfl, rfl, e3, h1, h2⟩ | ⟨h, _⟩)
    · match todo, e2, e3, h1, h2 with
      | [], e2, e3, h1, h2 =>
        injection e2 with e4 e5
        subst e4; subst e5
        refine ⟨_, rfl, _, rfl, rfl, _, rfl, ?_⟩
        refine iteB (fun _ => ?_) (fun z => nomatch z)
        refine ⟨_, rfl, ?_⟩
        refine ⟨_, rfl, w.a, _, [], _, _, rfl, rfl, rfl, w.ml, _, [_, _], _, rfl, rfl, _, rfl, _, 0, _, .inr rfl, rfl, atI_nat _ 0 _ rfl, _, rfl, _, 1, _, .inr rfl, rfl, atI_nat _ 1 _ rfl, _, rfl, _, rfl, (show 4 ≤ 1000000 by decide), ?_⟩
        refine ⟨w.ml, mdV md, _, [_, _], _, rfl, rfl, rfl, by unfold mdV; rw [List.length_map]; simp only [List.length_nil] at h2; omega, ?_⟩
        refine ⟨_, rfl, _, rfl, _, rfl, rfl, _, rfl, ?_⟩
        refine iteB (fun z => nomatch z) (fun _ => ?_)
        refine ⟨_, rfl, (show 0 ≤ 1000000 by decide), _, .inl rfl, _, rfl, (show 1 ≤ 1000000 by decide), .inr ⟨rfl, ?_⟩⟩
        rw [← e3]
        show _ = bMr _ w (txV fr) (mdV (md ++ [Part.join a' b' o])) pc M0
        rw [mdV_app]; rfl
      | c :: todo, e2, e3, h1, h2 =>
        injection e2 with e4 e5
        subst e4
        match fr, h1, e3 with
        | n :: fr, h1, e3 =>
          simp only [List.length_cons] at h1 h2
          refine ⟨_, rfl, _, rfl, rfl, _, rfl, ?_⟩
          refine iteB (fun z => nomatch z) (fun _ => ?_)
          refine ⟨_, rfl, w.a, _, [], _, rfl, rfl, rfl, w, ⟨n :: fr, md, pc⟩, n, fr, M0, rfl, rfl, rfl, ?_⟩
          refine ⟨_, rfl, w.a, _, [], _, _, rfl, rfl, rfl, w.ml, _, [_, _], _, rfl, rfl, _, rfl, _, 0, _, .inr rfl, rfl, atI_nat _ 0 _ rfl, _, rfl, _, 1, _, .inr rfl, rfl, atI_nat _ 1 _ rfl, _, rfl, _, rfl, (show 4 ≤ 1000000 by decide), ?_⟩
          refine ⟨w.ml, mdV md, _, [_, _], _, rfl, rfl, rfl, by unfold mdV; rw [List.length_map]; omega, ?_⟩
          refine ⟨_, rfl, _, rfl, _, rfl, rfl, _, rfl, ?_⟩
          refine iteB (fun _ => ?_) (fun z => nomatch z)
          refine ⟨_, rfl, _, rfl, (show 1 ≤ 1000000 by decide), _, .inl rfl, _, rfl, (show 2 ≤ 1000000 by decide), .inl ⟨todo, n, c, fr, md ++ [Part.join a' b' n], [], _, _, _, e5, rfl, ?_, e3, by omega, by rw [List.length_append, List.length_singleton]; omega⟩⟩
          rw [mdV_app]; rfl
        | [], h1, _ => simp only [List.length_cons, List.length_nil] at h1; omega
    · exact absurd h (by simp)
  · rintro ρ M' (⟨todo, a', b', fr, md, tl, u, v, x, e2, _⟩ | ⟨_, rfl⟩)
    · exact absurd e2 (by simp)
    · exact hD ρ
end

section
variable {P : Program} {w : World} {K : Frg} {mg : Str → Option Value} {base : Heap}

def R_gat (C : Addr) : AN := fun xs M Q => ∃ (w : Bw) (f : List Str) (m : List Part) (o : Str) (row : List Str) (pc : List (Str × List Str)) (M0 : Sto), xs = [.m w.a, .d (.str o)] ∧ M = bM C w ⟨f, m, (o, row) :: pc⟩ M0 ∧ DkOk w ((o, row) :: pc) ∧ row ≠ [] ∧ row.length + 1 ≤ f.length ∧ m.length + row.length ≤ 90000 ∧ Q (.d .none) (bM C w ⟨(gathM o f m row).1, (gathM o f m row).2, pc⟩ M0)
abbrev N_Builder_gathered : List Str := ["self", "outlet", "row", "to", "rest", "own"]
theorem sc_Builder_gathered : FnScope N_Builder_gathered ["self", "outlet"] (L2.defScope s_Builder_gathered) := ⟨rfl, rfl, rfl, by decide +kernel, rfl, by decide +kernel, by decide +kernel⟩
set_option maxHeartbeats 4000000 in
theorem kp_Builder_gathered (T : Tx K mg) (c_Builder_fresh : Kp P w K mg base 1 (He.ma K (He.ga K "Builder") "fresh") ["self"] (R_fr (He.ga K "Builder"))) : Kp P w K mg base 2 (He.ma K (He.ga K "Builder") "gathered") ["self", "outlet"] (R_gat (He.ga K "Builder")) := by
  refine kp_n (k := 1) (T.def_ 39) sc_Builder_gathered (fun _ _ _ _ _ _ us hl => match us, hl with | [_, _], _ => rfl) (fun xs M Q h => ?len) (fun cdv A outer s H E hr => ⟨_, _, ⟨
    (pss_cons (ps_set (i := 2) sc_Builder_gathered.nd rfl (Or.inl rfl) (pe_dget (hu_of hr) (pe_fld (pv 0) rfl) (pv 1) (fun _ _ => rfl))) (pss_cons (ps_if (pt_cmpR (op_eqD hr.units) (pe_callB call_len_seq (by rfl) (T.free 68) PySem.boot_len (pa_cons (pv 2) pa_nil)) pe_int (nomark _)) (pss_cons (ps_par (i := 3) (j := 4) rfl sc_Builder_gathered.nd rfl rfl (by decide) rfl rfl (pa_cons (pe_mt0_ (pv 0) T.cls_Builder T.me_Builder_fresh c_Builder_fresh (hr.mono (by decide)) ) (pa_cons (pe_mt0_ (pv 0) T.cls_Builder T.me_Builder_fresh c_Builder_fresh (hr.mono (by decide)) ) pa_nil)) rfl) (pss_cons (ps_expr (pe_bm PySem.F.plainAttrs_list PySem.F.slot_list_append PySem.F.type_list_append mt_append (pe_fld (pv 0) rfl) (pa_cons (pe_tupS (pa_cons pe_str (pa_cons (pe_ix ix_seq (pv 2) pe_int (fun _ _ => rfl)) (pa_cons (pe_glob (v := .ref (He.ga K "HALF")) (by rfl) (T.glo 52) rfl) (pa_cons (pv 3) (pa_cons (pv 4) pa_nil)))))) pa_nil))) (pss_one (ps_set (i := 2) sc_Builder_gathered.nd rfl (Or.inl rfl) (pe_lst (pa_cons (pv 3) (pa_cons (pv 4) pa_nil))))))) pss_nil) (pss_one (ps_for PassesOwn.never rfl (pi_list (pe_op op_catL (pe_slice (SlR.or sl_list sl_tupS) (pv 2) (po_some pe_int) po_none) (pe_lst (pa_cons pe_non pa_nil)))) (pg_name (i := 5) sc_Builder_gathered.nd rfl (Or.inl rfl)) (pss_cons (ps_set (i := 3) sc_Builder_gathered.nd rfl (Or.inl rfl) (pe_ifExp (pt_cmpR op_isN (pv 5) pe_non (nomark _)) (pv 1) (pe_mt0_ (pv 0) T.cls_Builder T.me_Builder_fresh c_Builder_fresh (hr.mono (by decide)) ))) (pss_cons (ps_expr (pe_bm PySem.F.plainAttrs_list PySem.F.slot_list_append PySem.F.type_list_append mt_append (pe_fld (pv 0) rfl) (pa_cons (pe_tupS (pa_cons pe_str (pa_cons (pe_ix ix_seq (pv 2) pe_int (fun _ _ => rfl)) (pa_cons (pe_ix ix_seq (pv 2) pe_int (fun _ _ => rfl)) (pa_cons (pv 3) pa_nil))))) pa_nil))) (pss_one (ps_set (i := 2) sc_Builder_gathered.nd rfl (Or.inl rfl) (pe_lst (pa_cons (pv 3) (StX.pa_star (pe_ifExp (pt_cmpR op_notN (pv 5) pe_non (nomark _)) (pe_lst (pa_cons (pv 5) pa_nil)) (pe_lst pa_nil)) pa_nil))))))))))),
    (ss_seq (ss_asg (se_frz (se_dget (se_fld T.cls_Builder T.no_Builder_pieces se_var) se_var)) sg_nm) (ss_seq (ss_if (st_T (se_op s2_eq (se_cb sn_len (sa_cons se_var sa_nil)) se_int)) (ss_seq (ss_par (sa_cons (se_meth se_var sa_nil) (sa_cons (se_meth se_var sa_nil) sa_nil))) (ss_seq (ss_drop (se_bml sm_append (se_fld T.cls_Builder T.no_Builder_own_made se_var) (sa_cons (se_tup (sa_cons se_str (sa_cons (se_op s2_ix se_var se_int) (sa_cons (se_c T.c_HALF) (sa_cons se_var (sa_cons se_var sa_nil)))))) sa_nil))) (ss_asg (se_lst (sa_cons se_var (sa_cons se_var sa_nil))) sg_nm))) ss_next) (ss_for (si_lst (se_op s2_catL (se_sl se_var (so_some se_int) so_none) (se_lst (sa_cons se_non sa_nil)))) sg_nm (ss_seq (ss_asg (se_if (st_T (se_op s2_is se_var se_non)) se_var (se_meth se_var sa_nil)) sg_nm) (ss_seq (ss_drop (se_bml sm_append (se_fld T.cls_Builder T.no_Builder_own_made se_var) (sa_cons (se_tup (sa_cons se_str (sa_cons (se_op s2_ix se_var se_int) (sa_cons (se_op s2_ix se_var se_int) (sa_cons se_var sa_nil))))) sa_nil))) (ss_asg (se_lst (sa_cons se_var (sa_star (se_if (st_T (se_op s2_isnot se_var se_non)) (se_lst (sa_cons se_var sa_nil)) (se_lst sa_nil)) sa_nil))) sg_nm))))))⟩, fun xs M Qa h => ?body⟩)
  case len => obtain ⟨w, f, m, o, row, pc, M0, rfl, _⟩ := h; rfl
  case body =>
    obtain ⟨w, f, m, o, row, pc, M0, rfl, rfl, dk, hne, hf, hm, qq⟩ := h
    refine ⟨_, rfl, w.a, _, [], _, _, rfl, rfl, rfl, _, rfl, w.pd, w.dk, o, .m (w.ad o), [_, _, _], _, rfl, rfl, rfl, dk (o, row) List.mem_cons_self, w.ad o, txV row, strsD row, [_, _, _, _], _, rfl, rfl, dats_map _, ?_⟩
    match row, hne, dk, hf, hm, qq with
    | [x], _, dk, hf, hm, qq =>
      match f, hf, qq with
      | n1 :: n2 :: f, hf, qq =>
        simp only [List.length_cons, List.length_nil] at hf hm
        refine ⟨_, rfl, .inl ⟨_, rfl, _, _, rfl, rfl, rfl, rfl, _, rfl, ?_⟩⟩
        refine iteB (fun _ => ?_) (fun z => nomatch z)
        refine ⟨_, rfl, w.a, _, [], _, rfl, rfl, rfl, w, ⟨n1 :: n2 :: f, m, pc⟩, n1, n2 :: f, M0, rfl, rfl, rfl, ?_⟩
        refine ⟨_, rfl, w.a, _, [], _, rfl, rfl, rfl, w, ⟨n2 :: f, m, pc⟩, n2, f, M0, rfl, rfl, rfl, _, _, rfl, ?_⟩
        refine ⟨_, rfl, w.a, _, [], _, _, rfl, rfl, rfl, w.ml, _, [_, _], _, rfl, rfl, _, rfl, _, 0, _, .inr rfl, rfl, rfl, _, rfl, _, rfl, _, rfl, (show 5 ≤ 1000000 by decide), ?_⟩
        refine ⟨w.ml, mdV m, _, [_, _], _, rfl, rfl, rfl, by unfold mdV; rw [List.length_map]; omega, ?_⟩
        refine ⟨_, rfl, _, rfl, _, rfl, (show 2 ≤ 1000000 by decide), ?_⟩
        exact gat_loop (K := K) (w := w) (o := o) (pc := pc) (M0 := M0) n1 n2 [] f (m ++ [Part.div x (1/2) n1 n2]) (some (.d (.str n1))) (some (.d (.str n2))) none (by rw [mdV_app]; rfl) (Nat.zero_le _) (by rw [List.length_append, List.length_singleton]; simp only [List.length_nil]; omega) (fun ρ => ⟨_, Sub.refl _, qq⟩)
      | [n1], hf, _ => simp only [List.length_cons, List.length_nil] at hf; omega
      | [], hf, _ => simp only [List.length_cons, List.length_nil] at hf; omega
    | x :: y :: r, _, dk, hf, hm, qq =>
      simp only [List.length_cons] at hf hm
      refine ⟨_, rfl, .inl ⟨_, rfl, _, _, rfl, rfl, rfl, rfl, _, rfl, ?_⟩⟩
      refine iteB (fun z => ?_) (fun _ => ?_)
      · exfalso
        simp [PyData.eqv, strsD] at z
        omega
      · exact gat_loop (K := K) (w := w) (o := o) (pc := pc) (M0 := M0) x y r f m none none none rfl (by omega) (by omega) (fun ρ => ⟨_, Sub.refl _, qq⟩)

end
end LN
namespace LN
open PySem PySem.Spec PyProof.Rows L2 SlX

def gatAll : List Str → List Part → List (Str × List Str) → List Str × List Part
  | f, m, [] => (f, m)
  | f, m, (o, row) :: r => gatAll (gathM o f m row).1 (gathM o f m row).2 r
def GatOk : List Str → List Part → List (Str × List Str) → Prop
  | _, _, [] => True
  | f, m, (o, row) :: r => row ≠ [] ∧ row.length + 1 ≤ f.length ∧ m.length + row.length ≤ 90000 ∧ GatOk (gathM o f m row).1 (gathM o f m row).2 r
def b0M (T : Tab) : Bs := ⟨freeOf (outsT T), [], (outsT T).map fun o => (o, [])⟩
def b1M (T : Tab) : Bs := layGo (b0M T) "in" 0 T
def builtM (T : Tab) : List Part := if outsT T = [("in" : Str)] then [] else (gatAll (b1M T).free (b1M T).made (b1M T).pcs).2
/-- what a told table must hold for the builder -/
def BldOk (T : Tab) : Prop := T.length ≤ 1000 ∧ (∀ r ∈ T, r.2.length ≤ 1000) ∧ (namesOf T).length < 64 ∧ T.Ok ∧ (outsT T ≠ [("in" : Str)] → LgOk 0 T ∧ 2 * (namesOf T).length ≤ (freeOf (outsT T)).length ∧ GatOk (b1M T).free (b1M T).made (b1M T).pcs) ∧
  Valid (builtM T) ∧ (∀ p ∈ builtM T, p.NmOk ∧ p.TxOk) ∧ (builtM T).length ≤ 500
theorem to_tup {n : Nat} {ds : List PyData} (hl : ds.length ≤ 100000) (h : ∀ x ∈ ds, TO n x) : TO (n + 1) (.tuple ds) := .inr ⟨_, rfl, hl, h⟩
theorem to_tab {T : Tab} (hl : T.length ≤ 1000) (h2 : ∀ r ∈ T, r.2.length ≤ 1000) (ok : T.Ok) : TO 5 (tabD T) := by
  refine to_tup (by rw [List.length_map]; omega) fun x hx => ?_
  obtain ⟨r, hr, rfl⟩ := List.mem_map.mp hx
  refine to_tup (by show 2 ≤ 100000; decide) fun x hx => ?_
  simp only [List.mem_cons, List.not_mem_nil, or_false] at hx
  rcases hx with e | e <;> subst e
  · obtain ⟨u, s⟩ := r
    cases u with
    | none => exact to_leaf (.inl rfl)
    | some q => exact to_fr q
  · refine to_tup (by unfold itemsD; rw [List.length_map, List.length_map]; have := h2 r hr; omega) fun x hx => ?_
    unfold itemsD at hx
    rw [List.map_map] at hx
    obtain ⟨p, hp, rfl⟩ := List.mem_map.mp hx
    refine to_tup (by show 2 ≤ 100000; decide) fun x hx => ?_
    simp only [List.mem_cons, List.not_mem_nil, or_false] at hx
    rcases hx with e | e <;> subst e
    · exact to_str (ok r hr p hp)
    · exact to_fr _
theorem layGo_keys : ∀ (T : Tab) (b : Bs) (ch : Str) (bef : Rat), (layGo b ch bef T).pcs.map (·.1) = b.pcs.map (·.1)
  | [], _, _, _ => rfl
  | (none, s) :: T, b, ch, bef => by
    unfold layGo
    rw [layGo_keys T, partGo_keys]
  | (some u, s) :: T, b, ch, bef => by
    unfold layGo
    rw [layGo_keys T, partGo_keys]
theorem eqv_in {l : List Str} (h : ∀ n ∈ l, StrOk n) : PyData.eqv (.tuple (strsD l)) (.tuple [.str "in"]) = decide (l = [("in" : Str)]) := by
  refine eqv_dec (n := 1) (m := 1) (pl_tuple fun z hz => ?_) (pl_tuple fun z hz => ?_) ?_
  · obtain ⟨x, hx, rfl⟩ := List.mem_map.mp hz
    exact pl_str (h x hx)
  · rw [List.mem_singleton.mp hz]
    exact pl_str (by decide +kernel)
  · match l with
    | [] => simp [strsD]
    | [a] => simp [strsD]
    | a :: b :: r => simp [strsD]
theorem sub_hd {M : Sto} (L1 L2 : Sto) : Sub M (L1 ++ (L2 ++ M)) := ⟨L1 ++ L2, by rw [List.append_assoc]⟩

section
variable {P : Program} {w : World} {K : Frg} {mg : Str → Option Value} {base : Heap}

def R_nof (C : Addr) : AN := fun xs M Q => ∃ T : Tab, xs = [.d (tabD T)] ∧ BldOk T ∧ ∀ t : Str, Q (netV C (builtM T) t) M
abbrev N_net_of : List Str := ["table", "rows", "told", "outlet"]
theorem sc_net_of : FnScope N_net_of ["table"] (L2.defScope s_net_of) := ⟨rfl, rfl, rfl, by decide +kernel, rfl, by decide +kernel, by decide +kernel⟩
set_option maxHeartbeats 4000000 in
theorem kp_net_of (T : Tx K mg) (c_tupled : Kp P w K mg base 7 (He.ga K "tupled") ["value"] (R_tupled 5)) (c_Builder___init__ : Kp P w K mg base 3 (He.ma K (He.ga K "Builder") "__init__") ["self", "table"] (R_bini (He.ga K "Builder"))) (c_Net___init__ : Kp P w K mg base 6 (He.ma K (He.ga K "Net") "__init__") ["self", "parts"] (R_net (He.ga K "Net"))) (c_Builder_layered : Kp P w K mg base 5 (He.ma K (He.ga K "Builder") "layered") ["self", "table"] (R_lay (He.ga K "Builder"))) (c_Builder_gathered : Kp P w K mg base 2 (He.ma K (He.ga K "Builder") "gathered") ["self", "outlet"] (R_gat (He.ga K "Builder"))) : Kp P w K mg base 8 (He.ga K "net_of") ["table"] (R_nof (He.ga K "Net")) := by
  refine kp_n (k := 7) (T.def_ 40) sc_net_of (fun _ _ _ _ _ _ us hl => match us, hl with | [_], _ => rfl) (fun xs M Q h => ?len) (fun cdv A outer s H E hr => ⟨_, _, ⟨
    (pss_cons (ps_set (i := 1) sc_net_of.nd rfl (Or.inl rfl) (pe_def c_tupled (hr.mono (by decide)) (by rfl) (T.glo 1) (pa_cons (pv 0) pa_nil))) (pss_cons (ps_set (i := 2) sc_net_of.nd rfl (Or.inl rfl) (pe_mk (T.mk_Builder) c_Builder___init__ (hr.mono (by decide)) (by rfl) (T.glo 66) (pa_cons (pv 1) pa_nil))) (pss_cons (ps_if (pt_cmpR (op_eqD hr.units) (pe_fld (pv 2) rfl) (pe_tupS (pa_cons (pe_glob (v := .str "in") (by rfl) T.s_SOURCE_builds.choose_spec ⟨_, rfl⟩) pa_nil)) (nomark _)) (pss_one (ps_ret (pe_mk (T.mk_Net) c_Net___init__ (hr.mono (by decide)) (by rfl) (T.glo 67) (pa_cons (pe_tupS pa_nil) pa_nil)))) pss_nil) (pss_cons (ps_expr (pe_mt_ (pv 2) T.cls_Builder T.me_Builder_layered c_Builder_layered (hr.mono (by decide)) (pa_cons (pv 1) pa_nil))) (pss_cons (ps_for PassesOwn.never rfl (pi_tup (pe_fld (pv 2) rfl)) (pg_name (i := 3) sc_net_of.nd rfl (Or.inl rfl)) (pss_one (ps_expr (pe_mt_ (pv 2) T.cls_Builder T.me_Builder_gathered c_Builder_gathered (hr.mono (by decide)) (pa_cons (pv 3) pa_nil))))) (pss_one (ps_ret (pe_mk (T.mk_Net) c_Net___init__ (hr.mono (by decide)) (by rfl) (T.glo 67) (pa_cons (pe_callTy call_tupleS (by rfl) (T.free 69) boot_tuple (pa_cons (pe_fld (pv 2) rfl) pa_nil)) pa_nil))))))))),
    (ss_seq (ss_asg (se_call (sa_cons se_var sa_nil)) sg_nm) (ss_seq (ss_asg (se_make (sa_cons se_var sa_nil)) sg_nm) (ss_seq (ss_if (st_T (se_op s2_eq (se_fld T.cls_Builder T.no_Builder_own_outlets se_var) (se_tup (sa_cons se_str sa_nil)))) (ss_ret (se_makeSl (sa_cons (se_tup sa_nil) sa_nil))) ss_next) (ss_seq (ss_drop (se_meth se_var (sa_cons se_var sa_nil))) (ss_seq (ss_for (si_tup (se_fld T.cls_Builder T.no_Builder_own_outlets se_var)) sg_nm (ss_drop (se_meth se_var (sa_cons se_var sa_nil)))) (ss_ret (se_makeSl (sa_cons (se_cb sn_tuple (sa_cons (se_fld T.cls_Builder T.no_Builder_own_made se_var) sa_nil)) sa_nil))))))))⟩, fun xs M Qa h => ?body⟩)
  case len => obtain ⟨T, rfl, _⟩ := h; rfl
  case body =>
    obtain ⟨T, rfl, ⟨h1, h2, h3, h4, h5, h6, h7, h8⟩, qq⟩ := h
    refine ⟨_, rfl, tabD T, rfl, to_tab h1 h2 h4, ?_⟩
    refine ⟨_, rfl, fun x => ⟨x, T, M, rfl, rfl, h1, h2, h3, h4, fun w ew eo dk => ⟨rfl, ?_⟩⟩⟩
    obtain ⟨a, fl, ml, pd, outs, ad, dkk⟩ := w
    simp only at ew eo
    subst ew
    subst eo
    have ok : ∀ n ∈ outsT T, StrOk n := fun n hn => by
      unfold outsT at hn
      rw [setS_mem] at hn
      obtain ⟨r, hr, hn⟩ := List.mem_flatMap.mp hn
      obtain ⟨p, hp, rfl⟩ := List.mem_map.mp hn
      exact h4 r hr p hp
    refine ⟨_, rfl, a, _, [], _, _, rfl, rfl, rfl, _, rfl, (show 1 ≤ 1000000 by decide), _, _, rfl, rfl, sh_strs ok, by decide +kernel, _, rfl, ?_⟩
    show if PyData.eqv (.tuple (strsD (outsT T))) (.tuple [.str "in"]) = true then _ else _
    rw [eqv_in ok]
    refine iteB (fun z => ?_) (fun z => ?_)
    · have hin : outsT T = [("in" : Str)] := of_decide_eq_true z
      have hb : builtM T = [] := by unfold builtM; rw [if_pos hin]
      rw [hb] at qq h6 h7 h8
      refine ⟨_, rfl, (show 0 ≤ 1000000 by decide), fun x dx => ⟨x, dx, [], _, rfl, rfl, h6, h7, h8, fun t => ⟨rfl, _, _, rfl, by simp, M, sub_hd [_, _, _, _] _, qq t⟩⟩⟩
    · have hin : outsT T ≠ [("in" : Str)] := of_decide_eq_false z
      have hb : builtM T = (gatAll (b1M T).free (b1M T).made (b1M T).pcs).2 := by unfold builtM; rw [if_neg hin]
      obtain ⟨g1, g2, g3⟩ := h5 hin
      have ke : (b0M T).pcs.map (·.1) = outsT T := by
        show ((outsT T).map fun o => (o, ([] : List Str))).map (·.1) = _
        rw [List.map_map]
        exact List.map_id _
      refine ⟨_, rfl, a, _, [], _, rfl, rfl, rfl, _, rfl, ⟨a, fl, ml, pd, outsT T, ad, dkk⟩, b0M T, T, 0, M, rfl, rfl, dk, fun r hr p hp => ?_, g1, g2, ⟨Nat.le_refl _, fun p hp => ?_⟩, by omega, ?_⟩
      · rw [ke]
        unfold outsT
        rw [setS_mem]
        exact List.mem_flatMap.mpr ⟨r, hr, List.mem_map.mpr ⟨p, hp, rfl⟩⟩
      · obtain ⟨o, _, rfl⟩ := List.mem_map.mp hp
        exact Nat.le_refl _
      · refine ⟨_, rfl, a, _, [], _, _, rfl, rfl, rfl, _, rfl, ?_⟩
        have kb : (b1M T).pcs.map (·.1) = outsT T := by unfold b1M; rw [layGo_keys]; exact ke
        refine ⟨fun rest ρ M' => ∃ (f : List Str) (m : List Part) (pcs : List (Str × List Str)) (u : Option Va), rest = (strsD (pcs.map (·.1))).map .d ∧ ρ = [some (.d (tabD T)), some (.d (tabD T)), some (.m a), u] ∧ M' = bM (He.ga K "Builder") ⟨a, fl, ml, pd, outsT T, ad, dkk⟩ ⟨f, m, pcs⟩ M ∧ GatOk f m pcs ∧ DkOk ⟨a, fl, ml, pd, outsT T, ad, dkk⟩ pcs ∧ (gatAll f m pcs).2 = builtM T,
          ⟨(b1M T).free, (b1M T).made, (b1M T).pcs, none, by rw [kb], rfl, rfl, g3, dk_keys dk (by rw [kb]; exact ke.symm), hb.symm⟩, ?_, ?_⟩
        · rintro d r ρ M' ⟨f, m, pcs, u, e1, rfl, rfl, go, dk', e2⟩
          match pcs, e1, go, dk', e2 with
          | (o, row) :: pcs, e1, ⟨k1, k2, k3, k4⟩, dk', e2 =>
            injection e1 with e3 e4
            subst e3
            refine ⟨_, rfl, a, _, [], _, rfl, rfl, rfl, _, rfl, ⟨a, fl, ml, pd, outsT T, ad, dkk⟩, f, m, o, row, pcs, M, rfl, rfl, dk', k1, k2, k3, ?_⟩
            exact ⟨_, _, pcs, _, e4, rfl, rfl, k4, fun x hx => dk' x (List.mem_cons_of_mem _ hx), e2⟩
        · rintro ρ M' ⟨f, m, pcs, u, e1, rfl, rfl, go, dk', e2⟩
          match pcs, e1, e2 with
          | [], _, e2 =>
            have e2 : m = builtM T := e2
            subst e2
            have dm : dats (mdV (builtM T)) = some ((builtM T).map partD) := by
              unfold mdV
              have := dats_map ((builtM T).map partD)
              rw [List.map_map] at this
              exact this
            refine ⟨_, rfl, a, _, [], _, _, rfl, rfl, rfl, .inr (.inr ⟨ml, _, _, [_, _], _, rfl, rfl, dm, ?_⟩)⟩
            refine fun x dx => ⟨x, dx, builtM T, _, rfl, rfl, h6, h7, h8, fun t => ⟨rfl, _, _, rfl, by simp, M, sub_hd [_, _, _, _] [], qq t⟩⟩

def R_lean (C : Addr) : AN := fun xs M Q => ∃ ps txt, xs = [netV C ps txt] ∧ TabNet ps ∧ BldOk (tableM ps) ∧ ∀ t : Str, Q (netV C (builtM (tableM ps)) t) M
abbrev N_leanest : List Str := ["net"]
theorem sc_leanest : FnScope N_leanest ["net"] (L2.defScope s_leanest) := ⟨rfl, rfl, rfl, by decide +kernel, rfl, by decide +kernel, by decide +kernel⟩
set_option maxHeartbeats 4000000 in
theorem kp_leanest (T : Tx K mg) (c_table_of : Kp P w K mg base 8 (He.ga K "table_of") ["net"] (R_tabl (He.ga K "Net"))) (c_net_of : Kp P w K mg base 8 (He.ga K "net_of") ["table"] (R_nof (He.ga K "Net"))) : Kp P w K mg base 9 (He.ga K "leanest") ["net"] (R_lean (He.ga K "Net")) := by
  refine kp_n (k := 8) (T.def_ 41) sc_leanest (fun _ _ _ _ _ _ us hl => match us, hl with | [_], _ => rfl) (fun xs M Q h => ?len) (fun cdv A outer s H E hr => ⟨_, _, ⟨
    (pss_one (ps_ret (pe_def c_net_of (hr.mono (by decide)) (by rfl) (T.glo 26) (pa_cons (pe_def c_table_of (hr.mono (by decide)) (by rfl) (T.glo 14) (pa_cons (pv 0) pa_nil)) pa_nil)))),
    (ss_ret (se_call (sa_cons (se_call (sa_cons se_var sa_nil)) sa_nil)))⟩, fun xs M Qa h => ?body⟩)
  case len => obtain ⟨ps, txt, rfl, _⟩ := h; rfl
  case body =>
    obtain ⟨ps, txt, rfl, h1, h2, qq⟩ := h
    exact ⟨_, rfl, ps, txt, rfl, h1, tableM ps, rfl, h2, fun t => ⟨_, Sub.refl _, qq t⟩⟩

end
end LN
namespace LN
open PySem PySem.Spec PyProof.Rows L2 SlX

/-- the box of a script's cell: what is left of it, its seed, its count -/
abbrev bxM (a : Addr) (x y c : Nat) : Addr × MO := (a, .lst [.d (.int (x : Int)), .d (.int (y : Int)), .d (.int (c : Int))])
theorem mw {i j : Int} (hi : 0 ≤ i ∧ i < 1267650600228229401496703205376) (hj : 0 ≤ j ∧ j < 1267650600228229401496703205376) : CMulW i j := mulW (Nat.lt_trans (show i.natAbs < 2 ^ 100 by omega) (Nat.pow_lt_pow_right (by decide) (by decide))) (Nat.lt_trans (show j.natAbs < 2 ^ 100 by omega) (Nat.pow_lt_pow_right (by decide) (by decide)))
theorem modB (v : Int) {m : Int} (h : 0 < m) : 0 ≤ v % m ∧ v % m < m := ⟨Int.emod_nonneg _ (by omega), Int.emod_lt_of_pos _ h⟩

section
variable {P : Program} {w : World} {K : Frg} {mg : Str → Option Value} {base : Heap}

def R_draw : AN := fun xs M Q => ∃ (a : Addr) (x y c n : Nat) (M1 M2 : Sto), xs = [.m a, .d (.int (n : Int))] ∧ M = M1 ++ bxM a x y c :: M2 ∧ 0 < n ∧ n < 2 ^ 64 ∧ y < 2 ^ 64 ∧ c < 2 ^ 64 ∧ ∀ d x' c' : Nat, d < n → x' ≤ x → c' ≤ c + 1 → Q (.d (.int (d : Int))) (M1 ++ bxM a x' y c' :: M2)
abbrev N__law_take : List Str := ["_law_box_here", "_law_size_so", "_law_drawn_so", "_law_once", "_law_far", "_law_again"]
theorem sc__law_take : FnScope N__law_take ["_law_box_here", "_law_size_so"] (L2.defScope s__law_take) := ⟨rfl, rfl, rfl, by decide +kernel, rfl, by decide +kernel, by decide +kernel⟩
set_option maxHeartbeats 4000000 in
theorem kp__law_take (T : Tx K mg) : Kp P w K mg base 1 (He.ga K "_law_take") ["_law_box_here", "_law_size_so"] R_draw := by
  refine kp_n (k := 0) (T.def_ 45) sc__law_take (fun _ _ _ _ _ _ us hl => match us, hl with | [_, _], _ => rfl) (fun xs M Q h => ?len) (fun cdv A outer s H E hr => ⟨_, _, ⟨
    (pss_cons (ps_if (pt_cmpR op_gt (pe_ix ix_seq (pv 0) pe_int (fun _ _ => rfl)) pe_int (nomark _)) (pss_cons (ps_set (i := 2) sc__law_take.nd rfl (Or.inl rfl) (pe_op op_mod (pe_callTy call_int1 (by rfl) (T.free 78) (by decide +kernel) (pa_cons (pe_ix ix_seq (pv 0) pe_int (fun _ _ => rfl)) pa_nil)) (pv 1))) (pss_cons (ps_asg (pe_op op_fdivW (pe_ix ix_seq (pv 0) pe_int (fun _ _ => rfl)) (pv 1)) (pg_sub (pv 0) pe_int set_list)) (pss_one (ps_ret (pv 2))))) pss_nil) (pss_cons (ps_asg (pe_op op_add (pe_ix ix_seq (pv 0) pe_int (fun _ _ => rfl)) pe_int) (pg_sub (pv 0) pe_int set_list)) (pss_cons (ps_set (i := 3) sc__law_take.nd rfl (Or.inl rfl) (pe_op op_mod (pe_callTy call_int1 (by rfl) (T.free 78) (by decide +kernel) (pa_cons (pe_op op_mulW (pe_op op_add (pe_ix ix_seq (pv 0) pe_int (fun _ _ => rfl)) (pe_op op_mulW pe_int (pe_ix ix_seq (pv 0) pe_int (fun _ _ => rfl)))) (pe_op op_add pe_int (pe_ix ix_seq (pv 0) pe_int (fun _ _ => rfl)))) pa_nil)) pe_int)) (pss_cons (ps_set (i := 4) sc__law_take.nd rfl (Or.inl rfl) (pe_op op_add (pe_op op_mod (pe_callTy call_int1 (by rfl) (T.free 78) (by decide +kernel) (pa_cons (pv 3) pa_nil)) pe_int) pe_int)) (pss_cons (ps_set (i := 5) sc__law_take.nd rfl (Or.inl rfl) (pe_op op_mod (pe_callTy call_int1 (by rfl) (T.free 78) (by decide +kernel) (pa_cons (pe_op op_mulW (pe_op op_add (pe_op op_add (pv 3) (pe_ix ix_seq (pv 0) pe_int (fun _ _ => rfl))) (pe_op op_fdivW (pe_ix ix_seq (pv 0) pe_int (fun _ _ => rfl)) pe_int)) (pv 4)) pa_nil)) pe_int)) (pss_one (ps_ret (pe_op op_mod (pe_callTy call_int1 (by rfl) (T.free 78) (by decide +kernel) (pa_cons (pe_op op_fdivW (pe_op op_mod (pe_callTy call_int1 (by rfl) (T.free 78) (by decide +kernel) (pa_cons (pe_op op_add (pe_op op_mulW (pv 5) pe_int) (pv 3)) pa_nil)) pe_int) pe_int) pa_nil)) (pv 1))))))))),
    (ss_seq (ss_if (st_T (se_op s2_B0 (se_op s2_ixM se_var se_int) se_int)) (ss_seq (ss_asg (se_op s2_I (se_cb sn_int (sa_cons (se_op s2_ixM se_var se_int) sa_nil)) se_var) sg_nm) (ss_seq (ss_asg (se_op s2_I (se_op s2_ixM se_var se_int) se_var) (sg_ls se_var se_int)) (ss_ret se_var))) ss_next) (ss_seq (ss_asg (se_op s2_I0 (se_op s2_ixM se_var se_int) se_int) (sg_ls se_var se_int)) (ss_seq (ss_asg (se_op s2_I (se_cb sn_int (sa_cons (se_op s2_I (se_op s2_I0 (se_op s2_ixM se_var se_int) (se_op s2_I se_int (se_op s2_ixM se_var se_int))) (se_op s2_I0 se_int (se_op s2_ixM se_var se_int))) sa_nil)) se_int) sg_nm) (ss_seq (ss_asg (se_op s2_I0 (se_op s2_I (se_cb sn_int (sa_cons se_var sa_nil)) se_int) se_int) sg_nm) (ss_seq (ss_asg (se_op s2_I (se_cb sn_int (sa_cons (se_op s2_I (se_op s2_I0 (se_op s2_I0 se_var (se_op s2_ixM se_var se_int)) (se_op s2_I (se_op s2_ixM se_var se_int) se_int)) se_var) sa_nil)) se_int) sg_nm) (ss_ret (se_op s2_I (se_cb sn_int (sa_cons (se_op s2_I (se_op s2_I (se_cb sn_int (sa_cons (se_op s2_I0 (se_op s2_I se_var se_int) se_var) sa_nil)) se_int) se_int) sa_nil)) se_var)))))))⟩, fun xs M Qa h => ?body⟩)
  case len => obtain ⟨a, x, y, c, n, M1, M2, rfl, _⟩ := h; rfl
  case body =>
    obtain ⟨a, x, y, c, n, M1, M2, rfl, rfl, n0, n1, y1, c1, qq⟩ := h
    refine ⟨_, rfl, a, _, 0, _, M1, M2, rfl, rfl, rfl, rfl, _, _, rfl, rfl, _, rfl, ?_⟩
    have hn : (0 : Int) < (n : Int) := by omega
    have dv : ∀ (z : Nat) (m : Int), z < 2 ^ 8000 → CDivW (z : Int) m → CDivW (z : Int) m := fun _ _ _ h => h
    refine iteB (fun _ => ?_) (fun _ => ?_)
    · refine ⟨_, rfl, a, _, 0, _, M1, M2, rfl, rfl, rfl, rfl, .inl ⟨_, rfl, _, rfl, _, _, rfl, rfl, hn, ?_⟩⟩
      refine ⟨_, rfl, a, _, 0, _, M1, M2, rfl, rfl, rfl, rfl, _, rfl, _, _, rfl, rfl, ?_, ?_⟩
      · exact ⟨hn, Nat.lt_trans (log2_lt (show (n : Int).natAbs < 2 ^ 64 from n1) (by decide)) (by decide)⟩
      · refine ⟨_, rfl, a, _, 0, 0, M1, M2, rfl, rfl, rfl, rfl, _, rfl, _, Sub.refl _, qq (x % n) (x / n) c (Nat.mod_lt _ n0) (Nat.div_le_self _ _) (by omega)⟩
    · refine ⟨_, rfl, a, _, 2, _, M1, M2, rfl, rfl, rfl, atI_nat _ 2 _ rfl, _, _, rfl, rfl, ?_⟩
      refine ⟨_, rfl, a, _, 2, 2, M1, M2, rfl, rfl, rfl, rfl, ?_⟩
      have cc : ((c : Int) + 1) = ((c + 1 : Nat) : Int) := rfl
      refine ⟨_, rfl, a, _, 1, _, M1, M2, rfl, rfl, rfl, atI_nat _ 1 _ rfl, ?_⟩
      refine ⟨_, rfl, a, _, 2, _, M1, M2, rfl, rfl, rfl, atI_nat _ 2 _ rfl, _, _, rfl, rfl, mw (by omega) (by omega), ?_⟩
      refine ⟨_, _, rfl, rfl, ?_⟩
      refine ⟨_, rfl, a, _, 2, _, M1, M2, rfl, rfl, rfl, atI_nat _ 2 _ rfl, _, _, rfl, rfl, ?_⟩
      refine ⟨_, _, rfl, rfl, mw (by omega) (by omega), .inl ⟨_, rfl, _, _, rfl, rfl, (show (0 : Int) < 2147483647 by decide), ?_⟩⟩
      generalize hv : (((y : Int) + 48271 * ((c : Int) + 1)) * (39373 + ((c : Int) + 1))) % 2147483647 = v
      have bv : 0 ≤ v ∧ v < 2147483647 := by rw [← hv]; exact modB _ (by decide)
      refine ⟨_, rfl, .inl ⟨_, rfl, _, _, rfl, rfl, (show (0 : Int) < 40009 by decide), _, _, rfl, rfl, ?_⟩⟩
      have bf := modB v (m := 40009) (by decide)
      generalize hf : v % 40009 = f at bf
      have by_ : 0 ≤ (y : Int) / 1000003 ∧ (y : Int) / 1000003 < 18446744073709551616 := by omega
      refine ⟨_, rfl, _, rfl, a, _, 2, _, M1, M2, rfl, rfl, rfl, atI_nat _ 2 _ rfl, _, _, rfl, rfl, ?_⟩
      refine ⟨_, rfl, a, _, 1, _, M1, M2, rfl, rfl, rfl, atI_nat _ 1 _ rfl, _, _, rfl, rfl, ⟨by decide, by decide +kernel⟩, _, _, rfl, rfl, ?_⟩
      refine ⟨_, rfl, _, _, rfl, rfl, mw (by omega) (by omega), .inl ⟨_, rfl, _, _, rfl, rfl, (show (0 : Int) < 2147483629 by decide), ?_⟩⟩
      generalize hu : ((v + ((c : Int) + 1) + (y : Int) / 1000003) * (f + 7)) % 2147483629 = u
      have bu : 0 ≤ u ∧ u < 2147483629 := by rw [← hu]; exact modB _ (by decide)
      refine ⟨_, rfl, _, _, rfl, rfl, mw (by omega) (by omega), _, rfl, _, _, rfl, rfl, .inl ⟨_, rfl, _, _, rfl, rfl, (show (0 : Int) < 2147483587 by decide), _, _, rfl, rfl, ⟨by decide, by decide +kernel⟩, .inl ⟨_, rfl, _, rfl, _, _, rfl, rfl, hn, _, Sub.refl _, ?_⟩⟩⟩
      have fin : ∀ z : Int, Qa (.d (.int (z % (n : Int)))) (M1 ++ bxM a x y (c + 1) :: M2) := fun z => by
        have bz := modB z hn
        have ez : z % (n : Int) = ((z % (n : Int)).toNat : Int) := (Int.toNat_of_nonneg bz.1).symm
        rw [ez]
        exact qq (z % (n : Int)).toNat x (c + 1) (by omega) (Nat.le_refl _) (Nat.le_refl _)
      exact fin _

end
end LN
namespace LN
open PySem PySem.Spec PyProof.Rows L2 SlX

section
variable {P : Program} {w : World} {K : Frg} {mg : Str → Option Value} {base : Heap}

def R_lfrac : AN := fun xs M Q => ∃ t b : Nat, xs = [.d (.int (t : Int)), .d (.int (b : Int))] ∧ 0 < b ∧ b < 2 ^ 8500 ∧ t < 2 ^ 8500 ∧ Q (.d (fr (mkRat (t : Int) b))) M
abbrev N__law_frac : List Str := ["_law_top_so", "_law_low_so", "_law_one_so", "_law_two_so", "_law_sign_so"]
theorem sc__law_frac : FnScope N__law_frac ["_law_top_so", "_law_low_so"] (L2.defScope s__law_frac) := ⟨rfl, rfl, rfl, by decide +kernel, rfl, by decide +kernel, by decide +kernel⟩
set_option maxHeartbeats 4000000 in
theorem kp__law_frac (T : Tx K mg) : Kp P w K mg base 1 (He.ga K "_law_frac") ["_law_top_so", "_law_low_so"] R_lfrac := by
  refine kp_n (k := 0) (T.def_ 49) sc__law_frac (fun _ _ _ _ _ _ us hl => match us, hl with | [_, _], _ => rfl) (fun xs M Q h => ?len) (fun cdv A outer s H E hr => ⟨_, _, ⟨
    (pss_cons (ps_par (i := 2) (j := 3) rfl sc__law_frac.nd rfl rfl (by decide) rfl rfl (pa_cons (pe_callB call_abs (by rfl) (T.free 77) (by decide +kernel) (pa_cons (pv 0) pa_nil)) (pa_cons (pe_callB call_abs (by rfl) (T.free 77) (by decide +kernel) (pa_cons (pv 1) pa_nil)) pa_nil)) rfl) (pss_cons (ps_while PassesOwn.never (pt_cmpR (op_neD hr.units) (pv 3) pe_int (nomark _)) (pss_one (ps_par (i := 2) (j := 3) rfl sc__law_frac.nd rfl rfl (by decide) rfl rfl (pa_cons (pv 3) (pa_cons (pe_op op_mod (pv 2) (pv 3)) pa_nil)) rfl))) (pss_cons (ps_set (i := 4) sc__law_frac.nd rfl (Or.inl rfl) (pe_ifExp (pt_cmpR op_gt (pv 1) pe_int (nomark _)) pe_int (pe_un un_neg pe_int))) (pss_one (ps_ret (pe_tupS (pa_cons (pe_op op_fdivW (pe_op op_mulW (pv 4) (pv 0)) (pv 2)) (pa_cons (pe_op op_fdivW (pe_op op_mulW (pv 4) (pv 1)) (pv 2)) pa_nil)))))))),
    (ss_seq (ss_par (sa_cons (se_cb sn_abs (sa_cons se_var sa_nil)) (sa_cons (se_cb sn_abs (sa_cons se_var sa_nil)) sa_nil))) (ss_seq (ss_while (st_T (se_op s2_ne se_var se_int)) (ss_par (sa_cons se_var (sa_cons (se_op s2_I se_var se_var) sa_nil)))) (ss_seq (ss_asg (se_if (st_T (se_op s2_B0 se_var se_int)) se_int (se_un s1_neg se_int)) sg_nm) (ss_ret (se_tup (sa_cons (se_op s2_I (se_op s2_I se_var se_var) se_var) (sa_cons (se_op s2_I (se_op s2_I se_var se_var) se_var) sa_nil)))))))⟩, fun xs M Qa h => ?body⟩)
  case len => obtain ⟨t, b, rfl, _⟩ := h; rfl
  case body =>
    obtain ⟨t, b, rfl, hb, hz, ht, q⟩ := h
    have hg : 0 < Nat.gcd t b := Nat.gcd_pos_of_pos_right _ hb
    have hgb : Nat.gcd t b ≤ b := Nat.gcd_le_right _ hb
    refine ⟨_, rfl, _, rfl, _, rfl, _, rfl, _, _, rfl, ?_⟩
    refine ⟨fun m ρ M' => M' = M ∧ ∃ a' b' : Nat, ρ = [some (.d (.int (t : Int))), some (.d (.int (b : Int))), some (.d (.int (a' : Int))), some (.d (.int (b' : Int))), none] ∧ Nat.gcd a' b' = Nat.gcd t b ∧ m = b', ⟨b, rfl, t, b, rfl, rfl, rfl⟩, ?_⟩
    rintro m ρ M' ⟨rfl, a', b', rfl, hc, rfl⟩
    refine ⟨_, rfl, _, _, rfl, rfl, rfl, rfl, _, rfl, ?_⟩
    refine iteB (fun e => ?_) (fun e => ?_)
    · rw [eqv_int] at e
      have e2 : ¬ ((m : Int) = 0) := by simpa using e
      refine ⟨_, rfl, _, rfl, _, rfl, _, _, rfl, rfl, by omega, _, _, rfl, m % 1 + a' % m, by have := Nat.mod_lt a' (show 0 < m by omega); omega, rfl, m, a' % m, ?_, ?_, by omega⟩
      · rfl
      · rw [Nat.gcd_comm m, ← Nat.gcd_rec, Nat.gcd_comm]; exact hc
    · rw [eqv_int] at e
      have e2 : (m : Int) = 0 := by simpa using e
      have e3 : m = 0 := by omega
      subst e3
      rw [Nat.gcd_zero_right] at hc
      subst hc
      refine ⟨_, rfl, _, _, rfl, rfl, _, rfl, iteB (fun _ => ?_) (fun e => ?_)⟩
      · have m1 : CMulW 1 (t : Int) := mulW (by decide +kernel) (by rw [Int.natAbs_natCast]; exact ht)
        have m2 : CMulW 1 (b : Int) := mulW (by decide +kernel) (by rw [Int.natAbs_natCast]; exact hz)
        refine ⟨_, rfl, _, rfl, _, _, rfl, rfl, m1, _, rfl, _, _, rfl, rfl, divW (by omega) (by rw [Int.natAbs_natCast]; omega), _, rfl, _, rfl, _, _, rfl, rfl, m2, _, rfl, _, _, rfl, rfl, divW (by omega) (by rw [Int.natAbs_natCast]; omega), _, rfl, (show 2 ≤ 1000000 by decide), M', Sub.refl _, ?_⟩
        obtain ⟨e1, e2⟩ := gcd_of_mk (t := t) hb
        unfold fr at q
        rw [e1, e2] at q
        rw [Int.one_mul, Int.one_mul]
        exact q
      · have := of_decide_eq_false e
        omega


theorem sum85 {a b : Nat} (h1 : a < 2 ^ 8000) (h2 : b < 2 ^ 8000) : a + b < 2 ^ 8500 := Nat.lt_of_lt_of_le (Nat.add_lt_add h1 h2) (by decide +kernel)

def R_lplus : AN := fun xs M Q => ∃ a b : Rat, xs = [.d (fr a), .d (fr b)] ∧ Fit a ∧ Fit b ∧  Q (.d (fr (a + b))) M
abbrev N__law_plus : List Str := ["_law_a_so", "_law_b_so"]
theorem sc__law_plus : FnScope N__law_plus ["_law_a_so", "_law_b_so"] (L2.defScope s__law_plus) := ⟨rfl, rfl, rfl, by decide +kernel, rfl, by decide +kernel, by decide +kernel⟩
set_option maxHeartbeats 4000000 in
theorem kp__law_plus (T : Tx K mg) (c__law_frac : Kp P w K mg base 1 (He.ga K "_law_frac") ["_law_top_so", "_law_low_so"] R_lfrac) : Kp P w K mg base 2 (He.ga K "_law_plus") ["_law_a_so", "_law_b_so"] R_lplus := by
  refine kp_n (k := 1) (T.def_ 50) sc__law_plus (fun _ _ _ _ _ _ us hl => match us, hl with | [_, _], _ => rfl) (fun xs M Q h => ?len) (fun cdv A outer s H E hr => ⟨_, _, ⟨
    (pss_one (ps_ret (pe_def c__law_frac (hr.mono (by decide)) (by rfl) (T.glo 35) (pa_cons (pe_op op_add (pe_op op_mulW (pe_ix ix_seq (pv 0) pe_int (fun _ _ => rfl)) (pe_ix ix_seq (pv 1) pe_int (fun _ _ => rfl))) (pe_op op_mulW (pe_ix ix_seq (pv 1) pe_int (fun _ _ => rfl)) (pe_ix ix_seq (pv 0) pe_int (fun _ _ => rfl)))) (pa_cons (pe_op op_mulW (pe_ix ix_seq (pv 0) pe_int (fun _ _ => rfl)) (pe_ix ix_seq (pv 1) pe_int (fun _ _ => rfl))) pa_nil))))),
    (ss_ret (se_call (sa_cons (se_op s2_I0 (se_op s2_I (se_op s2_ix se_var se_int) (se_op s2_ix se_var se_int)) (se_op s2_I (se_op s2_ix se_var se_int) (se_op s2_ix se_var se_int))) (sa_cons (se_op s2_I (se_op s2_ix se_var se_int) (se_op s2_ix se_var se_int)) sa_nil))))⟩, fun xs M Qa h => ?body⟩)
  case len => obtain ⟨a, b, rfl, _⟩ := h; rfl
  case body =>
    obtain ⟨a, b, rfl, ha, hb, q⟩ := h
    obtain ⟨n, hn, ln⟩ := fit_num ha
    obtain ⟨m, hm, lm⟩ := fit_num hb
    obtain ⟨da, la⟩ := den_lt ha
    obtain ⟨db, lb⟩ := den_lt hb
    have z1 : (a.num).natAbs < 2 ^ 8500 := fit_lt (by rw [hn]; exact ln)
    have z2 : (b.num).natAbs < 2 ^ 8500 := fit_lt (by rw [hm]; exact lm)
    have z3 : ((a.den : Int)).natAbs < 2 ^ 8500 := fit_lt (by exact la)
    have z4 : ((b.den : Int)).natAbs < 2 ^ 8500 := fit_lt (by exact lb)

    rw [mk_add hn hm] at q
    refine ⟨_, rfl, _, 0, _, .inl rfl, rfl, rfl, _, rfl, _, 1, _, .inl rfl, rfl, rfl, _, _, rfl, rfl, mulW z1 z4, _, rfl, _, 0, _, .inl rfl, rfl, rfl, _, rfl, _, 1, _, .inl rfl, rfl, rfl, _, _, rfl, rfl, mulW z2 z3, _, _, rfl, rfl, _, rfl, _, 1, _, .inl rfl, rfl, rfl, _, rfl, _, 1, _, .inl rfl, rfl, rfl, _, _, rfl, rfl, mulW z3 z4, n * b.den + m * a.den, a.den * b.den, ?_, Nat.mul_pos da db, lt85 (fit_mul la lb), sum85 (fit_mul ln lb) (fit_mul lm la), M, Sub.refl _, q⟩
    rw [hn, hm]; simp

def R_lminus : AN := fun xs M Q => ∃ a b : Rat, xs = [.d (fr a), .d (fr b)] ∧ Fit a ∧ Fit b ∧ b ≤ a ∧  Q (.d (fr (a - b))) M
abbrev N__law_minus : List Str := ["_law_a_so", "_law_b_so"]
theorem sc__law_minus : FnScope N__law_minus ["_law_a_so", "_law_b_so"] (L2.defScope s__law_minus) := ⟨rfl, rfl, rfl, by decide +kernel, rfl, by decide +kernel, by decide +kernel⟩
set_option maxHeartbeats 4000000 in
theorem kp__law_minus (T : Tx K mg) (c__law_frac : Kp P w K mg base 1 (He.ga K "_law_frac") ["_law_top_so", "_law_low_so"] R_lfrac) : Kp P w K mg base 2 (He.ga K "_law_minus") ["_law_a_so", "_law_b_so"] R_lminus := by
  refine kp_n (k := 1) (T.def_ 51) sc__law_minus (fun _ _ _ _ _ _ us hl => match us, hl with | [_, _], _ => rfl) (fun xs M Q h => ?len) (fun cdv A outer s H E hr => ⟨_, _, ⟨
    (pss_one (ps_ret (pe_def c__law_frac (hr.mono (by decide)) (by rfl) (T.glo 35) (pa_cons (pe_op op_sub (pe_op op_mulW (pe_ix ix_seq (pv 0) pe_int (fun _ _ => rfl)) (pe_ix ix_seq (pv 1) pe_int (fun _ _ => rfl))) (pe_op op_mulW (pe_ix ix_seq (pv 1) pe_int (fun _ _ => rfl)) (pe_ix ix_seq (pv 0) pe_int (fun _ _ => rfl)))) (pa_cons (pe_op op_mulW (pe_ix ix_seq (pv 0) pe_int (fun _ _ => rfl)) (pe_ix ix_seq (pv 1) pe_int (fun _ _ => rfl))) pa_nil))))),
    (ss_ret (se_call (sa_cons (se_op s2_I0 (se_op s2_I (se_op s2_ix se_var se_int) (se_op s2_ix se_var se_int)) (se_op s2_I (se_op s2_ix se_var se_int) (se_op s2_ix se_var se_int))) (sa_cons (se_op s2_I (se_op s2_ix se_var se_int) (se_op s2_ix se_var se_int)) sa_nil))))⟩, fun xs M Qa h => ?body⟩)
  case len => obtain ⟨a, b, rfl, _⟩ := h; rfl
  case body =>
    obtain ⟨a, b, rfl, ha, hb, hle, q⟩ := h
    obtain ⟨n, hn, ln⟩ := fit_num ha
    obtain ⟨m, hm, lm⟩ := fit_num hb
    obtain ⟨da, la⟩ := den_lt ha
    obtain ⟨db, lb⟩ := den_lt hb
    have z1 : (a.num).natAbs < 2 ^ 8500 := fit_lt (by rw [hn]; exact ln)
    have z2 : (b.num).natAbs < 2 ^ 8500 := fit_lt (by rw [hm]; exact lm)
    have z3 : ((a.den : Int)).natAbs < 2 ^ 8500 := fit_lt (by exact la)
    have z4 : ((b.den : Int)).natAbs < 2 ^ 8500 := fit_lt (by exact lb)

    obtain ⟨hs, e⟩ := mk_sub hn hm hle
    rw [e] at q
    refine ⟨_, rfl, _, 0, _, .inl rfl, rfl, rfl, _, rfl, _, 1, _, .inl rfl, rfl, rfl, _, _, rfl, rfl, mulW z1 z4, _, rfl, _, 0, _, .inl rfl, rfl, rfl, _, rfl, _, 1, _, .inl rfl, rfl, rfl, _, _, rfl, rfl, mulW z2 z3, _, _, rfl, rfl, _, rfl, _, 1, _, .inl rfl, rfl, rfl, _, rfl, _, 1, _, .inl rfl, rfl, rfl, _, _, rfl, rfl, mulW z3 z4, n * b.den - m * a.den, a.den * b.den, ?_, Nat.mul_pos da db, lt85 (fit_mul la lb), Nat.lt_of_le_of_lt (Nat.sub_le _ _) (lt85 (fit_mul ln lb)), M, Sub.refl _, q⟩
    rw [hn, hm, Int.ofNat_sub hs]; simp

def R_lmul : AN := fun xs M Q => ∃ a b : Rat, xs = [.d (fr a), .d (fr b)] ∧ Fit a ∧ Fit b ∧  Q (.d (fr (a * b))) M
abbrev N__law_mul : List Str := ["_law_a_so", "_law_b_so"]
theorem sc__law_mul : FnScope N__law_mul ["_law_a_so", "_law_b_so"] (L2.defScope s__law_mul) := ⟨rfl, rfl, rfl, by decide +kernel, rfl, by decide +kernel, by decide +kernel⟩
set_option maxHeartbeats 4000000 in
theorem kp__law_mul (T : Tx K mg) (c__law_frac : Kp P w K mg base 1 (He.ga K "_law_frac") ["_law_top_so", "_law_low_so"] R_lfrac) : Kp P w K mg base 2 (He.ga K "_law_mul") ["_law_a_so", "_law_b_so"] R_lmul := by
  refine kp_n (k := 1) (T.def_ 52) sc__law_mul (fun _ _ _ _ _ _ us hl => match us, hl with | [_, _], _ => rfl) (fun xs M Q h => ?len) (fun cdv A outer s H E hr => ⟨_, _, ⟨
    (pss_one (ps_ret (pe_def c__law_frac (hr.mono (by decide)) (by rfl) (T.glo 35) (pa_cons (pe_op op_mulW (pe_ix ix_seq (pv 0) pe_int (fun _ _ => rfl)) (pe_ix ix_seq (pv 1) pe_int (fun _ _ => rfl))) (pa_cons (pe_op op_mulW (pe_ix ix_seq (pv 0) pe_int (fun _ _ => rfl)) (pe_ix ix_seq (pv 1) pe_int (fun _ _ => rfl))) pa_nil))))),
    (ss_ret (se_call (sa_cons (se_op s2_I (se_op s2_ix se_var se_int) (se_op s2_ix se_var se_int)) (sa_cons (se_op s2_I (se_op s2_ix se_var se_int) (se_op s2_ix se_var se_int)) sa_nil))))⟩, fun xs M Qa h => ?body⟩)
  case len => obtain ⟨a, b, rfl, _⟩ := h; rfl
  case body =>
    obtain ⟨a, b, rfl, ha, hb, q⟩ := h
    obtain ⟨n, hn, ln⟩ := fit_num ha
    obtain ⟨m, hm, lm⟩ := fit_num hb
    obtain ⟨da, la⟩ := den_lt ha
    obtain ⟨db, lb⟩ := den_lt hb
    have z1 : (a.num).natAbs < 2 ^ 8500 := fit_lt (by rw [hn]; exact ln)
    have z2 : (b.num).natAbs < 2 ^ 8500 := fit_lt (by rw [hm]; exact lm)
    have z3 : ((a.den : Int)).natAbs < 2 ^ 8500 := fit_lt (by exact la)
    have z4 : ((b.den : Int)).natAbs < 2 ^ 8500 := fit_lt (by exact lb)

    rw [mk_mul hn hm] at q
    refine ⟨_, rfl, _, 0, _, .inl rfl, rfl, rfl, _, rfl, _, 0, _, .inl rfl, rfl, rfl, _, _, rfl, rfl, mulW z1 z2, _, rfl, _, 1, _, .inl rfl, rfl, rfl, _, rfl, _, 1, _, .inl rfl, rfl, rfl, _, _, rfl, rfl, mulW z3 z4, n * m, a.den * b.den, ?_, Nat.mul_pos da db, lt85 (fit_mul la lb), lt85 (fit_mul ln lm), M, Sub.refl _, q⟩
    rw [hn, hm]; simp

def R_lless : AN := fun xs M Q => ∃ a b : Rat, xs = [.d (fr a), .d (fr b)] ∧ Fit a ∧ Fit b ∧ Q (.d (.bool (decide (a < b)))) M
abbrev N__law_less : List Str := ["_law_a_so", "_law_b_so"]
theorem sc__law_less : FnScope N__law_less ["_law_a_so", "_law_b_so"] (L2.defScope s__law_less) := ⟨rfl, rfl, rfl, by decide +kernel, rfl, by decide +kernel, by decide +kernel⟩
set_option maxHeartbeats 4000000 in
theorem kp__law_less (T : Tx K mg) : Kp P w K mg base 1 (He.ga K "_law_less") ["_law_a_so", "_law_b_so"] R_lless := by
  refine kp_n (k := 0) (T.def_ 53) sc__law_less (fun _ _ _ _ _ _ us hl => match us, hl with | [_, _], _ => rfl) (fun xs M Q h => ?len) (fun cdv A outer s H E hr => ⟨_, _, ⟨
    (pss_one (ps_ret (pe_cmpR op_lt (pe_op op_mulW (pe_ix ix_seq (pv 0) pe_int (fun _ _ => rfl)) (pe_ix ix_seq (pv 1) pe_int (fun _ _ => rfl))) (pe_op op_mulW (pe_ix ix_seq (pv 1) pe_int (fun _ _ => rfl)) (pe_ix ix_seq (pv 0) pe_int (fun _ _ => rfl))) (nomark _)))),
    (ss_ret (se_op s2_B0 (se_op s2_I (se_op s2_ix se_var se_int) (se_op s2_ix se_var se_int)) (se_op s2_I (se_op s2_ix se_var se_int) (se_op s2_ix se_var se_int))))⟩, fun xs M Qa h => ?body⟩)
  case len => obtain ⟨a, b, rfl, _⟩ := h; rfl
  case body =>
    obtain ⟨a, b, rfl, ha, hb, q⟩ := h
    obtain ⟨n, hn, ln⟩ := fit_num ha
    obtain ⟨m, hm, lm⟩ := fit_num hb
    obtain ⟨da, la⟩ := den_lt ha
    obtain ⟨db, lb⟩ := den_lt hb
    have z1 : (a.num).natAbs < 2 ^ 8500 := fit_lt (by rw [hn]; exact ln)
    have z2 : (b.num).natAbs < 2 ^ 8500 := fit_lt (by rw [hm]; exact lm)
    have z3 : ((a.den : Int)).natAbs < 2 ^ 8500 := fit_lt (by exact la)
    have z4 : ((b.den : Int)).natAbs < 2 ^ 8500 := fit_lt (by exact lb)

    refine ⟨_, rfl, _, 0, _, .inl rfl, rfl, rfl, _, rfl, _, 1, _, .inl rfl, rfl, rfl, _, _, rfl, rfl, mulW z1 z4, _, rfl, _, 0, _, .inl rfl, rfl, rfl, _, rfl, _, 1, _, .inl rfl, rfl, rfl, _, _, rfl, rfl, mulW z2 z3, _, _, rfl, rfl, M, Sub.refl _, ?_⟩
    have e : decide (a < b) = decide (a.num * (b.den : Int) < b.num * (a.den : Int)) := decide_eq_decide.mpr (Rat.lt_iff a b)
    rw [e] at q
    exact q

def R_pick : AN := fun xs M Q => ∃ (a : Addr) (x y c : Nat) (M1 M2 : Sto) (ds : List PyData), xs = [.m a, .d (.list ds)] ∧ M = M1 ++ bxM a x y c :: M2 ∧ ds ≠ [] ∧ ds.length ≤ 1000000 ∧ y < 2 ^ 64 ∧ c < 2 ^ 64 ∧ ∀ d ∈ ds, ∀ x' c' : Nat, x' ≤ x → c' ≤ c + 1 → Q (.d d) (M1 ++ bxM a x' y c' :: M2)
abbrev N__law_of : List Str := ["_law_box_here", "_law_goods_so"]
theorem sc__law_of : FnScope N__law_of ["_law_box_here", "_law_goods_so"] (L2.defScope s__law_of) := ⟨rfl, rfl, rfl, by decide +kernel, rfl, by decide +kernel, by decide +kernel⟩
set_option maxHeartbeats 4000000 in
theorem kp__law_of (T : Tx K mg) (c__law_take : Kp P w K mg base 1 (He.ga K "_law_take") ["_law_box_here", "_law_size_so"] R_draw) : Kp P w K mg base 2 (He.ga K "_law_of") ["_law_box_here", "_law_goods_so"] R_pick := by
  refine kp_n (k := 1) (T.def_ 47) sc__law_of (fun _ _ _ _ _ _ us hl => match us, hl with | [_, _], _ => rfl) (fun xs M Q h => ?len) (fun cdv A outer s H E hr => ⟨_, _, ⟨
    (pss_one (ps_ret (pe_ix ix_seq (pv 1) (pe_def c__law_take (hr.mono (by decide)) (by rfl) (T.glo 31) (pa_cons (pv 0) (pa_cons (pe_callB call_len_seq (by rfl) (T.free 68) PySem.boot_len (pa_cons (pv 1) pa_nil)) pa_nil))) (fun _ _ => rfl)))),
    (ss_ret (se_op s2_ix se_var (se_call (sa_cons se_var (sa_cons (se_cb sn_len (sa_cons se_var sa_nil)) sa_nil)))))⟩, fun xs M Qa h => ?body⟩)
  case len => obtain ⟨a, x, y, c, M1, M2, ds, rfl, _⟩ := h; rfl
  case body =>
    obtain ⟨a, x, y, c, M1, M2, ds, rfl, rfl, hne, hl, y1, c1, qq⟩ := h
    have h0 : 0 < ds.length := List.length_pos_iff.mpr hne
    refine ⟨_, rfl, _, rfl, _, rfl, .inl ⟨_, rfl, a, x, y, c, ds.length, M1, M2, rfl, rfl, h0, Nat.lt_of_le_of_lt hl (by decide), y1, c1, fun d x' c' hd hx hc => ?_⟩⟩
    exact ⟨ds, _, ds[d], .inr rfl, rfl, atI_nat _ _ _ (List.getElem?_eq_getElem hd), _, Sub.refl _, qq _ (List.getElem_mem _) x' c' hx hc⟩

def R_lamt : AN := fun xs M Q => ∃ (a : Addr) (x y c n : Nat) (M1 M2 : Sto), xs = [.m a, .d (.int (n : Int))] ∧ M = M1 ++ bxM a x y c :: M2 ∧ 0 < n ∧ n < 2 ^ 64 ∧ y < 2 ^ 64 ∧ c + 1 < 2 ^ 64 ∧ ∀ (t b x' c' : Nat), t < n → (b = 1 ∨ b = 2 ∨ b = 3) → x' ≤ x → c' ≤ c + 2 → Q (.d (fr (mkRat (t : Int) b))) (M1 ++ bxM a x' y c' :: M2)
abbrev N__law_amount : List Str := ["_law_box_here", "_law_high_so"]
theorem sc__law_amount : FnScope N__law_amount ["_law_box_here", "_law_high_so"] (L2.defScope s__law_amount) := ⟨rfl, rfl, rfl, by decide +kernel, rfl, by decide +kernel, by decide +kernel⟩
set_option maxHeartbeats 4000000 in
theorem kp__law_amount (T : Tx K mg) (c__law_of : Kp P w K mg base 2 (He.ga K "_law_of") ["_law_box_here", "_law_goods_so"] R_pick) (c__law_take : Kp P w K mg base 1 (He.ga K "_law_take") ["_law_box_here", "_law_size_so"] R_draw) (c__law_frac : Kp P w K mg base 1 (He.ga K "_law_frac") ["_law_top_so", "_law_low_so"] R_lfrac) : Kp P w K mg base 3 (He.ga K "_law_amount") ["_law_box_here", "_law_high_so"] R_lamt := by
  refine kp_n (k := 2) (T.def_ 54) sc__law_amount (fun _ _ _ _ _ _ us hl => match us, hl with | [_, _], _ => rfl) (fun xs M Q h => ?len) (fun cdv A outer s H E hr => ⟨_, _, ⟨
    (pss_one (ps_ret (pe_def c__law_frac (hr.mono (by decide)) (by rfl) (T.glo 35) (pa_cons (pe_def c__law_take (hr.mono (by decide)) (by rfl) (T.glo 31) (pa_cons (pv 0) (pa_cons (pv 1) pa_nil))) (pa_cons (pe_def c__law_of (hr.mono (by decide)) (by rfl) (T.glo 33) (pa_cons (pv 0) (pa_cons (pe_lst (pa_cons pe_int (pa_cons pe_int (pa_cons pe_int (pa_cons pe_int (pa_cons pe_int pa_nil)))))) pa_nil))) pa_nil))))),
    (ss_ret (se_call (sa_cons (se_call (sa_cons se_var (sa_cons se_var sa_nil))) (sa_cons (se_call (sa_cons se_var (sa_cons (se_lst (sa_cons se_int (sa_cons se_int (sa_cons se_int (sa_cons se_int (sa_cons se_int sa_nil)))))) sa_nil))) sa_nil))))⟩, fun xs M Qa h => ?body⟩)
  case len => obtain ⟨a, x, y, c, n, M1, M2, rfl, _⟩ := h; rfl
  case body =>
    obtain ⟨a, x, y, c, n, M1, M2, rfl, rfl, n0, n1, y1, c1, qq⟩ := h
    refine ⟨_, rfl, _, rfl, a, x, y, c, n, M1, M2, rfl, rfl, n0, n1, y1, by omega, fun t x2 c2 ht hx hc => ?_⟩
    refine ⟨_, rfl, _, rfl, (show 5 ≤ 1000000 by decide), a, x2, y, c2, M1, M2, _, rfl, rfl, by simp, (show 5 ≤ 1000000 by decide), y1, by omega, fun d hd x3 c3 hx3 hc3 => ?_⟩
    have key : ∃ b : Nat, d = .int (b : Int) ∧ (b = 1 ∨ b = 2 ∨ b = 3) := by
      simp only [List.mem_cons, List.not_mem_nil, or_false] at hd
      rcases hd with e | e | e | e | e <;> subst e
      · exact ⟨1, rfl, .inl rfl⟩
      · exact ⟨1, rfl, .inl rfl⟩
      · exact ⟨1, rfl, .inl rfl⟩
      · exact ⟨2, rfl, .inr (.inl rfl)⟩
      · exact ⟨3, rfl, .inr (.inr rfl)⟩
    obtain ⟨b, rfl, hb⟩ := key
    refine ⟨t, b, rfl, by omega, Nat.lt_of_le_of_lt (show b ≤ 3 by omega) (by decide +kernel), Nat.lt_trans (Nat.lt_trans ht n1) (by decide +kernel), _, Sub.refl _, qq t b x3 c3 ht hb (by omega) (by omega)⟩

end
end LN
namespace LN
open PySem PySem.Spec PyProof.Rows L2 SlX

theorem fr_lit {q : Rat} {n : Int} {d : Nat} (h1 : q.num = n) (h2 : q.den = d) : PyData.tuple [.int n, .int (d : Int)] = fr q := by
  unfold fr
  rw [h1, h2]
theorem fr_0 : PyData.tuple [.int 0, .int 1] = fr 0 := fr_lit (d := 1) (by decide +kernel) (by decide +kernel)
theorem fr_19 : PyData.tuple [.int 1, .int 9] = fr (1/9) := fr_lit (d := 9) (by decide +kernel) (by decide +kernel)
theorem fr_89 : PyData.tuple [.int 8, .int 9] = fr (8/9) := fr_lit (d := 9) (by decide +kernel) (by decide +kernel)
theorem fr_bn : PyData.tuple [.int 1000000000, .int 1] = fr 1000000000 := fr_lit (d := 1) (by decide +kernel) (by decide +kernel)
def spot3 (e : Rat) : List Rat := [e, e + 1/9, e * (8/9)]
def spotsM (am : Rat) (es : List Rat) : List Rat := [0, am, 1000000000] ++ es.flatMap spot3
theorem fit_19 : Fit (1/9) := ⟨by decide +kernel, by decide +kernel, by decide +kernel⟩
theorem fit_89 : Fit (8/9) := ⟨by decide +kernel, by decide +kernel, by decide +kernel⟩
theorem spots_app (am : Rat) (dn : List Rat) (e : Rat) : spotsM am (dn ++ [e]) = spotsM am dn ++ [e, e + 1/9, e * (8/9)] := by
  unfold spotsM
  rw [List.flatMap_append, List.append_assoc]
  rfl
theorem spots_len (am : Rat) (dn : List Rat) : (spotsM am dn).length = 3 + 3 * dn.length := by
  induction dn with
  | nil => rfl
  | cons e dn ih =>
    unfold spotsM at *
    simp only [List.length_append, List.flatMap_cons, List.length_cons, List.length_nil, spot3] at *
    omega

section
variable {P : Program} {w : World} {K : Frg} {mg : Str → Option Value} {base : Heap}

def R_spots : AN := fun xs M Q => ∃ (a : Addr) (x y c : Nat) (M1 M2 : Sto) (es : List Rat), xs = [.m a, .d (rowD es)] ∧ M = M1 ++ bxM a x y c :: M2 ∧ y < 2 ^ 64 ∧ c + 1 < 2 ^ 64 ∧ (∀ e ∈ es, Fit e) ∧ es.length ≤ 1000 ∧ ∀ (t b x' c' : Nat), t < 10000 → (b = 1 ∨ b = 2 ∨ b = 3) → x' ≤ x → c' ≤ c + 2 → Q (.d (rowD (spotsM (mkRat (t : Int) b) es))) (M1 ++ bxM a x' y c' :: M2)
abbrev N__law_spots : List Str := ["_law_box_here", "_law_ends_so", "_law_spots_here", "_law_own"]
theorem sc__law_spots : FnScope N__law_spots ["_law_box_here", "_law_ends_so"] (L2.defScope s__law_spots) := ⟨rfl, rfl, rfl, by decide +kernel, rfl, by decide +kernel, by decide +kernel⟩
set_option maxHeartbeats 4000000 in
theorem kp__law_spots (T : Tx K mg) (c__law_amount : Kp P w K mg base 3 (He.ga K "_law_amount") ["_law_box_here", "_law_high_so"] R_lamt) (c__law_mul : Kp P w K mg base 2 (He.ga K "_law_mul") ["_law_a_so", "_law_b_so"] R_lmul) (c__law_plus : Kp P w K mg base 2 (He.ga K "_law_plus") ["_law_a_so", "_law_b_so"] R_lplus) : Kp P w K mg base 4 (He.ga K "_law_spots") ["_law_box_here", "_law_ends_so"] R_spots := by
  refine kp_n (k := 3) (T.def_ 58) sc__law_spots (fun _ _ _ _ _ _ us hl => match us, hl with | [_, _], _ => rfl) (fun xs M Q h => ?len) (fun cdv A outer s H E hr => ⟨_, _, ⟨
    (pss_cons (ps_set (i := 2) sc__law_spots.nd rfl (Or.inl rfl) (pe_lst (pa_cons (pe_tupS (pa_cons pe_int (pa_cons pe_int pa_nil))) (pa_cons (pe_def c__law_amount (hr.mono (by decide)) (by rfl) (T.glo 40) (pa_cons (pv 0) (pa_cons (pe_op op_pow pe_int pe_int) pa_nil))) (pa_cons (pe_tupS (pa_cons (pe_op op_pow pe_int pe_int) (pa_cons pe_int pa_nil))) pa_nil))))) (pss_cons (ps_for PassesOwn.never rfl (pi_list (pv 1)) (pg_name (i := 3) sc__law_spots.nd rfl (Or.inl rfl)) (pss_one (ps_set (i := 2) sc__law_spots.nd rfl (Or.inl rfl) (pe_op op_catL (pv 2) (pe_lst (pa_cons (pv 3) (pa_cons (pe_def c__law_plus (hr.mono (by decide)) (by rfl) (T.glo 36) (pa_cons (pv 3) (pa_cons (pe_tupS (pa_cons pe_int (pa_cons pe_int pa_nil))) pa_nil))) (pa_cons (pe_def c__law_mul (hr.mono (by decide)) (by rfl) (T.glo 38) (pa_cons (pv 3) (pa_cons (pe_tupS (pa_cons pe_int (pa_cons pe_int pa_nil))) pa_nil))) pa_nil)))))))) (pss_one (ps_ret (pv 2))))),
    (ss_seq (ss_asg (se_lst (sa_cons (se_tup (sa_cons se_int (sa_cons se_int sa_nil))) (sa_cons (se_call (sa_cons se_var (sa_cons (se_op s2_I se_int se_int) sa_nil))) (sa_cons (se_tup (sa_cons (se_op s2_I se_int se_int) (sa_cons se_int sa_nil))) sa_nil)))) sg_nm) (ss_seq (ss_for (si_lst se_var) sg_nm (ss_asg (se_op s2_catL se_var (se_lst (sa_cons se_var (sa_cons (se_call (sa_cons se_var (sa_cons (se_tup (sa_cons se_int (sa_cons se_int sa_nil))) sa_nil))) (sa_cons (se_call (sa_cons se_var (sa_cons (se_tup (sa_cons se_int (sa_cons se_int sa_nil))) sa_nil))) sa_nil))))) sg_nm)) (ss_ret se_var)))⟩, fun xs M Qa h => ?body⟩)
  case len => obtain ⟨a, x, y, c, M1, M2, es, rfl, _⟩ := h; rfl
  case body =>
    obtain ⟨a, x, y, c, M1, M2, es, rfl, rfl, y1, c1, fe, hl, qq⟩ := h
    refine ⟨_, rfl, (show 2 ≤ 1000000 by decide), _, rfl, _, _, rfl, rfl, ⟨by decide, by decide, by decide⟩, a, x, y, c, 10000, M1, M2, rfl, rfl, by decide, by decide, y1, c1, fun t b x' c' ht hb hx hc => ?_⟩
    refine ⟨_, _, rfl, rfl, ⟨by decide, by decide, by decide⟩, _, rfl, (show 2 ≤ 1000000 by decide), _, rfl, (show 3 ≤ 1000000 by decide), ?_⟩
    refine ⟨_, rfl, _, rfl, fun rest ρ M' => ∃ (dn td : List Rat) (u : Option Va), es = dn ++ td ∧ rest = (td.map fr).map .d ∧ M' = M1 ++ bxM a x' y c' :: M2 ∧ ρ = [some (.m a), some (.d (rowD es)), some (.d (rowD (spotsM (mkRat (t : Int) b) dn))), u], ⟨[], es, none, rfl, rfl, rfl, ?_⟩, ?_, ?_⟩
    · show [_, _, some (Va.d (PyData.list [.tuple [.int 0, .int 1], fr (mkRat (t : Int) b), .tuple [.int 1000000000, .int 1]])), _] = _
      rw [fr_0, fr_bn]
      rfl
    · rintro d r ρ M' ⟨dn, td, u, e1, e2, rfl, rfl⟩
      match td, e2 with
      | e :: td, e2 =>
        injection e2 with e3 e4
        subst e3
        have fe1 : Fit e := fe e (by rw [e1]; simp)
        refine ⟨_, rfl, _, rfl, _, rfl, _, rfl, (show 2 ≤ 1000000 by decide), e, 1/9, by rw [← fr_19], fe1, fit_19, _, rfl, _, rfl, (show 2 ≤ 1000000 by decide), e, 8/9, by rw [← fr_89], fe1, fit_89, _, rfl, (show 3 ≤ 1000000 by decide), _, _, rfl, rfl, ?_, ?_⟩
        · have h1 := spots_len (mkRat (t : Int) b) dn
          have h2 : dn.length ≤ 1000 := by rw [e1, List.length_append] at hl; omega
          show ((spotsM (mkRat (t : Int) b) dn).map fr).length + 3 ≤ 1000000
          rw [List.length_map]
          omega
        · refine ⟨dn ++ [e], td, some (.d (fr e)), by rw [e1]; simp, e4, rfl, ?_⟩
          rw [spots_app]
          unfold rowD
          rw [List.map_append]
          rfl
    · rintro ρ M' ⟨dn, td, u, e1, e2, rfl, rfl⟩
      match td, e2 with
      | [], _ =>
        rw [List.append_nil] at e1
        subst e1
        exact ⟨_, rfl, _, Sub.refl _, qq t b x' c' ht hb hx hc⟩


def swN (n : Str) : Str := if n = "in" then "zc" else n
def turnP : Part → Part
  | .weir a q t r => .weir (swN a) q (swN t) (swN r)
  | .div a q t r => .div (swN a) q (swN t) (swN r)
  | .join a b t => .join (swN a) (swN b) (swN t)
def chgM (f : Part) (ps : List Part) : List Part := [f, .join "zb" "za" "zc"] ++ ps.map turnP
def bits : Part → List PyData
  | .weir a q t r => [.str "weir", .str a, fr q, .str t, .str r]
  | .div a q t r => [.str "divide", .str a, fr q, .str t, .str r]
  | .join a b t => [.str "join", .str a, .str b, .str t]
theorem partD_bits (p : Part) : partD p = .tuple (bits p) := by cases p <;> rfl
def swD (d : PyData) : PyData := if PyData.eqv d (.str "in") = true then .str "zc" else d
theorem swD_str (n : Str) : swD (.str n) = .str (swN n) := by
  unfold swD swN
  rw [eqv_strs]
  by_cases e : n = "in"
  · subst e; rfl
  · rw [if_neg (by simpa using e), if_neg e]
theorem swD_fr (q : Rat) : swD (fr q) = fr q := by
  unfold swD
  rw [if_neg]
  simp [fr, PyData.eqv]
theorem bits_turn (p : Part) : (bits p).map swD = bits (turnP p) := by
  cases p <;> simp only [bits, turnP, List.map_cons, List.map_nil, swD_str, swD_fr] <;> rfl
theorem bits_sh {p : Part} (h : p.NmOk) : ∀ d ∈ bits p, SeqAt.shaped d = true := fun d hd => by
  match p, h, hd with
  | .weir a q t r, ⟨h1, h2, h3⟩, hd =>
    simp only [bits, List.mem_cons, List.not_mem_nil, or_false] at hd
    rcases hd with e | e | e | e | e <;> subst e
    · exact sh_str (by decide +kernel)
    · exact sh_str h1
    · exact sh_fr q
    · exact sh_str h2
    · exact sh_str h3
  | .div a q t r, ⟨h1, h2, h3⟩, hd =>
    simp only [bits, List.mem_cons, List.not_mem_nil, or_false] at hd
    rcases hd with e | e | e | e | e <;> subst e
    · exact sh_str (by decide +kernel)
    · exact sh_str h1
    · exact sh_fr q
    · exact sh_str h2
    · exact sh_str h3
  | .join a b t, ⟨h1, h2, h3⟩, hd =>
    simp only [bits, List.mem_cons, List.not_mem_nil, or_false] at hd
    rcases hd with e | e | e | e <;> subst e
    · exact sh_str (by decide +kernel)
    · exact sh_str h1
    · exact sh_str h2
    · exact sh_str h3
theorem bits_len (p : Part) : (bits p).length ≤ 5 := by cases p <;> simp [bits]
theorem fr_2 : PyData.tuple [.int 2, .int 1] = fr 2 := fr_lit (d := 1) (by decide +kernel) (by decide +kernel)
theorem fr_13 : PyData.tuple [.int 1, .int 3] = fr (1/3) := fr_lit (d := 3) (by decide +kernel) (by decide +kernel)
theorem chg_app (f : Part) (l : List Part) (p : Part) : chgM f (l ++ [p]) = chgM f l ++ [turnP p] := by
  unfold chgM
  rw [List.map_append, List.append_assoc]
  rfl
def firstOk (f : Part) : Prop := f = .weir "in" 2 "za" "zb" ∨ f = .div "in" (1/3) "za" "zb"

def R_chg : AN := fun xs M Q => ∃ (a : Addr) (x y c : Nat) (M1 M2 : Sto) (ps : List Part), xs = [.m a, .d (partsD ps)] ∧ M = M1 ++ bxM a x y c :: M2 ∧ y < 2 ^ 64 ∧ c < 2 ^ 64 ∧ (∀ p ∈ ps, p.NmOk) ∧ ps.length ≤ 1000 ∧ ∀ (f : Part) (x' c' : Nat), firstOk f → x' ≤ x → c' ≤ c + 1 → Q (.d (partsD (chgM f ps))) (M1 ++ bxM a x' y c' :: M2)
abbrev N__law_changed : List Str := ["_law_box_here", "_law_parts_so", "_law_tall_so", "_law_found", "_law_own", "_law_turned_so", "_law_bit"]
theorem sc__law_changed : FnScope N__law_changed ["_law_box_here", "_law_parts_so"] (L2.defScope s__law_changed) := ⟨rfl, rfl, rfl, by decide +kernel, rfl, by decide +kernel, by decide +kernel⟩
set_option maxHeartbeats 4000000 in
theorem kp__law_changed (T : Tx K mg) (c__law_of : Kp P w K mg base 2 (He.ga K "_law_of") ["_law_box_here", "_law_goods_so"] R_pick) : Kp P w K mg base 3 (He.ga K "_law_changed") ["_law_box_here", "_law_parts_so"] R_chg := by
  refine kp_n (k := 2) (T.def_ 59) sc__law_changed (fun _ _ _ _ _ _ us hl => match us, hl with | [_, _], _ => rfl) (fun xs M Q h => ?len) (fun cdv A outer s H E hr => ⟨_, _, ⟨
    (pss_cons (ps_set (i := 2) sc__law_changed.nd rfl (Or.inl rfl) (pe_def c__law_of (hr.mono (by decide)) (by rfl) (T.glo 33) (pa_cons (pv 0) (pa_cons (pe_lst (pa_cons (pe_tupS (pa_cons pe_str (pa_cons pe_str (pa_cons (pe_tupS (pa_cons pe_int (pa_cons pe_int pa_nil))) (pa_cons pe_str (pa_cons pe_str pa_nil)))))) (pa_cons (pe_tupS (pa_cons pe_str (pa_cons pe_str (pa_cons (pe_tupS (pa_cons pe_int (pa_cons pe_int pa_nil))) (pa_cons pe_str (pa_cons pe_str pa_nil)))))) pa_nil))) pa_nil)))) (pss_cons (ps_set (i := 3) sc__law_changed.nd rfl (Or.inl rfl) (pe_tupS (pa_cons (pv 2) (pa_cons (pe_tupS (pa_cons pe_str (pa_cons pe_str (pa_cons pe_str (pa_cons pe_str pa_nil))))) pa_nil)))) (pss_cons (ps_for PassesOwn.never rfl (pi_tup (pv 1)) (pg_name (i := 4) sc__law_changed.nd rfl (Or.inl rfl)) (pss_cons (ps_set (i := 5) sc__law_changed.nd rfl (Or.inl rfl) (pe_callTy call_tupleS (by rfl) (T.free 69) boot_tuple (pa_cons (pe_lc (own := [("_law_bit", 6)]) rfl sc__law_changed.nd (pi_tup (pv 4)) (blkOk_by (N := N__law_changed) (sc := L2.defScope s__law_changed) (by decide +kernel)) (fun _ _ _ _ _ => (pg_name (i := 6) sc__law_changed.nd rfl (Or.inl rfl))) (fun _ _ _ _ _ => pts_nil) (fun _ _ _ _ _ => (pe_ifExp (pt_cmpR (op_eqD hr.units) (pv 6) pe_str (nomark _)) pe_str (pv 6)))) pa_nil))) (pss_one (ps_set (i := 3) sc__law_changed.nd rfl (Or.inl rfl) (pe_op op_catS (pv 3) (pe_tupS (pa_cons (pv 5) pa_nil))))))) (pss_one (ps_ret (pv 3)))))),
    (ss_seq (ss_asg (se_call (sa_cons se_var (sa_cons (se_lst (sa_cons (se_tup (sa_cons se_str (sa_cons se_str (sa_cons (se_tup (sa_cons se_int (sa_cons se_int sa_nil))) (sa_cons se_str (sa_cons se_str sa_nil)))))) (sa_cons (se_tup (sa_cons se_str (sa_cons se_str (sa_cons (se_tup (sa_cons se_int (sa_cons se_int sa_nil))) (sa_cons se_str (sa_cons se_str sa_nil)))))) sa_nil))) sa_nil))) sg_nm) (ss_seq (ss_asg (se_tup (sa_cons se_var (sa_cons (se_tup (sa_cons se_str (sa_cons se_str (sa_cons se_str (sa_cons se_str sa_nil))))) sa_nil))) sg_nm) (ss_seq (ss_for (si_tup se_var) sg_nm (ss_seq (ss_asg (se_cb sn_tuple (sa_cons (se_lc (si_tup se_var) sg_nm (wg_nm (by decide)) st_yes' (se_if (st_T (se_op s2_eq se_var se_str)) se_str se_var)) sa_nil)) sg_nm) (ss_asg (se_op s2_catT se_var (se_tup (sa_cons se_var sa_nil))) sg_nm))) (ss_ret se_var))))⟩, fun xs M Qa h => ?body⟩)
  case len => obtain ⟨a, x, y, c, M1, M2, ps, rfl, _⟩ := h; rfl
  case body =>
    obtain ⟨a, x, y, c, M1, M2, ps, rfl, rfl, y1, c1, nm, hl, qq⟩ := h
    refine ⟨_, rfl, _, rfl, (show 2 ≤ 1000000 by decide), _, rfl, (show 5 ≤ 1000000 by decide), _, rfl, (show 2 ≤ 1000000 by decide), _, rfl, (show 5 ≤ 1000000 by decide), _, rfl, (show 2 ≤ 1000000 by decide), a, x, y, c, M1, M2, _, rfl, rfl, by simp, (show 2 ≤ 1000000 by decide), y1, c1, fun d hd x' c' hx hc => ?_⟩
    have key : ∃ f, firstOk f ∧ d = partD f := by
      have hd : d = .tuple [.str "weir", .str "in", .tuple [.int 2, .int 1], .str "za", .str "zb"] ∨ d = .tuple [.str "divide", .str "in", .tuple [.int 1, .int 3], .str "za", .str "zb"] := by
        rcases List.mem_cons.mp hd with e | e
        · exact .inl e
        · exact .inr (List.mem_singleton.mp e)
      rcases hd with e | e
      · exact ⟨_, .inl rfl, by rw [e, fr_2]; rfl⟩
      · exact ⟨_, .inr rfl, by rw [e, fr_13]; rfl⟩
    obtain ⟨f, fo, rfl⟩ := key
    refine ⟨_, rfl, _, rfl, (show 4 ≤ 1000000 by decide), _, rfl, (show 2 ≤ 1000000 by decide), ?_⟩
    refine ⟨_, rfl, _, rfl, fun rest ρ M' => ∃ (dn td : List Part) (u v : Option Va), ps = dn ++ td ∧ rest = (td.map partD).map .d ∧ M' = M1 ++ bxM a x' y c' :: M2 ∧ ρ = [some (.m a), some (.d (partsD ps)), some (.d (partD f)), some (.d (partsD (chgM f dn))), u, v, none], ⟨[], ps, none, none, rfl, rfl, rfl, rfl⟩, ?_, ?_⟩
    · rintro d r ρ M' ⟨dn, td, u, v, e1, e2, rfl, rfl⟩
      match td, e2 with
      | p :: td, e2 =>
        injection e2 with e3 e4
        subst e3
        have np : p.NmOk := nm p (by rw [e1]; simp)
        have dl : dn.length ≤ 1000 := by rw [e1, List.length_append] at hl; omega
        refine ⟨_, rfl, bits p, by rw [partD_bits], ?_⟩
        refine lcS (bits p) Va.d swD (Nat.le_trans (bits_len p) (by decide)) (fun d hd p' Z hZ => ?_) ?_
        · refine ⟨_, rfl, _, _, rfl, rfl, bits_sh np d hd, sh_str (by decide +kernel), _, rfl, iteB (fun e => ?_) (fun e => ?_)⟩
          · have e : PyData.eqv d (.str "in") = true := e
            have : swD d = .str "zc" := by unfold swD; rw [if_pos e]
            rw [this] at hZ
            exact ⟨_, _, rfl, Sub.refl _, rfl, hZ⟩
          · have e' : PyData.eqv d (.str "in") = false := e
            have : swD d = d := by unfold swD; rw [if_neg (by rw [e']; decide)]
            rw [this] at hZ
            exact ⟨_, rfl, _, _, rfl, Sub.refl _, rfl, hZ⟩
        · refine .inl ⟨_, rfl, _, rfl, _, rfl, _, rfl, (show 1 ≤ 1000000 by decide), _, _, rfl, rfl, ?_, ?_⟩
          · show ((chgM f dn).map partD).length + 1 ≤ 1000000
            unfold chgM
            rw [List.length_map, List.length_append, List.length_map]
            show 2 + dn.length + 1 ≤ 1000000
            omega
          · refine ⟨dn ++ [p], td, some (.d (partD p)), some (.d (partD (turnP p))), by rw [e1]; simp, e4, rfl, ?_⟩
            rw [bits_turn, ← partD_bits]
            rw [chg_app]
            unfold partsD
            rw [List.map_append]
            rfl
    · rintro ρ M' ⟨dn, td, u, v, e1, e2, rfl, rfl⟩
      match td, e2 with
      | [], _ =>
        rw [List.append_nil] at e1
        subst e1
        exact ⟨_, rfl, _, Sub.refl _, qq f x' c' fo hx hc⟩

end
end LN
namespace LN
open PySem PySem.Spec PyProof.Rows L2 SlX
theorem mn_of_le {a b : Rat} (h : a ≤ b) : mn a b = a := by unfold mn; grind
theorem mn_of_ge {a b : Rat} (h : b ≤ a) : mn a b = b := by unfold mn; grind
theorem mn_assoc (a b c : Rat) : mn (mn a b) c = mn a (mn b c) := by unfold mn; grind
theorem mn_le_l (a b : Rat) : mn a b ≤ a := by unfold mn; grind
theorem mn_le_r (a b : Rat) : mn a b ≤ b := by unfold mn; grind
/-- ends that rise above b, the last without bound -/
def Asc : Rat → List (Option Rat) → Prop
  | _, [] => False
  | _, none :: es => es = []
  | b, some e :: es => b < e ∧ Asc e es
/-- what has come by x -/
def area (x : Rat) : Rat → List (Option Rat) → List Rat → Rat
  | b, some e :: es, s :: row => s * (mn x e - mn x b) + area x e es row
  | b, none :: _, s :: _ => s * (x - mn x b)
  | _, _, _ => 0
theorem area_zero {x : Rat} : ∀ {es : List (Option Rat)} {row : List Rat} {b : Rat}, Asc b es → x ≤ b → area x b es row = 0
  | [], _, _, h, _ => h.elim
  | none :: es, [], b, _, _ => rfl
  | none :: es, s :: row, b, _, hx => by show s * (x - mn x b) = 0; rw [mn_of_le hx]; grind
  | some e :: es, [], b, _, _ => rfl
  | some e :: es, s :: row, b, h, hx => by
    have hx2 : x ≤ e := Rat.le_trans hx (Rat.le_of_lt h.1)
    show s * (mn x e - mn x b) + area x e es row = 0
    rw [area_zero h.2 hx2, mn_of_le hx, mn_of_le hx2]; grind
theorem area_mono {x y : Rat} (hxy : x ≤ y) : ∀ {es : List (Option Rat)} {row : List Rat} {b : Rat}, Asc b es → (∀ v ∈ row, 0 ≤ v) → area x b es row ≤ area y b es row
  | [], _, _, h, _ => h.elim
  | none :: es, [], b, _, _ => Rat.le_refl
  | none :: es, s :: row, b, _, hr => by
    have hs : 0 ≤ s := hr s List.mem_cons_self
    show s * (x - mn x b) ≤ s * (y - mn y b)
    exact Rat.mul_le_mul_of_nonneg_left (by unfold mn; grind) hs
  | some e :: es, [], b, _, _ => Rat.le_refl
  | some e :: es, s :: row, b, h, hr => by
    have hs : 0 ≤ s := hr s List.mem_cons_self
    have ih := area_mono hxy h.2 fun v hv => hr v (List.mem_cons_of_mem _ hv)
    have h1 := h.1
    have := Rat.mul_le_mul_of_nonneg_left (a := mn x e - mn x b) (b := mn y e - mn y b) (by unfold mn; grind) hs
    show s * (mn x e - mn x b) + area x e es row ≤ s * (mn y e - mn y b) + area y e es row
    grind
theorem area_nonneg {x b : Rat} {es : List (Option Rat)} {row : List Rat} (h : Asc b es) (hr : ∀ v ∈ row, 0 ≤ v) : 0 ≤ area x b es row := by
  by_cases c : x ≤ b
  · rw [area_zero h c]; exact Rat.le_refl
  · have c2 : b ≤ x := by grind
    rw [← area_zero (x := b) (row := row) h Rat.le_refl]
    exact area_mono c2 h hr
theorem area_add {x : Rat} : ∀ {es : List (Option Rat)} {r t : List Rat} {b : Rat}, r.length = t.length → area x b es (List.zipWith (· + ·) r t) = area x b es r + area x b es t
  | [], r, t, b, h => by simp [area]; grind
  | none :: es, [], t, b, h => by
    cases t with
    | nil => show (0 : Rat) = 0 + 0; grind
    | cons _ _ => cases h
  | none :: es, s :: r, [], b, h => by cases h
  | none :: es, s :: r, v :: t, b, h => by show (s + v) * (x - mn x b) = s * (x - mn x b) + v * (x - mn x b); grind
  | some e :: es, [], t, b, h => by
    cases t with
    | nil => show (0 : Rat) = 0 + 0; grind
    | cons _ _ => cases h
  | some e :: es, s :: r, [], b, h => by cases h
  | some e :: es, s :: r, v :: t, b, h => by
    have ih := area_add (x := x) (es := es) (r := r) (t := t) (b := e) (by simpa using h)
    show (s + v) * (mn x e - mn x b) + area x e es (List.zipWith (· + ·) r t) = s * (mn x e - mn x b) + area x e es r + (v * (mn x e - mn x b) + area x e es t)
    rw [ih]; grind
theorem area_smul {x q : Rat} : ∀ {es : List (Option Rat)} {r : List Rat} {b : Rat}, area x b es (r.map (· * q)) = area x b es r * q
  | [], r, b => by simp [area]
  | none :: es, [], b => by show (0 : Rat) = 0 * q; grind
  | none :: es, s :: r, b => by show (s * q) * (x - mn x b) = s * (x - mn x b) * q; grind
  | some e :: es, [], b => by show (0 : Rat) = 0 * q; grind
  | some e :: es, s :: r, b => by
    have ih := area_smul (x := x) (q := q) (es := es) (r := r) (b := e)
    show (s * q) * (mn x e - mn x b) + area x e es (r.map (· * q)) = (s * (mn x e - mn x b) + area x e es r) * q
    rw [ih]; grind
theorem area_zeros {x : Rat} : ∀ {es : List (Option Rat)} {n : Nat} {b : Rat}, area x b es (List.replicate n 0) = 0
  | [], n, b => by simp [area]
  | none :: es, 0, b => rfl
  | none :: es, n + 1, b => by show 0 * (x - mn x b) = 0; grind
  | some e :: es, 0, b => rfl
  | some e :: es, n + 1, b => by
    show 0 * (mn x e - mn x b) + area x e es (List.replicate n 0) = 0
    rw [area_zeros]; grind
theorem asc_mem {e : Rat} : ∀ {es : List (Option Rat)} {b : Rat}, Asc b es → some e ∈ es → b < e
  | [], _, h, _ => h.elim
  | none :: es, _, h, hm => by
    have h2 : es = [] := h
    subst h2
    simp at hm
  | some d :: es, b, h, hm => by
    have hb := h.1
    rcases List.mem_cons.mp hm with z | z
    · injection z with z; rw [z]; exact hb
    · have := asc_mem h.2 z
      grind
/-! where a limit is met -/
theorem cut_some {lim w : Rat} : ∀ {es : List (Option Rat)} {row : List Rat} {got b : Rat}, Asc b es → es.length = row.length → got < lim → (∀ v ∈ row, 0 ≤ v) → cutGo lim got b es row = some w → b < w ∧ got + area w b es row = lim
  | [], _, _, _, h, _, _, _, _ => h.elim
  | none :: es, [], _, _, _, hl, _, _, _ => by cases hl
  | some e :: es, [], _, _, _, hl, _, _, _ => by cases hl
  | none :: es, s :: row, got, b, _, _, hg, hr, hc => by
    have hs : 0 ≤ s := hr s List.mem_cons_self
    unfold cutGo at hc
    split at hc
    · cases hc
    · rename_i hs0
      injection hc with hc
      have sp : 0 < s := by grind
      have dp : 0 < (lim - got) / s := by
        rw [Rat.div_def]; exact Rat.mul_pos (by grind) (Rat.inv_pos.mpr sp)
      have e1 : s * (w - b) = lim - got := by
        rw [← hc, show b + (lim - got) / s - b = (lim - got) / s by grind, Rat.mul_comm, Rat.div_mul_cancel hs0]
      refine ⟨by grind, ?_⟩
      show got + s * (w - mn w b) = lim
      rw [mn_of_ge (by grind)]; grind
  | some e :: es, s :: row, got, b, ha, hl, hg, hr, hc => by
    have hs : 0 ≤ s := hr s List.mem_cons_self
    have hbe := ha.1
    unfold cutGo at hc
    split at hc
    · rename_i hlt
      obtain ⟨h1, h2⟩ := cut_some ha.2 (by simpa using hl) hlt (fun v hv => hr v (List.mem_cons_of_mem _ hv)) hc
      refine ⟨by grind, ?_⟩
      show got + (s * (mn w e - mn w b) + area w e es row) = lim
      rw [mn_of_ge (Rat.le_of_lt h1), mn_of_ge (by grind)]; grind
    · rename_i hge
      injection hc with hc
      have hs0 : s ≠ 0 := fun z => hge (by rw [z]; grind)
      have sp : 0 < s := by grind
      have dp : 0 < (lim - got) / s := by
        rw [Rat.div_def]; exact Rat.mul_pos (by grind) (Rat.inv_pos.mpr sp)
      have e1 : s * (w - b) = lim - got := by
        rw [← hc, show b + (lim - got) / s - b = (lim - got) / s by grind, Rat.mul_comm, Rat.div_mul_cancel hs0]
      have we : w ≤ e := by
        have : s * (w - b) ≤ s * (e - b) := by grind
        have := Rat.le_of_mul_le_mul_left this sp
        grind
      refine ⟨by grind, ?_⟩
      show got + (s * (mn w e - mn w b) + area w e es row) = lim
      rw [area_zero ha.2 we, mn_of_le we, mn_of_ge (by grind)]; grind
theorem cut_none {lim x : Rat} : ∀ {es : List (Option Rat)} {row : List Rat} {got b : Rat}, Asc b es → es.length = row.length → got < lim → (∀ v ∈ row, 0 ≤ v) → cutGo lim got b es row = none → got + area x b es row ≤ lim
  | [], _, _, _, h, _, _, _, _ => h.elim
  | none :: es, [], _, _, _, hl, _, _, _ => by cases hl
  | some e :: es, [], _, _, _, hl, _, _, _ => by cases hl
  | none :: es, s :: row, got, b, _, _, hg, hr, hc => by
    unfold cutGo at hc
    split at hc
    · rename_i h0
      show got + s * (x - mn x b) ≤ lim
      rw [h0]; grind
    · cases hc
  | some e :: es, s :: row, got, b, ha, hl, hg, hr, hc => by
    have hs : 0 ≤ s := hr s List.mem_cons_self
    have hbe := ha.1
    unfold cutGo at hc
    split at hc
    · rename_i hlt
      have h2 := cut_none (x := x) ha.2 (by simpa using hl) hlt (fun v hv => hr v (List.mem_cons_of_mem _ hv)) hc
      have := Rat.mul_le_mul_of_nonneg_left (a := mn x e - mn x b) (b := e - b) (by unfold mn; grind) hs
      show got + (s * (mn x e - mn x b) + area x e es row) ≤ lim
      grind
    · cases hc
/-! a new end -/
def insW (w : Rat) : List (Option Rat) → List (Option Rat)
  | [] => [some w]
  | none :: es => some w :: none :: es
  | some e :: es => if e < w then some e :: insW w es else some w :: some e :: es
def dupW (w : Rat) : List (Option Rat) → List Rat → List Rat
  | _, [] => [0]
  | some e :: es, s :: row => if e < w then s :: dupW w es row else s :: s :: row
  | _, s :: row => s :: s :: row
theorem place_none (es : List (Option Rat)) (w : Rat) : placeFor (none :: es) w = placeFor es w := by
  unfold placeFor; rw [List.filter_cons]; rfl
theorem place_cons (e : Rat) (es : List (Option Rat)) (w : Rat) : placeFor (some e :: es) w = (if e < w then 1 else 0) + placeFor es w := by
  unfold placeFor
  rw [List.filter_cons]
  by_cases c : e < w
  · rw [if_pos (show decide (e < w) = true from decide_eq_true c), if_pos c, List.length_cons]; omega
  · rw [if_neg (show ¬ decide (e < w) = true by simpa using c), if_neg c]; omega
theorem place_zero {w : Rat} : ∀ {es : List (Option Rat)} {b : Rat}, Asc b es → w ≤ b → placeFor es w = 0
  | [], _, h, _ => h.elim
  | none :: es, b, h, _ => by
    have h2 : es = [] := h
    subst h2
    rfl
  | some e :: es, b, h, hw => by
    have h1 := h.1
    rw [place_cons, if_neg (by grind), place_zero h.2 (by grind)]
theorem ins_eq {w : Rat} : ∀ {es : List (Option Rat)} {b : Rat}, Asc b es → insAt (placeFor es w) (some w) es = insW w es
  | [], _, h => h.elim
  | none :: es, b, h => by
    have h2 : es = [] := h
    subst h2
    rfl
  | some e :: es, b, h => by
    rw [place_cons]
    by_cases c : e < w
    · rw [if_pos c, Nat.add_comm]
      show some e :: insAt (placeFor es w) (some w) es = insW w (some e :: es)
      rw [ins_eq h.2]
      show _ = if e < w then some e :: insW w es else some w :: some e :: es
      rw [if_pos c]
    · rw [if_neg c, place_zero h.2 (by grind)]
      show some w :: some e :: es = if e < w then some e :: insW w es else some w :: some e :: es
      rw [if_neg c]
theorem dup_eq {w : Rat} : ∀ {es : List (Option Rat)} {b : Rat} {row : List Rat}, Asc b es → dupAt (placeFor es w) row = dupW w es row
  | [], _, _, h => h.elim
  | none :: es, b, row, h => by
    have h2 : es = [] := h
    subst h2
    cases row <;> rfl
  | some e :: es, b, [], h => by simp [dupAt, dupW]
  | some e :: es, b, s :: row, h => by
    rw [place_cons]
    by_cases c : e < w
    · rw [if_pos c, Nat.add_comm]
      show s :: dupAt (placeFor es w) row = dupW w (some e :: es) (s :: row)
      rw [dup_eq h.2]
      show _ = if e < w then s :: dupW w es row else s :: s :: row
      rw [if_pos c]
    · rw [if_neg c, place_zero h.2 (by grind)]
      show s :: s :: row = if e < w then s :: dupW w es row else s :: s :: row
      rw [if_neg c]
theorem asc_ins {w : Rat} : ∀ {es : List (Option Rat)} {b : Rat}, Asc b es → b < w → some w ∉ es → Asc b (insW w es)
  | [], _, h, _, _ => h.elim
  | none :: es, b, h, hb, _ => ⟨hb, h⟩
  | some e :: es, b, h, hb, hn => by
    unfold insW
    by_cases c : e < w
    · rw [if_pos c]; exact ⟨h.1, asc_ins h.2 c fun z => hn (List.mem_cons_of_mem _ z)⟩
    · rw [if_neg c]
      have : w ≠ e := fun z => hn (by rw [z]; exact List.mem_cons_self)
      exact ⟨hb, by grind, h.2⟩
theorem mem_ins {w : Rat} {x : Option Rat} : ∀ {es : List (Option Rat)}, x ∈ insW w es ↔ x = some w ∨ x ∈ es
  | [] => by simp [insW]
  | none :: es => by simp [insW]
  | some e :: es => by
    unfold insW
    split
    · rw [List.mem_cons, mem_ins, List.mem_cons]
      constructor
      · rintro (h | h | h)
        · exact .inr (.inl h)
        · exact .inl h
        · exact .inr (.inr h)
      · rintro (h | h | h)
        · exact .inr (.inl h)
        · exact .inl h
        · exact .inr (.inr h)
    · rw [List.mem_cons]
theorem ins_len {w : Rat} : ∀ {es : List (Option Rat)}, (insW w es).length = es.length + 1
  | [] => rfl
  | none :: es => rfl
  | some e :: es => by
    unfold insW
    split
    · rw [List.length_cons, ins_len, List.length_cons]
    · rfl
theorem dupW_len {w : Rat} : ∀ {es : List (Option Rat)} {row : List Rat}, (dupW w es row).length = row.length + 1
  | [], [] => rfl
  | none :: es, [] => rfl
  | some e :: es, [] => rfl
  | [], s :: row => rfl
  | none :: es, s :: row => rfl
  | some e :: es, s :: row => by
    unfold dupW
    split
    · rw [List.length_cons, dupW_len, List.length_cons]
    · rfl
theorem mem_dup {w v : Rat} : ∀ {es : List (Option Rat)} {row : List Rat} {b : Rat}, Asc b es → es.length = row.length → v ∈ dupW w es row → v ∈ row
  | [], _, _, h, _, _ => h.elim
  | none :: es, [], _, _, h, _ => by cases h
  | some e :: es, [], _, _, h, _ => by cases h
  | none :: es, s :: row, _, _, _, hv => by
    rcases List.mem_cons.mp hv with e | e
    · rw [e]; exact List.mem_cons_self
    · exact e
  | some e :: es, s :: row, b, ha, hl, hv => by
    unfold dupW at hv
    split at hv
    · rcases List.mem_cons.mp hv with z | z
      · rw [z]; exact List.mem_cons_self
      · exact List.mem_cons_of_mem _ (mem_dup ha.2 (by simpa using hl) z)
    · rcases List.mem_cons.mp hv with e | e
      · rw [e]; exact List.mem_cons_self
      · exact e
theorem area_dup {x w : Rat} : ∀ {es : List (Option Rat)} {row : List Rat} {b : Rat}, Asc b es → es.length = row.length → area x b (insW w es) (dupW w es row) = area x b es row
  | [], _, _, h, _ => h.elim
  | none :: es, [], _, _, h => by cases h
  | some e :: es, [], _, _, h => by cases h
  | none :: es, s :: row, b, _, _ => by
    show s * (mn x w - mn x b) + s * (x - mn x w) = s * (x - mn x b)
    grind
  | some e :: es, s :: row, b, ha, hl => by
    unfold insW dupW
    split
    · show s * (mn x e - mn x b) + area x e (insW w es) (dupW w es row) = s * (mn x e - mn x b) + area x e es row
      rw [area_dup ha.2 (by simpa using hl)]
    · show s * (mn x w - mn x b) + (s * (mn x e - mn x w) + area x e es row) = s * (mn x e - mn x b) + area x e es row
      grind
/-! before and behind an end -/
theorem loR_zero (n : Nat) (row : List Rat) : loR 0 n row = List.replicate n 0 := by
  unfold loR
  rw [List.eq_replicate_iff]
  refine ⟨by simp, fun v hv => ?_⟩
  obtain ⟨i, _, e⟩ := List.mem_map.mp hv
  rw [← e, if_neg (Nat.not_lt_zero i)]
theorem loR_succ (k n : Nat) (s : Rat) (row : List Rat) : loR (k + 1) (n + 1) (s :: row) = s :: loR k n row := by
  unfold loR
  rw [List.range_succ_eq_map, List.map_cons, List.map_map]
  refine congr (congrArg _ ?_) (List.map_congr_left fun i _ => ?_)
  · rw [if_pos (Nat.succ_pos k)]; rfl
  · show (if i + 1 < k + 1 then (s :: row).getD (i + 1) 0 else 0) = if i < k then row.getD i 0 else 0
    rw [List.getD_cons_succ]
    by_cases c : i < k
    · rw [if_pos c, if_pos (Nat.succ_lt_succ c)]
    · rw [if_neg c, if_neg (by omega)]
theorem area_lo {x w : Rat} : ∀ {es : List (Option Rat)} {row : List Rat} {b : Rat}, Asc b es → es.length = row.length → some w ∈ es → area x b es (loR (placeFor es w + 1) es.length row) = area (mn x w) b es row
  | [], _, _, h, _, _ => h.elim
  | none :: es, _, _, h, _, hm => by
    have h2 : es = [] := h
    subst h2
    simp at hm
  | some e :: es, [], _, _, h, _ => by cases h
  | some e :: es, s :: row, b, ha, hl, hm => by
    have hb := ha.1
    have hl2 : es.length = row.length := by simpa using hl
    rw [place_cons, List.length_cons]
    by_cases c : e < w
    · rw [if_pos c, show 1 + placeFor es w + 1 = (placeFor es w + 1) + 1 by omega, loR_succ]
      have hm2 : some w ∈ es := by
        rcases List.mem_cons.mp hm with z | z
        · injection z with z; exact absurd c (by rw [z]; exact Rat.lt_irrefl)
        · exact z
      show s * (mn x e - mn x b) + area x e es _ = s * (mn (mn x w) e - mn (mn x w) b) + area (mn x w) e es row
      rw [area_lo ha.2 hl2 hm2, show mn (mn x w) e = mn x e by unfold mn; grind, show mn (mn x w) b = mn x b by unfold mn; grind]
    · have ew : w = e := by
        rcases List.mem_cons.mp hm with z | z
        · injection z
        · exact absurd (asc_mem ha.2 z) c
      subst ew
      rw [if_neg c, place_zero ha.2 Rat.le_refl, show 0 + 0 + 1 = 0 + 1 from rfl, loR_succ, loR_zero]
      show s * (mn x w - mn x b) + area x w es _ = s * (mn (mn x w) w - mn (mn x w) b) + area (mn x w) w es row
      rw [area_zeros, area_zero ha.2 (mn_le_r x w), show mn (mn x w) w = mn x w by unfold mn; grind, show mn (mn x w) b = mn x b by unfold mn; grind]
theorem lo_all : ∀ {row : List Rat} {n : Nat}, row.length = n → loR n n row = row
  | [], n, h => by subst h; rfl
  | s :: row, n, h => by subst h; rw [List.length_cons, loR_succ, lo_all rfl]
theorem lo_len (k n : Nat) (row : List Rat) : (loR k n row).length = n := by simp [loR]
theorem hi_len (k n : Nat) (row : List Rat) : (hiR k n row).length = n := by simp [hiR]
theorem lo_hi {k n : Nat} {row : List Rat} (h : row.length = n) : List.zipWith (· + ·) (loR k n row) (hiR k n row) = row := by
  apply List.ext_getElem
  · rw [List.length_zipWith, lo_len, hi_len, h, Nat.min_self]
  · intro i h1 h2
    rw [List.getElem_zipWith]
    simp only [loR, hiR, List.getElem_map, List.getElem_range]
    have : row.getD i 0 = row[i] := by rw [List.getD_eq_getElem?_getD, List.getElem?_eq_getElem h2]; rfl
    rw [this]
    split <;> grind
theorem area_hi {x b : Rat} {es : List (Option Rat)} {row : List Rat} {k : Nat} (h : row.length = es.length) : area x b es (hiR k es.length row) = area x b es row - area x b es (loR k es.length row) := by
  have e := area_add (x := x) (es := es) (b := b) (r := loR k es.length row) (t := hiR k es.length row) (by rw [lo_len, hi_len])
  rw [lo_hi h] at e
  grind
theorem mem_lo {k n : Nat} {row : List Rat} {v : Rat} (h : row.length = n) (hv : v ∈ loR k n row) : v = 0 ∨ v ∈ row := by
  obtain ⟨i, hi, e⟩ := List.mem_map.mp hv
  split at e
  · right
    rw [← e, List.getD_eq_getElem?_getD, List.getElem?_eq_getElem (by rw [h]; exact List.mem_range.mp hi)]
    exact List.getElem_mem _
  · exact .inl e.symm
theorem mem_hi {k n : Nat} {row : List Rat} {v : Rat} (h : row.length = n) (hv : v ∈ hiR k n row) : v = 0 ∨ v ∈ row := by
  obtain ⟨i, hi, e⟩ := List.mem_map.mp hv
  split at e
  · exact .inl e.symm
  · right
    rw [← e, List.getD_eq_getElem?_getD, List.getElem?_eq_getElem (by rw [h]; exact List.mem_range.mp hi)]
    exact List.getElem_mem _
end LN
namespace LN
open PySem PySem.Spec PyProof.Rows L2 SlX
theorem mem_put {α : Type} {l : List (Str × α)} {k : Str} {v : α} {p : Str × α} (h : p ∈ putP l k v) : p = (k, v) ∨ p ∈ l := by
  unfold putP at h
  split at h
  · obtain ⟨q, hq, e⟩ := List.mem_map.mp h
    split at e
    · rename_i c
      left
      rw [← e, c]
    · right
      rw [← e]; exact hq
  · rcases List.mem_append.mp h with h | h
    · exact .inr h
    · exact .inl (List.mem_singleton.mp h)
theorem put_keys {α : Type} {l : List (Str × α)} {k : Str} {v : α} (h : (l.map (·.1)).Nodup) : ((putP l k v).map (·.1)).Nodup := by
  unfold putP
  split
  · rw [List.map_map]
    have : ((fun x : Str × α => x.1) ∘ fun p : Str × α => if p.1 = k then (p.1, v) else p) = fun x => x.1 := by
      funext p
      show (if p.1 = k then (p.1, v) else p).1 = p.1
      split <;> rfl
    rw [this]; exact h
  · rename_i c
    rw [List.map_append, List.nodup_append]
    refine ⟨h, by simp, fun a ha b hb e => ?_⟩
    obtain ⟨q, hq, e2⟩ := List.mem_map.mp ha
    rw [List.map_cons, List.map_nil, List.mem_singleton] at hb
    exact c (List.any_eq_true.mpr ⟨q, hq, decide_eq_true (by rw [e2, e, hb])⟩)
theorem getP_key {α : Type} {l : List (Str × α)} {k : Str} {v : α} (h : getP l k = some v) : k ∈ l.map (·.1) := List.mem_map.mpr ⟨_, getP_mem h, rfl⟩
theorem key_getP {α : Type} : ∀ {l : List (Str × α)} {k : Str}, k ∈ l.map (·.1) → ∃ v, getP l k = some v
  | [], _, h => by simp at h
  | p :: l, k, h => by
    rw [getP_cons]
    by_cases c : p.1 = k
    · rw [if_pos c]; exact ⟨_, rfl⟩
    · rw [if_neg c]
      rw [List.map_cons] at h
      rcases List.mem_cons.mp h with e | e
      · exact absurd e.symm c
      · exact key_getP e
theorem getP_nodup {α : Type} : ∀ {l : List (Str × α)} {k : Str} {v : α}, (l.map (·.1)).Nodup → (k, v) ∈ l → getP l k = some v
  | [], _, _, _, h => by simp at h
  | p :: l, k, v, hn, h => by
    rw [List.map_cons, List.nodup_cons] at hn
    rw [getP_cons]
    rcases List.mem_cons.mp h with e | e
    · rw [← e, if_pos rfl]
    · rw [if_neg fun z => hn.1 (List.mem_map.mpr ⟨_, e, z.symm⟩)]
      exact getP_nodup hn.2 e
/-! ### the stretches, as they grow -/
structure SOk (s : Sts) : Prop where
  asc : Asc 0 s.es
  nd : (s.rows.map (·.1)).Nodup
  len : ∀ p ∈ s.rows, p.2.length = s.es.length
  pos : ∀ p ∈ s.rows, ∀ v ∈ p.2, 0 ≤ v
theorem row_of {s : Sts} {k : Str} {row : List Rat} (h : getP s.rows k = some row) : s.row k = row := by unfold Sts.row; rw [h]; rfl
/-- the flows at x are the rows' areas -/
def RelA (s : Sts) (l : Fl) (x : Rat) : Prop := ∀ k, getP l k = (getP s.rows k).map (area x 0 s.es)
theorem RelA.gS {s : Sts} {l : Fl} {x : Rat} {k : Str} {row : List Rat} (h : RelA s l x) (hk : getP s.rows k = some row) : gS l k = area x 0 s.es row := by
  unfold LN.gS
  rw [h k, hk]; rfl
theorem part_none (s : Sts) : partAt s none = s := rfl
theorem part_some {s : Sts} {w : Rat} (h : ¬ (w = 0 ∨ some w ∈ s.es)) (ok : SOk s) : partAt s (some w) = ⟨insW w s.es, s.rows.map fun p => (p.1, dupW w s.es p.2)⟩ := by
  show (if w = 0 ∨ some w ∈ s.es then s else _) = _
  rw [if_neg h, ins_eq ok.asc]
  congr 1
  exact List.map_congr_left fun p _ => by rw [dup_eq ok.asc]
theorem part_ok {s : Sts} {w : Option Rat} (ok : SOk s) (hw : ∀ x, w = some x → 0 ≤ x) : SOk (partAt s w) ∧ (∀ l x, RelA s l x → RelA (partAt s w) l x) ∧ (∀ x, w = some x → x ≠ 0 → some x ∈ (partAt s w).es) ∧
    (∀ k, (getP (partAt s w).rows k).isSome = (getP s.rows k).isSome) := by
  cases w with
  | none => exact ⟨ok, fun _ _ h => h, (fun _ e => nomatch e), fun _ => rfl⟩
  | some w =>
    by_cases c : w = 0 ∨ some w ∈ s.es
    · have e : partAt s (some w) = s := if_pos c
      rw [e]
      exact ⟨ok, fun _ _ h => h, fun x e hx => by injection e with e; subst e; exact c.resolve_left hx, fun _ => rfl⟩
    · rw [part_some c ok]
      have wp : 0 < w := by
        have := hw w rfl
        have : w ≠ 0 := fun z => c (.inl z)
        grind
      refine ⟨⟨asc_ins ok.asc wp fun z => c (.inr z), ?_, fun p hp => ?_, fun p hp v hv => ?_⟩, fun l x h k => ?_, fun x e _ => ?_, fun k => ?_⟩
      · rw [List.map_map]; exact ok.nd
      · obtain ⟨q, hq, rfl⟩ := List.mem_map.mp hp
        show (dupW w s.es q.2).length = (insW w s.es).length
        rw [dupW_len, ins_len, ok.len q hq]
      · obtain ⟨q, hq, rfl⟩ := List.mem_map.mp hp
        exact ok.pos q hq v (mem_dup ok.asc (ok.len q hq).symm hv)
      · show _ = (getP (s.rows.map fun p => (p.1, dupW w s.es p.2)) k).map (area x 0 (insW w s.es))
        rw [h k, getP_map]
        cases e : getP s.rows k with
        | none => rfl
        | some row =>
          show some _ = some _
          rw [area_dup ok.asc (ok.len _ (getP_mem e)).symm]
      · injection e with e; subst e
        exact mem_ins.mpr (.inl rfl)
      · show (getP (s.rows.map fun p => (p.1, dupW w s.es p.2)) k).isSome = _
        rw [getP_map]
        cases getP s.rows k <;> rfl
theorem putS_ok {s : Sts} (ok : SOk s) {k : Str} {row : List Rat} (hl : row.length = s.es.length) (hp : ∀ v ∈ row, 0 ≤ v) : SOk ⟨s.es, putP s.rows k row⟩ :=
  ⟨ok.asc, put_keys ok.nd, fun p h => by
    rcases mem_put h with e | e
    · rw [e]; exact hl
    · exact ok.len p e, fun p h => by
    rcases mem_put h with e | e
    · rw [e]; exact hp
    · exact ok.pos p e⟩
theorem putR_ok {s : Sts} {l : Fl} {x v : Rat} (h : RelA s l x) {k : Str} {row : List Rat} (hv : v = area x 0 s.es row) : RelA ⟨s.es, putP s.rows k row⟩ (putP l k v) x := fun k' => by
  show getP (putP l k v) k' = (getP (putP s.rows k row) k').map (area x 0 s.es)
  rw [getP_put, getP_put]
  by_cases c : k' = k
  · rw [if_pos c, if_pos c, hv]; rfl
  · rw [if_neg c, if_neg c]; exact h k'
theorem cutAt_pos {es : List (Option Rat)} {row : List Rat} {q w : Rat} (ha : Asc 0 es) (hl : row.length = es.length) (hr : ∀ v ∈ row, 0 ≤ v) (hq : 0 ≤ q) (h : cutAt es row q = some w) : 0 ≤ w ∧ (q ≠ 0 → 0 < w ∧ area w 0 es row = q) ∧ (q = 0 → w = 0) := by
  unfold cutAt at h
  split at h
  · rename_i c
    injection h with h
    exact ⟨by grind, fun z => absurd c z, fun _ => h.symm⟩
  · rename_i c
    have := cut_some ha hl.symm (by grind) hr h
    exact ⟨by grind, fun _ => by grind, fun z => absurd z c⟩
/-- what a part asks of the numbers -/
def QOk : Part → Prop
  | .weir _ q _ _ => 0 ≤ q
  | .div _ q _ _ => 0 ≤ q ∧ q ≤ 1
  | .join _ _ _ => True
theorem cut_area {s : Sts} (ok : SOk s) {row : List Rat} (hl : row.length = s.es.length) (hr : ∀ v ∈ row, 0 ≤ v) {q : Rat} (hq : 0 ≤ q) {es : List (Option Rat)} {wh : Option Rat} {row1 : List Rat} {x : Rat} (hx : 0 ≤ x)
    (hc : cutAt s.es row q = wh) (ha : Asc 0 es) (hl1 : row1.length = es.length) (hr1 : ∀ v ∈ row1, 0 ≤ v) (hm : ∀ w, wh = some w → w ≠ 0 → some w ∈ es) (he : ∀ x, area x 0 es row1 = area x 0 s.es row) :
    area x 0 es (loR (firstOf es wh) es.length row1) = mn (area x 0 es row1) q := by
  cases wh with
  | none =>
    show area x 0 es (loR es.length es.length row1) = _
    rw [lo_all hl1]
    unfold cutAt at hc
    split at hc
    · cases hc
    · have := cut_none (x := x) ok.asc hl.symm (show (0 : Rat) < q by grind) hr hc
      rw [he x, mn_of_le (by grind)]
  | some w =>
    obtain ⟨h1, h2, h3⟩ := cutAt_pos ok.asc hl hr hq hc
    by_cases c : w = 0
    · have q0 : q = 0 := by
        apply Classical.byContradiction
        intro z
        have := h2 z
        grind
      show area x 0 es (loR (placeFor es w + if w = 0 then 0 else 1) es.length row1) = _
      rw [if_pos c, c, place_zero ha Rat.le_refl, show 0 + 0 = 0 from rfl, loR_zero, area_zeros, q0, mn_of_ge (area_nonneg ha hr1)]
    · have q1 : q ≠ 0 := fun z => c (h3 z)
      obtain ⟨h4, h5⟩ := h2 q1
      show area x 0 es (loR (placeFor es w + if w = 0 then 0 else 1) es.length row1) = _
      rw [if_neg c, area_lo ha hl1.symm (hm w rfl c)]
      rw [← he w] at h5
      by_cases d : x ≤ w
      · rw [mn_of_le d, mn_of_le]
        rw [← h5]; exact area_mono d ha hr1
      · have d2 : w ≤ x := by grind
        rw [mn_of_ge d2, mn_of_ge]
        · exact h5
        · rw [← h5]; exact area_mono d2 ha hr1
theorem lo_ok {s : Sts} {k n : Nat} {row : List Rat} (hl : row.length = n) (h : ∀ v ∈ row, 0 ≤ v) : ∀ v ∈ loR k n row, 0 ≤ v := fun v hv => by
  rcases mem_lo hl hv with e | e
  · rw [e]; exact Rat.le_refl
  · exact h v e
theorem hi_ok {s : Sts} {k n : Nat} {row : List Rat} (hl : row.length = n) (h : ∀ v ∈ row, 0 ≤ v) : ∀ v ∈ hiR k n row, 0 ≤ v := fun v hv => by
  rcases mem_hi hl hv with e | e
  · rw [e]; exact Rat.le_refl
  · exact h v e
/-- a part's taking: the state stays well, the flows stay the areas -/
theorem take_ok {s : Sts} (ok : SOk s) {p : Part} (hq : QOk p) (hin : ∀ n ∈ p.ins, ∃ row, getP s.rows n = some row) : SOk (takeS s p) ∧ ∀ l x, 0 ≤ x → RelA s l x → RelA (takeS s p) (stepP l p) x := by
  cases p with
  | weir a q t r =>
    obtain ⟨row, hrow⟩ := hin a List.mem_cons_self
    have hl := ok.len _ (getP_mem hrow)
    have hp := ok.pos _ (getP_mem hrow)
    have er := row_of hrow
    have hcut : ∀ x, cutAt s.es (s.row a) q = some x → 0 ≤ x := fun x hx => (cutAt_pos ok.asc (by rw [er]; exact hl) (by rw [er]; exact hp) hq hx).1
    obtain ⟨ok1, rel1, mem1, some1⟩ := part_ok (w := cutAt s.es (s.row a) q) ok hcut
    have h1 : ∃ row1, getP (partAt s (cutAt s.es (s.row a) q)).rows a = some row1 := by
      have := some1 a
      rw [hrow] at this
      exact Option.isSome_iff_exists.mp this
    obtain ⟨row1, hrow1⟩ := h1
    have hl1 := ok1.len _ (getP_mem hrow1)
    have hp1 := ok1.pos _ (getP_mem hrow1)
    have er1 := row_of hrow1
    have he : ∀ x, area x 0 (partAt s (cutAt s.es (s.row a) q)).es row1 = area x 0 s.es row := fun x => by
      have := rel1 (s.rows.map fun p => (p.1, area x 0 s.es p.2)) x (fun k => by rw [getP_map]) a
      rw [getP_map, hrow, hrow1] at this
      injection this with this
      exact this.symm
    have lo := fun x hx => cut_area (x := x) ok hl hp hq hx (by rw [← er]) ok1.asc hl1 hp1 mem1 he
    have okA := putS_ok ok1 (k := t) (row := loR (firstOf (partAt s (cutAt s.es (s.row a) q)).es (cutAt s.es (s.row a) q)) (partAt s (cutAt s.es (s.row a) q)).es.length row1) (lo_len _ _ _) (lo_ok (s := s) hl1 hp1)
    have okB := putS_ok okA (k := r) (row := hiR (firstOf (partAt s (cutAt s.es (s.row a) q)).es (cutAt s.es (s.row a) q)) (partAt s (cutAt s.es (s.row a) q)).es.length row1) (hi_len _ _ _) (hi_ok (s := s) hl1 hp1)
    refine ⟨?_, fun l x hx hR => ?_⟩
    · show SOk (weirS s a q t r)
      unfold weirS
      simp only [er1]
      exact okB
    · have hR1 := rel1 l x hR
      have g := hR1.gS hrow1
      show RelA (weirS s a q t r) (putP (putP l t (mn (gS l a) q)) r (gS l a - mn (gS l a) q)) x
      unfold weirS
      simp only [er1]
      have hlo := lo x hx
      refine putR_ok (s := ⟨(partAt s (cutAt s.es (s.row a) q)).es, putP (partAt s (cutAt s.es (s.row a) q)).rows t _⟩) (putR_ok hR1 ?_) ?_
      · rw [g, hlo]
      · show _ = area x 0 (partAt s (cutAt s.es (s.row a) q)).es _
        rw [area_hi hl1, hlo, g]
  | div a q t r =>
    obtain ⟨row, hrow⟩ := hin a List.mem_cons_self
    have hl := ok.len _ (getP_mem hrow)
    have hp := ok.pos _ (getP_mem hrow)
    have er := row_of hrow
    have okA := putS_ok ok (k := t) (row := row.map (· * q)) (by rw [List.length_map]; exact hl) (fun v hv => by
      obtain ⟨u, hu, rfl⟩ := List.mem_map.mp hv
      exact Rat.mul_nonneg (hp u hu) hq.1)
    have okB := putS_ok okA (k := r) (row := row.map (· * (1 - q))) (by rw [List.length_map]; exact hl) (fun v hv => by
      obtain ⟨u, hu, rfl⟩ := List.mem_map.mp hv
      have := hq.2
      exact Rat.mul_nonneg (hp u hu) (by grind))
    refine ⟨?_, fun l x hx hR => ?_⟩
    · show SOk (divS s a q t r)
      unfold divS
      rw [er]
      exact okB
    · have g := hR.gS hrow
      show RelA (divS s a q t r) (putP (putP l t (gS l a * q)) r (gS l a - gS l a * q)) x
      unfold divS
      rw [er]
      refine putR_ok (s := ⟨s.es, putP s.rows t (row.map (· * q))⟩) (putR_ok hR ?_) ?_
      · rw [g, area_smul]
      · show _ = area x 0 s.es _
        rw [g, area_smul]; grind
  | join a b t =>
    obtain ⟨row, hrow⟩ := hin a List.mem_cons_self
    obtain ⟨row2, hrow2⟩ := hin b (List.mem_cons_of_mem _ List.mem_cons_self)
    have hl := ok.len _ (getP_mem hrow)
    have hp := ok.pos _ (getP_mem hrow)
    have hl2 := ok.len _ (getP_mem hrow2)
    have hp2 := ok.pos _ (getP_mem hrow2)
    have okA := putS_ok ok (k := t) (row := List.zipWith (· + ·) row row2) (by
      rw [List.length_zipWith]
      have h1 : row.length = s.es.length := hl
      have h2 : row2.length = s.es.length := hl2
      omega) (fun v hv => by
      obtain ⟨i, hi, e⟩ := List.mem_iff_getElem.mp hv
      rw [List.getElem_zipWith] at e
      rw [← e]
      exact Rat.add_nonneg (hp _ (List.getElem_mem _)) (hp2 _ (List.getElem_mem _)))
    refine ⟨?_, fun l x hx hR => ?_⟩
    · show SOk (joinS s a b t)
      unfold joinS
      rw [row_of hrow, row_of hrow2]
      exact okA
    · show RelA (joinS s a b t) (putP l t (gS l a + gS l b)) x
      unfold joinS
      rw [row_of hrow, row_of hrow2]
      refine putR_ok hR ?_
      rw [hR.gS hrow, hR.gS hrow2, area_add (show row.length = row2.length from hl.trans hl2.symm)]
end LN
namespace LN
open PySem PySem.Spec PyProof.Rows L2 SlX
/-! ### sizes: multiples of 1/N up to B -/
def G (N B : Nat) (q : Rat) : Prop := 0 ≤ q ∧ q ≤ (B : Rat) ∧ ∃ z : Nat, q * (N : Rat) = (z : Rat)
theorem cast_mul (a b : Nat) : ((a * b : Nat) : Rat) = (a : Rat) * (b : Rat) := Rat.natCast_mul a b
theorem cast_add (a b : Nat) : ((a + b : Nat) : Rat) = (a : Rat) + (b : Rat) := Rat.natCast_add a b
theorem cast_sub {a b : Nat} (h : b ≤ a) : ((a - b : Nat) : Rat) = (a : Rat) - (b : Rat) := by
  have e := cast_add (a - b) b
  rw [Nat.sub_add_cancel h] at e
  rw [e]; grind
theorem cast_pos {a : Nat} (h : 0 < a) : (0 : Rat) < (a : Rat) := Rat.natCast_pos.mpr h
theorem G.nonneg {N B : Nat} {q : Rat} (h : G N B q) : 0 ≤ q := h.1
theorem G.zero (N B : Nat) : G N B 0 := ⟨Rat.le_refl, Rat.natCast_nonneg, 0, by rw [Rat.zero_mul]; rfl⟩
theorem G.mono {N B C : Nat} {q : Rat} (h : G N B q) (k : B ≤ C) : G N C q := ⟨h.1, Rat.le_trans h.2.1 (Rat.natCast_le_natCast.mpr k), h.2.2⟩
theorem G.dvd {N M B : Nat} {q : Rat} (h : G N B q) (k : N ∣ M) : G M B q := by
  obtain ⟨c, rfl⟩ := k
  obtain ⟨h1, h2, z, hz⟩ := h
  refine ⟨h1, h2, z * c, ?_⟩
  rw [cast_mul, cast_mul, ← hz]; grind
theorem G.le {N B C : Nat} {q : Rat} (h : G N B q) (k : q ≤ (C : Rat)) : G N C q := ⟨h.1, k, h.2.2⟩
theorem G.add {N B C : Nat} {a b : Rat} (h : G N B a) (k : G N C b) : G N (B + C) (a + b) := by
  obtain ⟨h1, h2, z, hz⟩ := h
  obtain ⟨k1, k2, y, hy⟩ := k
  refine ⟨Rat.add_nonneg h1 k1, by rw [cast_add]; grind, z + y, ?_⟩
  rw [cast_add, ← hz, ← hy]; grind
theorem G.sub {N B C : Nat} {a b : Rat} (h : G N B a) (k : G N C b) (hle : b ≤ a) : G N B (a - b) := by
  obtain ⟨h1, h2, z, hz⟩ := h
  obtain ⟨k1, k2, y, hy⟩ := k
  have hyz : y ≤ z := by
    have : b * (N : Rat) ≤ a * (N : Rat) := Rat.mul_le_mul_of_nonneg_right hle Rat.natCast_nonneg
    rw [hz, hy] at this
    exact Rat.natCast_le_natCast.mp this
  refine ⟨by grind, by grind, z - y, ?_⟩
  rw [cast_sub hyz, ← hz, ← hy]; grind
theorem G.mul {N M B C : Nat} {a b : Rat} (h : G N B a) (k : G M C b) : G (N * M) (B * C) (a * b) := by
  obtain ⟨h1, h2, z, hz⟩ := h
  obtain ⟨k1, k2, y, hy⟩ := k
  refine ⟨Rat.mul_nonneg h1 k1, ?_, z * y, ?_⟩
  · rw [cast_mul]
    exact Rat.le_trans (Rat.mul_le_mul_of_nonneg_right h2 k1) (Rat.mul_le_mul_of_nonneg_left k2 Rat.natCast_nonneg)
  · rw [cast_mul, cast_mul, ← hz, ← hy]; grind
theorem G.div {N M B C : Nat} {a b : Rat} (hM : 0 < M) (h : G N B a) (k : G M C b) (hb : 0 < b) : ∃ n : Nat, 0 < n ∧ n ≤ C * M ∧ G (N * n) (B * M) (a / b) := by
  obtain ⟨h1, h2, z, hz⟩ := h
  obtain ⟨k1, k2, n, hn⟩ := k
  have mp := cast_pos hM
  have hnp : 0 < n := by
    have : (0 : Rat) < (n : Rat) := by rw [← hn]; exact Rat.mul_pos hb mp
    exact Rat.natCast_pos.mp this
  have e : a / b * b = a := Rat.div_mul_cancel (by grind)
  have d0 : 0 ≤ a / b := by
    rw [Rat.div_def]; exact Rat.mul_nonneg h1 (Rat.le_of_lt (Rat.inv_pos.mpr hb))
  refine ⟨n, hnp, ?_, d0, ?_, z * M, ?_⟩
  · refine Rat.natCast_le_natCast.mp ?_
    rw [cast_mul, ← hn]
    exact Rat.mul_le_mul_of_nonneg_right k2 Rat.natCast_nonneg
  · have n1 : (1 : Rat) ≤ (n : Rat) := Rat.natCast_le_natCast.mpr hnp
    rw [← hn] at n1
    have s1 : a / b * 1 ≤ a / b * (b * (M : Rat)) := Rat.mul_le_mul_of_nonneg_left n1 d0
    have s2 : a / b * (b * (M : Rat)) = a * (M : Rat) := by rw [← Rat.mul_assoc, e]
    have s3 : a * (M : Rat) ≤ (B : Rat) * (M : Rat) := Rat.mul_le_mul_of_nonneg_right h2 Rat.natCast_nonneg
    rw [cast_mul]; grind
  · rw [cast_mul, cast_mul, ← hn, ← hz]
    rw [show a / b * ((N : Rat) * (b * (M : Rat))) = (a / b * b) * (N : Rat) * (M : Rat) by grind, e]
theorem G.num {N B : Nat} {q : Rat} (hN : 0 < N) (h : G N B q) : q.num.natAbs ≤ B * N ∧ q.den ≤ N := by
  obtain ⟨h1, h2, z, hz⟩ := h
  have np := cast_pos hN
  have e : q = mkRat (z : Int) N := by
    rw [Rat.mkRat_eq_div, show ((z : Int) : Rat) = (z : Rat) from rfl, ← hz, Rat.mul_div_cancel (by grind)]
  have hzB : z ≤ B * N := by
    refine Rat.natCast_le_natCast.mp ?_
    rw [cast_mul, ← hz]
    exact Rat.mul_le_mul_of_nonneg_right h2 Rat.natCast_nonneg
  obtain ⟨g1, g2⟩ := gcd_of_mk (t := z) hN
  rw [e, g1, g2, Int.natAbs_natCast]
  exact ⟨Nat.le_trans (Nat.div_le_self _ _) hzB, Nat.div_le_self _ _⟩
theorem mlt {a b i j : Nat} (h : a < 2 ^ i) (k : b < 2 ^ j) : a * b < 2 ^ (i + j) := by
  rw [Nat.pow_add]
  exact Nat.mul_lt_mul'' h k
theorem plt {a i j : Nat} (h : a < 2 ^ i) (k : i ≤ j) : a < 2 ^ j := Nat.lt_of_lt_of_le h (Nat.pow_le_pow_right (by decide) k)
theorem G.txt {N B : Nat} {q : Rat} (h : G N B q) (hN : 0 < N) (h1 : N < 2 ^ 900) (h2 : B < 2 ^ 900) : TxtOk q := by
  obtain ⟨g1, g2⟩ := h.num hN
  refine ⟨h.1, Nat.lt_of_le_of_lt g1 (plt (mlt h2 h1) (by omega)), Nat.lt_of_le_of_lt g2 (plt h1 (by omega))⟩
theorem TxtOk.fit {q : Rat} (h : TxtOk q) : Fit q := ⟨h.1, plt h.2.1 (by omega), plt h.2.2 (by omega)⟩
theorem G.fit {N B : Nat} {q : Rat} (h : G N B q) (hN : 0 < N) (h1 : N < 2 ^ 900) (h2 : B < 2 ^ 900) : Fit q := (h.txt hN h1 h2).fit
/-! the cut's numbers -/
theorem cut_sizes {E D A X L : Nat} {lim : Rat} (hE : 0 < E) (hD : 0 < D) (bE : E < 2 ^ 560) (bD : D < 2 ^ 60) (bA : A < 2 ^ 60) (bX : X < 2 ^ 60) (bL : L < 2 ^ 60) (limN : G (6 * (E * D)) L lim) :
    ∀ {es : List (Option Rat)} {row : List Rat} {got b : Rat}, Asc b es → es.length = row.length → (∀ e, some e ∈ es → G E X e) → (∀ v ∈ row, G D A v) → G E X b → G (6 * (E * D)) L got → got < lim →
      CutOk lim got b es row ∧ ∀ w, cutGo lim got b es row = some w → ∃ n : Nat, 0 < n ∧ n ≤ A * D ∧ G (6 * (E * D) * n) (X + L * D) w := by
  have bN : 6 * (E * D) < 2 ^ (3 + (560 + 60)) := mlt (by decide) (mlt bE bD)
  have pN : 0 < 6 * (E * D) := Nat.mul_pos (by decide) (Nat.mul_pos hE hD)
  have fE : ∀ {q : Rat}, G E X q → Fit q := fun h => h.fit hE (plt bE (by omega)) (plt bX (by omega))
  have fD : ∀ {q : Rat}, G D A q → Fit q := fun h => h.fit hD (plt bD (by omega)) (plt bA (by omega))
  have fN : ∀ {q : Rat}, G (6 * (E * D)) L q → Fit q := fun h => h.fit pN (plt bN (by omega)) (plt bL (by omega))
  have fin : ∀ {got b s : Rat}, G E X b → G (6 * (E * D)) L got → got < lim → G D A s → 0 < s → Fit (lim - got) ∧ Fit ((lim - got) / s) ∧ ∃ n : Nat, 0 < n ∧ n ≤ A * D ∧ G (6 * (E * D) * n) (X + L * D) (b + (lim - got) / s) := by
    intro got b s hb hg hl hs sp
    have d := limN.sub hg (Rat.le_of_lt hl)
    obtain ⟨n, n1, n2, g⟩ := G.div hD d hs sp
    have bn : n < 2 ^ (60 + 60) := Nat.lt_of_le_of_lt n2 (mlt bA bD)
    refine ⟨fN d, g.fit (Nat.mul_pos pN n1) (plt (mlt bN bn) (by omega)) (plt (mlt bL bD) (by omega)), n, n1, n2, ?_⟩
    exact (hb.dvd ⟨6 * D * n, by grind⟩).add g
  intro es
  induction es with
  | nil => intro row got b h; exact h.elim
  | cons e es ih =>
    intro row got b ha hl he hr hb hg hlt
    cases row with
    | nil => cases hl
    | cons s row =>
      have hs := hr s List.mem_cons_self
      have s0 := hs.1
      cases e with
      | none =>
        refine ⟨⟨⟨fN hg, fE hb, fD hs, Rat.le_of_lt hlt⟩, fun z => ?_⟩, fun w hw => ?_⟩
        · have sp : 0 < s := by grind
          obtain ⟨f1, f2, _⟩ := fin hb hg hlt hs sp
          exact ⟨sp, f1, f2⟩
        · unfold cutGo at hw
          split at hw
          · cases hw
          · injection hw with hw
            rw [← hw]
            exact (fin hb hg hlt hs (by grind)).2.2
      | some e =>
        have hbe := ha.1
        have ge := he e List.mem_cons_self
        have g1 := ge.sub hb (Rat.le_of_lt hbe)
        have g2 := hs.mul g1
        have g3 := hg.add (g2.dvd (M := 6 * (E * D)) ⟨6, by rw [Nat.mul_comm D E, Nat.mul_comm]⟩)
        have bAX := mlt bA bX
        have sp : ¬ got + s * (e - b) < lim → 0 < s := fun z => by
          have : s ≠ 0 := fun c => z (by rw [c]; grind)
          grind
        refine ⟨⟨⟨fN hg, fE hb, fD hs, Rat.le_of_lt hlt⟩, ⟨fE ge, Rat.le_of_lt hbe, fE g1, ?_, ?_⟩, fun z => ?_, fun z => ?_⟩, fun w hw => ?_⟩
        · exact g2.fit (Nat.mul_pos hD hE) (plt (mlt bD bE) (by omega)) (plt bAX (by omega))
        · exact g3.fit pN (plt bN (by omega)) (Nat.lt_of_lt_of_le (Nat.add_lt_add (plt bL (j := 120) (by omega)) bAX) (by
            rw [← Nat.two_mul, show 2 * 2 ^ (60 + 60) = 2 ^ 121 from rfl]
            exact Nat.pow_le_pow_right (by decide) (by omega)))
        · exact (ih ha.2 (by simpa using hl) (fun x hx => he x (List.mem_cons_of_mem _ hx)) (fun v hv => hr v (List.mem_cons_of_mem _ hv)) ge (g3.le (Rat.le_trans (Rat.le_of_lt z) limN.2.1)) z).1
        · obtain ⟨f1, f2, _⟩ := fin hb hg hlt hs (sp z)
          exact ⟨sp z, f1, f2⟩
        · unfold cutGo at hw
          split at hw
          · rename_i z
            exact (ih ha.2 (by simpa using hl) (fun x hx => he x (List.mem_cons_of_mem _ hx)) (fun v hv => hr v (List.mem_cons_of_mem _ hv)) ge (g3.le (Rat.le_trans (Rat.le_of_lt z) limN.2.1)) z).2 w hw
          · rename_i z
            injection hw with hw
            rw [← hw]
            exact (fin hb hg hlt hs (sp z)).2.2
/-! the state after k drawn parts -/
def PG : Part → Prop
  | .weir _ q _ _ => G 6 10001 q
  | .div _ q _ _ => G 12 1 q
  | .join _ _ _ => True
theorem PG.q : ∀ {p : Part}, PG p → QOk p
  | .weir _ _ _ _, h => h.1
  | .div _ _ _ _, h => ⟨h.1, h.2.1⟩
  | .join _ _ _, _ => trivial
structure Gd (k : Nat) (s : Sts) : Prop where
  ok : SOk s
  ln : s.es.length ≤ k + 1
  rn : s.rows.length ≤ 2 * k + 1
  gr : ∃ E : Nat, 0 < E ∧ E ≤ (2 ^ 68) ^ k ∧ ∀ e, some e ∈ s.es → G E (k * 2 ^ 43) e
  rg : ∀ p ∈ s.rows, ∀ v ∈ p.2, G (12 ^ k) (2 ^ k) v
theorem asc_non : ∀ {es : List (Option Rat)} {b : Rat}, Asc b es → none ∈ es
  | [], _, h => h.elim
  | none :: _, _, _ => List.mem_cons_self
  | some _ :: _, _, h => List.mem_cons_of_mem _ (asc_non h.2)
theorem p12 {k : Nat} (h : k ≤ 8) : 0 < 12 ^ k ∧ 12 ^ k < 2 ^ 60 := by
  refine ⟨Nat.pow_pos (by decide), Nat.lt_of_le_of_lt (Nat.pow_le_pow_right (by decide) h) (by decide)⟩
theorem p2 {k : Nat} (h : k ≤ 8) : 0 < 2 ^ k ∧ 2 ^ k < 2 ^ 60 := by
  refine ⟨Nat.pow_pos (by decide), Nat.lt_of_le_of_lt (Nat.pow_le_pow_right (by decide) h) (by decide)⟩
theorem pE {k E : Nat} (h : k ≤ 8) (hE : E ≤ (2 ^ 68) ^ k) : E < 2 ^ 560 := by
  rw [← Nat.pow_mul] at hE
  exact Nat.lt_of_le_of_lt hE (Nat.pow_lt_pow_right (by decide) (by omega))
theorem pX {k : Nat} (h : k ≤ 8) : k * 2 ^ 43 < 2 ^ 60 := by omega
theorem Gd.wf {k : Nat} {s : Sts} (h : Gd k s) (hk : k ≤ 8) : WF s := by
  obtain ⟨E, e0, e1, he⟩ := h.gr
  exact ⟨h.ok.nd, by have := h.ln; omega, by have := h.rn; omega, h.ok.len, fun e z => (he e z).fit e0 (plt (pE hk e1) (by omega)) (plt (pX hk) (by omega)),
    fun p hp v hv => (h.rg p hp v hv).fit (p12 hk).1 (plt (p12 hk).2 (by omega)) (plt (p2 hk).2 (by omega)), asc_non h.ok.asc⟩
theorem G.up {k : Nat} {v : Rat} (h : G (12 ^ k) (2 ^ k) v) : G (12 ^ (k + 1)) (2 ^ (k + 1)) v := (h.dvd ⟨12, Nat.pow_succ ..⟩).mono (Nat.pow_le_pow_right (by decide) (by omega))
theorem G10 {q : Rat} (h : G 6 10001 q) : Fit q := h.fit (by decide) (plt (i := 60) (by decide) (by omega)) (plt (i := 60) (by decide) (by omega))
theorem cut_gd {k : Nat} {s : Sts} (h : Gd k s) (hk : k ≤ 7) {row : List Rat} {a : Str} (hrow : getP s.rows a = some row) {q : Rat} (hq : G 6 10001 q) :
    (q ≠ 0 → CutOk q 0 0 s.es row) ∧ ∀ w, cutAt s.es row q = some w → w = 0 ∨ ∃ E : Nat, 0 < E ∧ E ≤ (2 ^ 68) ^ (k + 1) ∧ G E ((k + 1) * 2 ^ 43) w ∧ ∀ e, some e ∈ s.es → G E ((k + 1) * 2 ^ 43) e := by
  obtain ⟨E, e0, e1, he⟩ := h.gr
  have hk8 : k ≤ 8 := by omega
  have hm := getP_mem hrow
  have hb : q ≠ 0 → 0 < q := fun z => by
    have := hq.1
    grind
  have key := fun (z : q ≠ 0) => cut_sizes (lim := q) (got := 0) (b := 0) e0 (p12 hk8).1 (pE hk8 e1) (p12 hk8).2 (p2 hk8).2 (pX hk8) (by decide) (hq.dvd (Nat.dvd_mul_right _ _)) h.ok.asc (h.ok.len _ hm).symm he (h.rg _ hm) (G.zero _ _) (G.zero _ _) (hb z)
  refine ⟨fun z => (key z).1, fun w hw => ?_⟩
  unfold cutAt at hw
  split at hw
  · injection hw with hw
    exact .inl hw.symm
  · rename_i z
    right
    obtain ⟨n, n0, n1, g⟩ := (key z).2 w hw
    have b1 : 12 ^ k ≤ 12 ^ 7 := Nat.pow_le_pow_right (by decide) hk
    have b2 : 2 ^ k ≤ 2 ^ 7 := Nat.pow_le_pow_right (by decide) hk
    have b3 : n ≤ 2 ^ 7 * 12 ^ 7 := Nat.le_trans n1 (Nat.mul_le_mul b2 b1)
    refine ⟨6 * (E * 12 ^ k) * n, Nat.mul_pos (Nat.mul_pos (by decide) (Nat.mul_pos e0 (p12 hk8).1)) n0, ?_, g.mono ?_, fun e z => ((he e z).dvd ⟨6 * 12 ^ k * n, by grind⟩).mono (Nat.mul_le_mul_right _ (Nat.le_succ k))⟩
    · rw [Nat.pow_succ, show 6 * (E * 12 ^ k) * n = E * (6 * 12 ^ k * n) by grind]
      refine Nat.mul_le_mul e1 (Nat.le_trans (Nat.mul_le_mul (Nat.mul_le_mul_left 6 b1) b3) (by decide))
    · rw [show (k + 1) * 2 ^ 43 = k * 2 ^ 43 + 2 ^ 43 from Nat.succ_mul _ _]
      exact Nat.add_le_add_left (Nat.le_trans (Nat.mul_le_mul_left 10001 b1) (show 10001 * 12 ^ 7 ≤ 2 ^ 43 by decide)) _
theorem part_gd {k : Nat} {s : Sts} (h : Gd k s) (hk : k ≤ 7) {wh : Option Rat} (hp : ∀ w, wh = some w → 0 ≤ w)
    (hw : ∀ w, wh = some w → w = 0 ∨ ∃ E : Nat, 0 < E ∧ E ≤ (2 ^ 68) ^ (k + 1) ∧ G E ((k + 1) * 2 ^ 43) w ∧ ∀ e, some e ∈ s.es → G E ((k + 1) * 2 ^ 43) e) :
    (partAt s wh).es.length ≤ k + 2 ∧ (partAt s wh).rows.length = s.rows.length ∧ (∃ E : Nat, 0 < E ∧ E ≤ (2 ^ 68) ^ (k + 1) ∧ ∀ e, some e ∈ (partAt s wh).es → G E ((k + 1) * 2 ^ 43) e) ∧ (∀ p ∈ (partAt s wh).rows, ∀ v ∈ p.2, G (12 ^ k) (2 ^ k) v) := by
  have stay : s.es.length ≤ k + 2 ∧ s.rows.length = s.rows.length ∧ (∃ E : Nat, 0 < E ∧ E ≤ (2 ^ 68) ^ (k + 1) ∧ ∀ e, some e ∈ s.es → G E ((k + 1) * 2 ^ 43) e) ∧ (∀ p ∈ s.rows, ∀ v ∈ p.2, G (12 ^ k) (2 ^ k) v) := by
    obtain ⟨E, e0, e1, he⟩ := h.gr
    refine ⟨by have := h.ln; omega, rfl, ⟨E, e0, Nat.le_trans e1 (Nat.pow_le_pow_right (by decide) (by omega)), fun e z => (he e z).mono (Nat.mul_le_mul_right _ (by omega))⟩, h.rg⟩
  cases wh with
  | none => exact stay
  | some w =>
    by_cases c : w = 0 ∨ some w ∈ s.es
    · have e : partAt s (some w) = s := if_pos c
      rw [e]; exact stay
    · rw [part_some c h.ok]
      obtain ⟨E, e0, e1, gw, he⟩ := (hw w rfl).resolve_left fun z => c (.inl z)
      refine ⟨?_, ?_, ⟨E, e0, e1, fun e z => ?_⟩, fun p z v hv => ?_⟩
      · show (insW w s.es).length ≤ k + 2
        rw [ins_len]; have := h.ln; omega
      · show (s.rows.map _).length = _
        rw [List.length_map]
      · rcases mem_ins.mp z with z | z
        · injection z with z; rw [z]; exact gw
        · exact he e z
      · obtain ⟨q, hq, rfl⟩ := List.mem_map.mp z
        exact h.rg q hq v (mem_dup h.ok.asc (h.ok.len q hq).symm hv)
theorem len2 {α : Type} (l : List (Str × α)) (a b : Str) (x y : α) : (putP (putP l a x) b y).length ≤ l.length + 2 := by
  have h1 := putP_len (putP l a x) b y
  have h2 := putP_len l a x
  omega
/-- a drawn part's taking -/
theorem gd_take {k : Nat} {s : Sts} (h : Gd k s) (hk : k ≤ 7) {p : Part} (hp : PG p) (hin : ∀ n ∈ p.ins, ∃ row, getP s.rows n = some row) : StepOk s p ∧ Gd (k + 1) (takeS s p) := by
  have hok := (take_ok h.ok hp.q hin).1
  cases p with
  | weir a q t r =>
    have hq : G 6 10001 q := hp
    obtain ⟨row, hrow⟩ := hin a List.mem_cons_self
    have er := row_of hrow
    have hl := h.ok.len _ (getP_mem hrow)
    have hpr := h.ok.pos _ (getP_mem hrow)
    obtain ⟨c1, c2⟩ := cut_gd h hk hrow hq
    have c3 : ∀ w, cutAt s.es row q = some w → 0 ≤ w := fun w hw => (cutAt_pos h.ok.asc hl hpr hq.1 hw).1
    obtain ⟨d1, d2, ⟨E, e0, e1, he⟩, d4⟩ := part_gd h hk c3 c2
    obtain ⟨ok1, _, _, some1⟩ := part_ok h.ok c3
    have gd1 : Gd (k + 1) (partAt s (cutAt s.es row q)) := ⟨ok1, d1, by rw [d2]; have := h.rn; omega, ⟨E, e0, e1, he⟩, fun p hp v hv => (d4 p hp v hv).up⟩
    have h1 : ∃ row1, getP (partAt s (cutAt s.es row q)).rows a = some row1 := by
      have := some1 a
      rw [hrow] at this
      exact Option.isSome_iff_exists.mp this
    obtain ⟨row1, hrow1⟩ := h1
    have hm1 := getP_mem hrow1
    have er1 := row_of hrow1
    refine ⟨⟨⟨row, hrow⟩, G10 hq, by rw [er]; exact c1, fun w hw => ?_, by rw [er]; exact gd1.wf (by omega)⟩, hok, ?_, ?_, ?_, ?_⟩
    · rw [er] at hw
      rcases c2 w hw with z | ⟨E, e0, e1, g, _⟩
      · rw [z]; exact fit0
      · exact g.fit e0 (plt (pE (by omega) e1) (by omega)) (plt (pX (by omega)) (by omega))
    · show (weirS s a q t r).es.length ≤ _
      unfold weirS
      rw [er]; exact d1
    · show (weirS s a q t r).rows.length ≤ _
      unfold weirS
      rw [er]
      have := len2 (partAt s (cutAt s.es row q)).rows t r (loR (firstOf (partAt s (cutAt s.es row q)).es (cutAt s.es row q)) (partAt s (cutAt s.es row q)).es.length ((partAt s (cutAt s.es row q)).row a)) (hiR (firstOf (partAt s (cutAt s.es row q)).es (cutAt s.es row q)) (partAt s (cutAt s.es row q)).es.length ((partAt s (cutAt s.es row q)).row a))
      rw [d2] at this
      have := h.rn
      show (putP (putP _ _ _) _ _).length ≤ _
      omega
    · refine ⟨E, e0, e1, ?_⟩
      show ∀ e, some e ∈ (weirS s a q t r).es → _
      unfold weirS
      rw [er]; exact he
    · show ∀ p ∈ (weirS s a q t r).rows, _
      unfold weirS
      rw [er]
      simp only [er1]
      intro p hp v hv
      have hl1 := ok1.len _ hm1
      rcases mem_put hp with z | hp
      · rw [z] at hv
        rcases mem_hi hl1 hv with z | z
        · rw [z]; exact G.zero _ _
        · exact (d4 _ hm1 v z).up
      · rcases mem_put hp with z | hp
        · rw [z] at hv
          rcases mem_lo hl1 hv with z | z
          · rw [z]; exact G.zero _ _
          · exact (d4 _ hm1 v z).up
        · exact (d4 p hp v hv).up
  | div a q t r =>
    have hq : G 12 1 q := hp
    obtain ⟨row, hrow⟩ := hin a List.mem_cons_self
    have er := row_of hrow
    have hm := getP_mem hrow
    have q1 : G 12 1 (1 - q) := G.sub (⟨by decide, Rat.le_refl, 12, by rw [Rat.one_mul]⟩ : G 12 1 1) hq hq.2.1
    have f12 : ∀ {x : Rat}, G 12 1 x → Fit x := fun h => h.fit (by decide) (plt (i := 60) (by decide) (by omega)) (plt (i := 60) (by decide) (by omega))
    have gm : ∀ {u x : Rat}, G (12 ^ k) (2 ^ k) u → G 12 1 x → G (12 ^ (k + 1)) (2 ^ (k + 1)) (u * x) := fun h1 h2 => by
      have := h1.mul h2
      rw [← Nat.pow_succ, Nat.mul_one] at this
      exact this.mono (Nat.pow_le_pow_right (by decide) (by omega))
    refine ⟨⟨⟨row, hrow⟩, f12 hq, hq.2.1, f12 q1⟩, hok, ?_, ?_, ?_, ?_⟩
    · show s.es.length ≤ _
      have := h.ln; omega
    · show (putP (putP _ _ _) _ _).length ≤ _
      have := len2 s.rows t r ((s.row a).map (· * q)) ((s.row a).map (· * (1 - q)))
      have := h.rn
      omega
    · obtain ⟨E, e0, e1, he⟩ := h.gr
      exact ⟨E, e0, Nat.le_trans e1 (Nat.pow_le_pow_right (by decide) (by omega)), fun e z => (he e z).mono (Nat.mul_le_mul_right _ (by omega))⟩
    · show ∀ p ∈ (divS s a q t r).rows, _
      unfold divS
      rw [er]
      intro p hp v hv
      rcases mem_put hp with z | hp
      · rw [z] at hv
        obtain ⟨u, hu, rfl⟩ := List.mem_map.mp hv
        exact gm (h.rg _ hm u hu) q1
      · rcases mem_put hp with z | hp
        · rw [z] at hv
          obtain ⟨u, hu, rfl⟩ := List.mem_map.mp hv
          exact gm (h.rg _ hm u hu) hq
        · exact (h.rg p hp v hv).up
  | join a b t =>
    obtain ⟨row, hrow⟩ := hin a List.mem_cons_self
    obtain ⟨row2, hrow2⟩ := hin b (List.mem_cons_of_mem _ List.mem_cons_self)
    have hm := getP_mem hrow
    have hm2 := getP_mem hrow2
    refine ⟨⟨⟨row, hrow⟩, row2, hrow2⟩, hok, ?_, ?_, ?_, ?_⟩
    · show s.es.length ≤ _
      have := h.ln; omega
    · show (putP _ _ _).length ≤ _
      have := putP_len s.rows t (List.zipWith (· + ·) (s.row a) (s.row b))
      have := h.rn
      omega
    · obtain ⟨E, e0, e1, he⟩ := h.gr
      exact ⟨E, e0, Nat.le_trans e1 (Nat.pow_le_pow_right (by decide) (by omega)), fun e z => (he e z).mono (Nat.mul_le_mul_right _ (by omega))⟩
    · show ∀ p ∈ (joinS s a b t).rows, _
      unfold joinS
      rw [row_of hrow, row_of hrow2]
      intro p hp v hv
      rcases mem_put hp with z | hp
      · rw [z] at hv
        obtain ⟨i, hi, e⟩ := List.mem_iff_getElem.mp hv
        rw [List.getElem_zipWith] at e
        rw [← e]
        have hi2 : i < min row.length row2.length := by rw [← List.length_zipWith]; exact hi
        have := (h.rg _ hm _ (List.getElem_mem (n := i) (show i < row.length by omega))).add (h.rg _ hm2 _ (List.getElem_mem (n := i) (show i < row2.length by omega)))
        rw [← Nat.mul_two, ← Nat.pow_succ] at this
        exact this.dvd ⟨12, Nat.pow_succ ..⟩
      · exact (h.rg p hp v hv).up
end LN
namespace LN
open PySem PySem.Spec PyProof.Rows L2 SlX
/-! ### a net's parts one after another -/
theorem snoc_ind {α : Type} {P : List α → Prop} (h0 : P []) (hs : ∀ ps p, P ps → P (ps ++ [p])) : ∀ ps, P ps := fun ps => by
  have : ∀ n, ∀ ps : List α, ps.length = n → P ps := by
    intro n
    induction n with
    | zero => intro ps e; rw [List.length_eq_zero_iff.mp e]; exact h0
    | succ n ih =>
      intro ps e
      have ne : ps ≠ [] := fun z => by rw [z] at e; cases e
      rw [← List.dropLast_concat_getLast ne]
      exact hs _ _ (ih _ (by rw [List.length_dropLast, e]; rfl))
  exact this _ ps rfl
theorem valid_snoc {ps : List Part} {p : Part} (h : Valid (ps ++ [p])) : Valid ps ∧ PartOk (takenOf ps) (madeOf ps) p :=
  ⟨fun d q t e => h d q (t ++ [p]) (by rw [e]; simp), h ps p [] rfl⟩
theorem valid_of_snoc {ps : List Part} {p : Part} (h : Valid ps) (k : PartOk (takenOf ps) (madeOf ps) p) : Valid (ps ++ [p]) := fun d q t e => by
  rcases List.eq_nil_or_concat t with z | ⟨t', y, z⟩
  · subst z
    obtain ⟨e1, e2⟩ := List.append_inj' e rfl
    injection e2 with e2
    rw [← e1, ← e2]; exact k
  · rw [z] at e
    have e' : ps ++ [p] = (d ++ q :: t') ++ [y] := by rw [e]; simp
    exact h d q t' (List.append_inj' e' rfl).1
theorem valid_nil : Valid [] := fun d q t e => by simp at e
theorem runok_snoc : ∀ {ps : List Part} {s : Sts} {p : Part}, RunOk s ps → StepOk (ps.foldl takeS s) p → WF (takeS (ps.foldl takeS s) p) → RunOk s (ps ++ [p])
  | [], s, p, h, k, w => ⟨h, k, w⟩
  | q :: ps, s, p, h, k, w => ⟨h.1, h.2.1, runok_snoc h.2.2 k w⟩
theorem fold_snoc {β : Type} (f : β → Part → β) (ps : List Part) (p : Part) (b : β) : (ps ++ [p]).foldl f b = f (ps.foldl f b) p := by rw [List.foldl_append]; rfl
theorem made_snoc (ps : List Part) (p : Part) : madeOf (ps ++ [p]) = madeOf ps ++ p.outs := by rw [made_app]; simp
theorem taken_snoc (ps : List Part) (p : Part) : takenOf (ps ++ [p]) = takenOf ps ++ p.ins := by rw [taken_app]; simp
/-- a key that is there stays, the part's own come -/
theorem take_keys {s : Sts} {p : Part} {n : Str} (h : (∃ row, getP s.rows n = some row) ∨ n ∈ p.outs) : ∃ row, getP (takeS s p).rows n = some row := by
  have put : ∀ {l : List (Str × List Rat)} {k : Str} {r : List Rat}, (∃ row, getP l n = some row) ∨ n = k → ∃ row, getP (putP l k r) n = some row := by
    intro l k r h
    rw [getP_put]
    by_cases c : n = k
    · rw [if_pos c]; exact ⟨_, rfl⟩
    · rw [if_neg c]; exact h.resolve_right c
  cases p with
  | weir a q t r =>
    show ∃ row, getP (putP (putP (partAt s (cutAt s.es (s.row a) q)).rows t _) r _) n = some row
    refine put ?_
    rcases h with ⟨row, h⟩ | h
    · exact .inl (put (.inl (part_row _ h)))
    · simp only [Part.outs, List.mem_cons, List.not_mem_nil, or_false] at h
      rcases h with h | h
      · exact .inl (put (.inr h))
      · exact .inr h
  | div a q t r =>
    show ∃ row, getP (putP (putP s.rows t _) r _) n = some row
    refine put ?_
    rcases h with h | h
    · exact .inl (put (.inl h))
    · simp only [Part.outs, List.mem_cons, List.not_mem_nil, or_false] at h
      rcases h with h | h
      · exact .inl (put (.inr h))
      · exact .inr h
  | join a b t =>
    show ∃ row, getP (putP s.rows t _) n = some row
    refine put ?_
    rcases h with h | h
    · exact .inl h
    · simp only [Part.outs, List.mem_cons, List.not_mem_nil, or_false] at h
      exact .inr h
theorem made_keys : ∀ ps : List Part, ∀ n ∈ madeOf ps, ∃ row, getP (ps.foldl takeS st0).rows n = some row := by
  refine snoc_ind ?_ ?_
  · intro n hn
    have e : n = "in" := by simpa [madeOf] using hn
    subst e
    exact ⟨[1], rfl⟩
  · intro ps p ih n hn
    rw [made_snoc] at hn
    rw [fold_snoc]
    rcases List.mem_append.mp hn with z | z
    · exact take_keys (.inl (ih n z))
    · exact take_keys (.inr z)
theorem sok0 : SOk st0 := ⟨rfl, by simp [st0], by simp [st0], by
  intro p hp v hv
  simp only [st0, List.mem_singleton] at hp
  rw [hp] at hv
  simp only [List.mem_singleton] at hv
  rw [hv]; decide⟩
theorem gd0 : Gd 0 st0 := ⟨sok0, by decide, by decide, ⟨1, by decide, by decide, by simp [st0]⟩, by
  intro p hp v hv
  simp only [st0, List.mem_singleton] at hp
  rw [hp] at hv
  simp only [List.mem_singleton] at hv
  rw [hv]
  exact ⟨by decide, Rat.le_refl, 1, by rw [Nat.pow_zero, Rat.one_mul]⟩⟩
theorem rel0 (x : Rat) (hx : 0 ≤ x) : RelA st0 (run0 x) x := fun k => by
  show getP [(("in" : Str), x)] k = (getP [(("in" : Str), [(1 : Rat)])] k).map _
  rw [getP_cons, getP_cons]
  by_cases c : ("in" : Str) = k
  · rw [if_pos c, if_pos c]
    show some x = some (1 * (x - mn x 0))
    rw [mn_of_ge hx]; grind
  · rw [if_neg c, if_neg c]; rfl
/-- any valid net of weirs, dividers by at most the whole, joins -/
theorem net_ok : ∀ ps : List Part, Valid ps → (∀ p ∈ ps, QOk p) → SOk (ps.foldl takeS st0) ∧ ∀ x, 0 ≤ x → RelA (ps.foldl takeS st0) (runM ps x) x := by
  refine snoc_ind ?_ ?_
  · exact fun _ _ => ⟨sok0, rel0⟩
  · intro ps p ih hv hq
    obtain ⟨v1, v2⟩ := valid_snoc hv
    obtain ⟨i1, i2⟩ := ih v1 fun p hp => hq p (List.mem_append_left _ hp)
    have hin : ∀ n ∈ p.ins, ∃ row, getP (ps.foldl takeS st0).rows n = some row := fun n hn => made_keys ps n (v2.im n hn)
    obtain ⟨t1, t2⟩ := take_ok i1 (hq p (List.mem_append_right _ List.mem_cons_self)) hin
    refine ⟨by rw [fold_snoc]; exact t1, fun x hx => ?_⟩
    unfold runM
    rw [fold_snoc, fold_snoc]
    exact t2 _ x hx (i2 x hx)
/-- what a law's net holds -/
structure Nice (ps : List Part) : Prop where
  val : Valid ps
  nm : ∀ p ∈ ps, ∀ n ∈ p.ins ++ p.outs, StrOk n ∧ n.length ≤ 100
  pg : ∀ p ∈ ps, PG p
  len : ps.length ≤ 8
theorem gd_net : ∀ ps : List Part, Valid ps → (∀ p ∈ ps, PG p) → ps.length ≤ 8 → Gd ps.length (ps.foldl takeS st0) ∧ RunOk st0 ps := by
  refine snoc_ind ?_ ?_
  · exact fun _ _ _ => ⟨gd0, gd0.wf (by omega)⟩
  · intro ps p ih hv hq hl
    rw [List.length_append] at hl
    have hl1 : ps.length + 1 ≤ 8 := hl
    obtain ⟨v1, v2⟩ := valid_snoc hv
    obtain ⟨i1, i2⟩ := ih v1 (fun p hp => hq p (List.mem_append_left _ hp)) (by omega)
    have hin : ∀ n ∈ p.ins, ∃ row, getP (ps.foldl takeS st0).rows n = some row := fun n hn => made_keys ps n (v2.im n hn)
    obtain ⟨t1, t2⟩ := gd_take i1 (by omega) (hq p (List.mem_append_right _ List.mem_cons_self)) hin
    rw [fold_snoc, List.length_append]
    exact ⟨t2, runok_snoc i2 t1 (t2.wf hl1)⟩
theorem made_nm : ∀ ps : List Part, (∀ p ∈ ps, ∀ n ∈ p.ins ++ p.outs, StrOk n ∧ n.length ≤ 100) → (∀ n ∈ madeOf ps, StrOk n) ∧ ∀ n ∈ takenOf ps, StrOk n := fun ps h => by
  refine ⟨fun n hn => ?_, fun n hn => ?_⟩
  · rcases List.mem_cons.mp hn with z | z
    · rw [z]; decide +kernel
    · obtain ⟨p, hp, hn⟩ := List.mem_flatMap.mp z
      exact (h p hp n (List.mem_append_right _ hn)).1
  · obtain ⟨p, hp, hn⟩ := List.mem_flatMap.mp hn
    exact (h p hp n (List.mem_append_left _ hn)).1
theorem made_len : ∀ ps : List Part, (madeOf ps).length ≤ 2 * ps.length + 1 := by
  refine snoc_ind (by decide) ?_
  intro ps p ih
  rw [made_snoc, List.length_append, List.length_append]
  have : p.outs.length ≤ 2 := by cases p <;> simp [Part.outs]
  simp only [List.length_singleton]
  omega
theorem net_few {ps : List Part} (hl : ps.length ≤ 30) (h : ∀ p ∈ ps, ∀ n ∈ p.ins ++ p.outs, StrOk n ∧ n.length ≤ 100) : NetOk ps := by
  have := made_len ps
  have h2 := List.length_filter_le (fun n => decide (n ∉ takenOf ps)) (madeOf ps)
  exact ⟨(made_nm ps h).1, (made_nm ps h).2, by omega, by omega⟩
theorem out_made {ps : List Part} {n : Str} (h : n ∈ outsOf ps) : n ∈ madeOf ps := by
  unfold outsOf at h
  rw [setS_mem] at h
  exact (List.mem_filter.mp h).1
theorem Nice.tab {ps : List Part} (h : Nice ps) : TabNet ps := ⟨net_few (by have := h.len; omega) h.nm, (gd_net ps h.val h.pg h.len).2, fun n hn => made_keys ps n (out_made hn)⟩
theorem nm_ok {p : Part} (h : ∀ n ∈ p.ins ++ p.outs, StrOk n ∧ n.length ≤ 100) : p.NmOk := by
  cases p <;> simp only [Part.ins, Part.outs, List.cons_append, List.nil_append, List.forall_mem_cons] at h
  · exact ⟨h.1.1, h.2.1.1, h.2.2.1.1⟩
  · exact ⟨h.1.1, h.2.1.1, h.2.2.1.1⟩
  · exact ⟨h.1.1, h.2.1.1, h.2.2.1.1⟩
def TxQ : Part → Prop
  | .weir _ q _ _ => TxtOk q
  | .div _ q _ _ => TxtOk q
  | .join _ _ _ => True
theorem tx_ok {p : Part} (h : ∀ n ∈ p.ins ++ p.outs, StrOk n ∧ n.length ≤ 100) (hq : TxQ p) : p.TxOk := by
  cases p <;> simp only [Part.ins, Part.outs, List.cons_append, List.nil_append, List.forall_mem_cons] at h
  · exact ⟨hq, h.1.2, h.2.1.2, h.2.2.1.2⟩
  · exact ⟨hq, h.1.2, h.2.1.2, h.2.2.1.2⟩
  · exact ⟨h.1.2, h.2.1.2, h.2.2.1.2⟩
theorem pg_tx : ∀ {p : Part}, PG p → TxQ p
  | .weir _ _ _ _, h => G.txt h (by decide) (plt (i := 60) (by decide) (by omega)) (plt (i := 60) (by decide) (by omega))
  | .div _ _ _ _, h => G.txt h (by decide) (plt (i := 60) (by decide) (by omega)) (plt (i := 60) (by decide) (by omega))
  | .join _ _ _, _ => trivial
theorem Nice.parts {ps : List Part} (h : Nice ps) : ∀ p ∈ ps, p.NmOk ∧ p.TxOk := fun p hp => ⟨nm_ok (h.nm p hp), tx_ok (h.nm p hp) (pg_tx (h.pg p hp))⟩
/-! flows' sizes -/
structure Fd (N B k : Nat) (l : Fl) : Prop where
  f : ∀ n c, getP l n = some c → G (N * 12 ^ k) (B * 2 ^ k) c
theorem flowok_snoc : ∀ {ps : List Part} {l : Fl} {p : Part}, FlowOk l ps → FStep (ps.foldl stepP l) p → FlowOk l (ps ++ [p])
  | [], l, p, h, k => ⟨k, trivial⟩
  | q :: ps, l, p, h, k => ⟨h.1, flowok_snoc h.2 k⟩
theorem run_keys : ∀ (ps : List Part) (x : Rat), ∀ n ∈ madeOf ps, ∃ c, getP (runM ps x) n = some c := by
  intro ps x
  revert ps
  refine snoc_ind ?_ ?_
  · intro n hn
    have e : n = "in" := by simpa [madeOf] using hn
    subst e
    exact ⟨x, rfl⟩
  · intro ps p ih n hn
    rw [made_snoc] at hn
    unfold runM
    rw [fold_snoc]
    have put : ∀ {l : Fl} {k : Str} {r : Rat}, (∃ row, getP l n = some row) ∨ n = k → ∃ row, getP (putP l k r) n = some row := by
      intro l k r h
      rw [getP_put]
      by_cases c : n = k
      · rw [if_pos c]; exact ⟨_, rfl⟩
      · rw [if_neg c]; exact h.resolve_right c
    have h : (∃ row, getP (ps.foldl stepP (run0 x)) n = some row) ∨ n ∈ p.outs := by
      rcases List.mem_append.mp hn with z | z
      · exact .inl (ih n z)
      · exact .inr z
    cases p with
    | weir a q t r =>
      refine put ?_
      rcases h with h | h
      · exact .inl (put (.inl h))
      · simp only [Part.outs, List.mem_cons, List.not_mem_nil, or_false] at h
        rcases h with h | h
        · exact .inl (put (.inr h))
        · exact .inr h
    | div a q t r =>
      refine put ?_
      rcases h with h | h
      · exact .inl (put (.inl h))
      · simp only [Part.outs, List.mem_cons, List.not_mem_nil, or_false] at h
        rcases h with h | h
        · exact .inl (put (.inr h))
        · exact .inr h
    | join a b t =>
      refine put ?_
      rcases h with h | h
      · exact .inl h
      · simp only [Part.outs, List.mem_cons, List.not_mem_nil, or_false] at h
        exact .inr h
theorem G.up2 {N B k : Nat} {v : Rat} (h : G (N * 12 ^ k) (B * 2 ^ k) v) : G (N * 12 ^ (k + 1)) (B * 2 ^ (k + 1)) v := (h.dvd ⟨12, by rw [Nat.pow_succ, Nat.mul_assoc]⟩).mono (Nat.mul_le_mul_left _ (Nat.pow_le_pow_right (by decide) (by omega)))
theorem flow_sizes {N B : Nat} {x : Rat} (hN : 0 < N) (h6 : 6 ∣ N) (bN : N < 2 ^ 700) (bB : B < 2 ^ 700) (hB : 10001 ≤ B) (hx : G N B x) : ∀ ps : List Part, Valid ps → (∀ p ∈ ps, PG p) → ps.length ≤ 8 → (∀ n c, getP (runM ps x) n = some c → G (N * 12 ^ ps.length) (B * 2 ^ ps.length) c) ∧ FlowOk (run0 x) ps := by
  refine snoc_ind ?_ ?_
  · refine fun _ _ _ => ⟨fun n c h => ?_, trivial⟩
    have e : getP [(("in" : Str), x)] n = some c := h
    rw [getP_cons] at e
    split at e
    · injection e with e
      rw [← e]
      simpa using hx
    · cases e
  · intro ps p ih hv hq hl
    rw [List.length_append] at hl
    have hl1 : ps.length + 1 ≤ 8 := hl
    obtain ⟨v1, v2⟩ := valid_snoc hv
    obtain ⟨i1, i2⟩ := ih v1 (fun p hp => hq p (List.mem_append_left _ hp)) (by omega)
    have hpg := hq p (List.mem_append_right _ List.mem_cons_self)
    have pos : 0 < N * 12 ^ ps.length := Nat.mul_pos hN (p12 (by omega)).1
    have fit : ∀ {c : Rat}, G (N * 12 ^ ps.length) (B * 2 ^ ps.length) c → Fit c := fun h => h.fit pos (plt (mlt bN (p12 (by omega)).2) (by omega)) (plt (mlt bB (p2 (by omega)).2) (by omega))
    have fit2 : ∀ {c : Rat}, G (N * 12 ^ (ps.length + 1)) (B * 2 ^ (ps.length + 1)) c → Fit c := fun h => h.fit (Nat.mul_pos hN (p12 (by omega)).1) (plt (mlt bN (p12 (by omega)).2) (by omega)) (plt (mlt bB (p2 (by omega)).2) (by omega))
    have hin : ∀ n ∈ p.ins, ∃ c, getP (runM ps x) n = some c := fun n hn => run_keys ps x n (v2.im n hn)
    have step : (∀ n c, getP (stepP (runM ps x) p) n = some c → G (N * 12 ^ (ps.length + 1)) (B * 2 ^ (ps.length + 1)) c) ∧ FStep (runM ps x) p := by
      have put : ∀ {l : Fl} {k : Str} {r : Rat}, (∀ n c, getP l n = some c → G (N * 12 ^ (ps.length + 1)) (B * 2 ^ (ps.length + 1)) c) → G (N * 12 ^ (ps.length + 1)) (B * 2 ^ (ps.length + 1)) r → ∀ n c, getP (putP l k r) n = some c → G (N * 12 ^ (ps.length + 1)) (B * 2 ^ (ps.length + 1)) c := by
        intro l k r h g n c e
        rw [getP_put] at e
        split at e
        · injection e with e
          rw [← e]; exact g
        · exact h n c e
      have old : ∀ n c, getP (runM ps x) n = some c → G (N * 12 ^ (ps.length + 1)) (B * 2 ^ (ps.length + 1)) c := fun n c h => (i1 n c h).up2
      cases p with
      | weir a q t r =>
        obtain ⟨c, hc⟩ := hin a List.mem_cons_self
        have gc := i1 a c hc
        have gq : G (N * 12 ^ ps.length) (B * 2 ^ ps.length) q := (G.dvd hpg (Nat.dvd_trans h6 (Nat.dvd_mul_right _ _))).mono (Nat.le_trans hB (Nat.le_mul_of_pos_right _ (p2 (by omega)).1))
        have gm : G (N * 12 ^ ps.length) (B * 2 ^ ps.length) (mn c q) := by unfold mn; split <;> assumption
        refine ⟨put (put old ?_) ?_, c, hc, fit gc, G10 hpg⟩
        · rw [gS_of hc]; exact gm.up2
        · rw [gS_of hc]; exact (gc.sub gm (mn_le_l _ _)).up2
      | div a q t r =>
        obtain ⟨c, hc⟩ := hin a List.mem_cons_self
        have gc := i1 a c hc
        have gq : G 12 1 q := hpg
        have g1 := gc.mul gq
        rw [Nat.mul_one, Nat.mul_assoc, ← Nat.pow_succ] at g1
        have g2 : G (N * 12 ^ (ps.length + 1)) (B * 2 ^ (ps.length + 1)) (c * q) := g1.mono (Nat.mul_le_mul_left _ (Nat.pow_le_pow_right (by decide) (by omega)))
        have le : c * q ≤ c := by
          have h1 := Rat.mul_le_mul_of_nonneg_left gq.2.1 gc.1
          have h2 : c * ((1 : Nat) : Rat) = c := by
            rw [show ((1 : Nat) : Rat) = 1 from rfl, Rat.mul_one]
          rw [h2] at h1; exact h1
        refine ⟨put (put old ?_) ?_, c, hc, fit gc, gq.fit (by decide) (plt (i := 60) (by decide) (by omega)) (plt (i := 60) (by decide) (by omega)), fit2 g2, le⟩
        · rw [gS_of hc]; exact g2
        · rw [gS_of hc]; exact gc.up2.sub g2 le
      | join a b t =>
        obtain ⟨c, hc⟩ := hin a List.mem_cons_self
        obtain ⟨d, hd⟩ := hin b (List.mem_cons_of_mem _ List.mem_cons_self)
        have g := (i1 a c hc).add (i1 b d hd)
        rw [← Nat.mul_two, Nat.mul_assoc, ← Nat.pow_succ] at g
        refine ⟨put old ?_, c, d, hc, hd, fit (i1 a c hc), fit (i1 b d hd)⟩
        rw [gS_of hc, gS_of hd]
        exact g.dvd ⟨12, by rw [Nat.pow_succ, Nat.mul_assoc]⟩
    rw [List.length_append]
    refine ⟨?_, flowok_snoc i2 step.2⟩
    unfold runM
    rw [fold_snoc]
    exact step.1
end LN
namespace LN
open PySem PySem.Spec PyProof.Rows L2 SlX
/-! ### tables as areas -/
def tarea (x b : Rat) (T : Tab) (o : Str) : Rat := area x b (T.map (·.1)) (T.map fun r => gS r.2 o)
theorem tarea_some (x b e : Rat) (s : Shs) (T : Tab) (o : Str) : tarea x b ((some e, s) :: T) o = gS s o * (mn x e - mn x b) + tarea x e T o := rfl
theorem tarea_none (x b : Rat) (s : Shs) (T : Tab) (o : Str) : tarea x b ((none, s) :: T) o = gS s o * (x - mn x b) := rfl
def AscT (b : Rat) (T : Tab) : Prop := Asc b (T.map (·.1))
theorem amtGo_eq (o : Str) (x : Rat) : ∀ {T : Tab} {b b0 fd : Rat}, AscT b0 T → b = mn x b0 → amtGo o x fd b T = fd + tarea x b0 T o
  | [], _, _, _, h, _ => h.elim
  | (none, s) :: T, b, b0, fd, h, hb => by
    have h2 : T.map (·.1) = [] := h
    have h3 : T = [] := List.map_eq_nil_iff.mp h2
    subst h3
    rw [tarea_none]
    unfold amtGo
    by_cases c : b < loE x none
    · rw [if_pos c, hb]
      show fd + gS s o * (x - mn x b0) = _
      rfl
    · rw [if_neg c]
      have c2 : ¬ b < x := c
      have : mn x b0 = x := by
        have := mn_le_l x b0
        grind
      show fd = _
      rw [this]; grind
  | (some e, s) :: T, b, b0, fd, h, hb => by
    have h1 : b0 < e := h.1
    rw [tarea_some]
    unfold amtGo
    show (if b < mn x e then amtGo o x (fd + gS s o * (mn x e - b)) (mn x e) T else amtGo o x fd b T) = _
    by_cases c : b < mn x e
    · rw [if_pos c, amtGo_eq o x (b0 := e) h.2 rfl, hb]; grind
    · rw [if_neg c]
      have : mn x b0 = mn x e := by
        rw [hb] at c
        unfold mn at *; grind
      rw [amtGo_eq o x (b0 := e) h.2 (by rw [hb, this]), this]; grind
theorem amtM_eq {T : Tab} {o : Str} {x : Rat} (h : AscT 0 T) (hx : 0 ≤ x) : amtM T o x = tarea x 0 T o := by
  unfold amtM
  rw [amtGo_eq o x h (mn_of_ge hx).symm]; grind
/-! merging layers -/
theorem asc_drop {e : Rat} {u : Option Rat} : ∀ {A B : List (Option Rat)} {b : Rat}, Asc b (A ++ some e :: u :: B) → Asc b (A ++ u :: B)
  | [], B, b, h => by
    cases u with
    | none => exact h.2
    | some d => exact ⟨by have h1 := h.1; have h2 := h.2.1; grind, h.2.2⟩
  | none :: A, B, b, h => by
    have h2 : A ++ some e :: u :: B = [] := h
    simp at h2
  | some d :: A, B, b, h => ⟨h.1, asc_drop h.2⟩
theorem tarea_drop {x e : Rat} {u : Option Rat} {s s' : Shs} {o : Str} (hs : s = s') : ∀ {A B : Tab} {b : Rat}, tarea x b (A ++ (some e, s) :: (u, s') :: B) o = tarea x b (A ++ (u, s') :: B) o
  | [], B, b => by
    subst hs
    cases u with
    | none =>
      show tarea x b ((some e, s) :: (none, s) :: B) o = tarea x b ((none, s) :: B) o
      rw [tarea_some, tarea_none, tarea_none]; grind
    | some d =>
      show tarea x b ((some e, s) :: (some d, s) :: B) o = tarea x b ((some d, s) :: B) o
      rw [tarea_some, tarea_some, tarea_some]; grind
  | (none, t) :: A, B, b => rfl
  | (some d, t) :: A, B, b => by
    show tarea x b ((some d, t) :: (A ++ _)) o = tarea x b ((some d, t) :: (A ++ _)) o
    rw [tarea_some, tarea_some, tarea_drop hs]
theorem asc_mid {A B : List (Option Rat)} {b : Rat} {u v : Option Rat} : Asc b (A ++ u :: v :: B) → ∃ e, u = some e := by
  induction A generalizing b with
  | nil =>
    intro h
    cases u with
    | none =>
      have h2 : v :: B = [] := h
      simp at h2
    | some e => exact ⟨e, rfl⟩
  | cons a A ih =>
    intro h
    cases a with
    | none =>
      have h2 : A ++ u :: v :: B = [] := h
      simp at h2
    | some d => exact ih h.2
theorem layStep_cases (acc : Tab) (r : Option Rat × Shs) : (∃ A u, acc = A ++ [(u, r.2)] ∧ layStep acc r = A ++ [r]) ∨ ((∀ A l, acc = A ++ [l] → l.2 ≠ r.2) ∧ layStep acc r = acc ++ [r]) := by
  unfold layStep
  rcases List.eq_nil_or_concat acc with z | ⟨A, l, z⟩
  · subst z
    refine .inr ⟨fun A l e => ?_, rfl⟩
    simp at e
  · rw [List.concat_eq_append] at z
    subst z
    rw [List.getLast?_concat]
    by_cases c : l.2 = r.2
    · refine .inl ⟨A, l.1, by rw [← c], ?_⟩
      show (if l.2 = r.2 then _ else _) ++ [r] = _
      rw [if_pos c, List.dropLast_concat]
    · refine .inr ⟨fun B k e => ?_, ?_⟩
      · have := (List.append_inj' e rfl).2
        injection this with this
        rw [← this]; exact c
      · show (if l.2 = r.2 then _ else _) ++ [r] = _
        rw [if_neg c]
theorem lay_asc {b : Rat} : ∀ (rows acc : Tab), AscT b (acc ++ rows) → AscT b (rows.foldl layStep acc)
  | [], acc, h => by simpa using h
  | r :: rows, acc, h => by
    refine lay_asc rows (layStep acc r) ?_
    rcases layStep_cases acc r with ⟨A, u, e, e2⟩ | ⟨_, e2⟩
    · rw [e2]
      rw [e] at h
      unfold AscT at h ⊢
      simp only [List.map_append, List.map_cons, List.map_nil, List.append_assoc, List.cons_append, List.nil_append] at h ⊢
      obtain ⟨d, hd⟩ := asc_mid h
      rw [hd] at h
      exact asc_drop h
    · rw [e2, List.append_assoc]; exact h
theorem lay_area {x b : Rat} {o : Str} : ∀ (rows acc : Tab), AscT b (acc ++ rows) → tarea x b (rows.foldl layStep acc) o = tarea x b (acc ++ rows) o
  | [], acc, h => by simp
  | r :: rows, acc, h => by
    show tarea x b (rows.foldl layStep (layStep acc r)) o = _
    rcases layStep_cases acc r with ⟨A, u, e, e2⟩ | ⟨_, e2⟩
    · have h' := h
      rw [e] at h'
      unfold AscT at h'
      simp only [List.map_append, List.map_cons, List.map_nil, List.append_assoc, List.cons_append, List.nil_append] at h'
      obtain ⟨d, hd⟩ := asc_mid h'
      rw [hd] at h'
      have h3 : AscT b (layStep acc r ++ rows) := by
        rw [e2]
        unfold AscT
        simp only [List.map_append, List.map_cons, List.map_nil, List.append_assoc, List.cons_append, List.nil_append]
        exact asc_drop h'
      rw [lay_area rows (layStep acc r) h3, e2, e, hd]
      obtain ⟨v, s⟩ := r
      simp only [List.append_assoc, List.cons_append, List.nil_append]
      exact (tarea_drop rfl).symm
    · have h3 : AscT b (layStep acc r ++ rows) := by rw [e2, List.append_assoc]; exact h
      rw [lay_area rows (layStep acc r) h3, e2, List.append_assoc]; rfl
theorem lay_mem {x : Option Rat × Shs} : ∀ (rows acc : Tab), x ∈ rows.foldl layStep acc → x ∈ acc ∨ x ∈ rows
  | [], acc, h => .inl h
  | r :: rows, acc, h => by
    rcases lay_mem rows (layStep acc r) h with z | z
    · rcases layStep_cases acc r with ⟨A, u, e, e2⟩ | ⟨_, e2⟩
      · rw [e2] at z
        rcases List.mem_append.mp z with z | z
        · exact .inl (by rw [e]; exact List.mem_append_left _ z)
        · exact .inr (by rw [List.mem_singleton.mp z]; exact List.mem_cons_self)
      · rw [e2] at z
        rcases List.mem_append.mp z with z | z
        · exact .inl z
        · exact .inr (by rw [List.mem_singleton.mp z]; exact List.mem_cons_self)
    · exact .inr (List.mem_cons_of_mem _ z)
/-- neighbours differ -/
def Diff : Tab → Prop
  | [] => True
  | [_] => True
  | a :: b :: T => a.2 ≠ b.2 ∧ Diff (b :: T)
theorem diff_snoc {r : Option Rat × Shs} : ∀ {A : Tab}, Diff A → (∀ B l, A = B ++ [l] → l.2 ≠ r.2) → Diff (A ++ [r])
  | [], _, _ => trivial
  | [a], _, h => ⟨h [] a rfl, trivial⟩
  | a :: b :: A, hd, h => ⟨hd.1, diff_snoc (A := b :: A) hd.2 fun B l e => h (a :: B) l (by rw [e]; rfl)⟩
theorem diff_init {l : Option Rat × Shs} : ∀ {A : Tab}, Diff (A ++ [l]) → Diff A ∧ ∀ B k, A = B ++ [k] → k.2 ≠ l.2
  | [], _ => ⟨trivial, fun B k e => by simp at e⟩
  | [a], h => ⟨trivial, fun B k e => by
    cases B with
    | nil =>
      have e2 : [a] = [k] := e
      injection e2 with e2
      rw [← e2]; exact h.1
    | cons _ _ => simp at e⟩
  | a :: b :: A, h => by
    have h2 : a.2 ≠ b.2 ∧ Diff ((b :: A) ++ [l]) := h
    obtain ⟨i1, i2⟩ := diff_init h2.2
    refine ⟨⟨h2.1, i1⟩, fun B k e => ?_⟩
    cases B with
    | nil => simp at e
    | cons c B =>
      have e2 : a :: (b :: A) = c :: (B ++ [k]) := e
      injection e2 with _ e2
      exact i2 B k e2
theorem lay_diff : ∀ (rows acc : Tab), Diff acc → Diff (rows.foldl layStep acc)
  | [], acc, h => h
  | r :: rows, acc, h => by
    refine lay_diff rows (layStep acc r) ?_
    rcases layStep_cases acc r with ⟨A, u, e, e2⟩ | ⟨n, e2⟩
    · rw [e2]
      rw [e] at h
      obtain ⟨i1, i2⟩ := diff_init h
      exact diff_snoc i1 i2
    · rw [e2]
      exact diff_snoc h n
/-- nothing to merge -/
theorem lay_same : ∀ (rows acc : Tab), Diff (acc ++ rows) → rows.foldl layStep acc = acc ++ rows
  | [], acc, _ => by simp
  | r :: rows, acc, h => by
    have e : layStep acc r = acc ++ [r] := by
      rcases layStep_cases acc r with ⟨A, u, e, e2⟩ | ⟨_, e2⟩
      · exfalso
        rw [e, List.append_assoc] at h
        have key : ∀ A : Tab, Diff (A ++ (u, r.2) :: r :: rows) → False := by
          intro A
          induction A with
          | nil => intro h; exact h.1 rfl
          | cons a A ih =>
            intro h
            cases A with
            | nil => exact ih h.2
            | cons b A => exact ih h.2
        exact key A h
      · exact e2
    show rows.foldl layStep (layStep acc r) = _
    rw [e, lay_same rows (acc ++ [r]) (by rw [List.append_assoc]; exact h), List.append_assoc]; rfl
/-! shares -/
/-- names rise, no share is naught -/
def ShG (s : Shs) : Prop := (s.map (·.1)).Pairwise (fun a b => ltS a b = true) ∧ ∀ p ∈ s, p.2 ≠ 0
theorem gS_nil (o : Str) : gS [] o = 0 := rfl
theorem gS_cons (p : Str × Rat) (s : Shs) (o : Str) : gS (p :: s) o = if p.1 = o then p.2 else gS s o := by
  unfold gS
  rw [getP_cons]
  split <;> rfl
theorem gS_zero {s : Shs} {o : Str} (h : o ∉ s.map (·.1)) : gS s o = 0 := by
  induction s with
  | nil => rfl
  | cons p s ih =>
    rw [List.map_cons, List.mem_cons, not_or] at h
    rw [gS_cons, if_neg fun z => h.1 z.symm, ih h.2]
theorem shs_uniq : ∀ {s t : Shs}, ShG s → ShG t → (∀ o, gS s o = gS t o) → s = t
  | [], [], _, _, _ => rfl
  | [], q :: t, _, ht, h => by
    have := h q.1
    rw [gS_nil, gS_cons, if_pos rfl] at this
    exact absurd this.symm (ht.2 q List.mem_cons_self)
  | p :: s, [], hs, _, h => by
    have := h p.1
    rw [gS_nil, gS_cons, if_pos rfl] at this
    exact absurd this (hs.2 p List.mem_cons_self)
  | p :: s, q :: t, hs, ht, h => by
    obtain ⟨s1, s2⟩ := hs
    obtain ⟨t1, t2⟩ := ht
    rw [List.map_cons, List.pairwise_cons] at s1 t1
    have ne : ∀ {a : Str} {l : List Str}, (∀ b ∈ l, ltS a b = true) → a ∉ l := fun h z => by
      have := h _ z
      rw [ltS_irr] at this; cases this
    have e : p.1 = q.1 := by
      cases c : ltS p.1 q.1 with
      | true =>
        exfalso
        have := h p.1
        rw [gS_cons, if_pos rfl, gS_zero] at this
        · exact s2 p List.mem_cons_self this
        · rw [List.map_cons]
          refine ne fun b hb => ?_
          rcases List.mem_cons.mp hb with z | z
          · rw [z]; exact c
          · exact ltS_trans c (t1.1 b z)
      | false =>
        cases d : ltS q.1 p.1 with
        | true =>
          exfalso
          have := h q.1
          rw [gS_zero, gS_cons, if_pos rfl] at this
          · exact t2 q List.mem_cons_self this.symm
          · rw [List.map_cons]
            refine ne fun b hb => ?_
            rcases List.mem_cons.mp hb with z | z
            · rw [z]; exact d
            · exact ltS_trans d (s1.1 b z)
        | false => exact ltS_tot c d
    have e2 : p.2 = q.2 := by
      have := h p.1
      rw [gS_cons, if_pos rfl, gS_cons, if_pos e.symm] at this
      exact this
    have pq : p = q := by
      obtain ⟨a, b⟩ := p
      obtain ⟨c, d⟩ := q
      simp only at e e2
      rw [e, e2]
    rw [pq, shs_uniq ⟨s1.2, fun r hr => s2 r (List.mem_cons_of_mem _ hr)⟩ ⟨t1.2, fun r hr => t2 r (List.mem_cons_of_mem _ hr)⟩ fun o => ?_]
    by_cases c : o = p.1
    · rw [c, gS_zero (ne s1.1), gS_zero (by rw [e]; exact ne t1.1)]
    · have := h o
      rw [gS_cons, if_neg fun z => c z.symm, gS_cons, if_neg fun z => c (by rw [e]; exact z.symm)] at this
      exact this
/-! ### one table for all inflows -/
structure Can (b : Rat) (T : Tab) : Prop where
  asc : AscT b T
  df : Diff T
  sh : ∀ r ∈ T, ShG r.2
theorem Can.tail {b e : Rat} {s : Shs} {T : Tab} (h : Can b ((some e, s) :: T)) : Can e T := ⟨h.asc.2, by
  have := h.df
  cases T with
  | nil => trivial
  | cons a T => exact this.2, fun r hr => h.sh r (List.mem_cons_of_mem _ hr)⟩
theorem tarea_zero {x b : Rat} {T : Tab} {o : Str} (h : AscT b T) (hx : x ≤ b) : tarea x b T o = 0 := area_zero h hx
/-- where the tables are asked -/
def Pt (T U : Tab) (far x : Rat) : Prop := some x ∈ T.map (·.1) ∨ some x ∈ U.map (·.1) ∨ x = far
theorem no_early {b far e : Rat} {s : Shs} {T U : Tab} {v : Option Rat} {t : Shs} (hT : Can b ((some e, s) :: T)) (hU : Can b ((v, t) :: U)) (hv : ∀ f, v = some f → e < f)
    (hf : ∀ f, (some f ∈ ((some e, s) :: T).map (·.1) ∨ some f ∈ ((v, t) :: U).map (·.1)) → f < far) (h : ∀ o x, Pt ((some e, s) :: T) ((v, t) :: U) far x → tarea x b ((some e, s) :: T) o = tarea x b ((v, t) :: U) o) : False := by
  have hbe : b < e := hT.asc.1
  have headU : ∀ {x : Rat}, b ≤ x → (∀ f, v = some f → x ≤ f) → ∀ o, tarea x b ((v, t) :: U) o = gS t o * (x - b) := by
    intro x hb hx o
    cases v with
    | none => rw [tarea_none, mn_of_ge hb]
    | some f =>
      rw [tarea_some, tarea_zero (b := f) hU.asc.2 (hx f rfl), mn_of_ge hb, mn_of_le (hx f rfl)]; grind
  have est : s = t := by
    refine shs_uniq (hT.sh _ List.mem_cons_self) (hU.sh _ List.mem_cons_self) fun o => ?_
    have h1 := h o e (.inl List.mem_cons_self)
    rw [headU (Rat.le_of_lt hbe) (fun f hf => Rat.le_of_lt (hv f hf)), tarea_some, tarea_zero (b := e) hT.asc.2 Rat.le_refl, mn_of_ge (Rat.le_of_lt hbe), mn_of_le Rat.le_refl] at h1
    have h2 : (gS s o - gS t o) * (e - b) = 0 := by grind
    rcases Rat.mul_eq_zero.mp h2 with z | z <;> grind
  cases T with
  | nil => exact hT.asc.2
  | cons r T =>
    obtain ⟨u, s'⟩ := r
    have hne : s ≠ s' := hT.df.1
    -- the next point
    have key : ∀ x, e < x → (∀ f, v = some f → x ≤ f) → (∀ d, u = some d → x ≤ d) → Pt ((some e, s) :: (u, s') :: T) ((v, t) :: U) far x → False := by
      intro x hx hxv hxu hp
      refine hne (shs_uniq (hT.sh _ List.mem_cons_self) (hT.sh _ (List.mem_cons_of_mem _ List.mem_cons_self)) fun o => ?_)
      have h1 := h o x hp
      have hbx : b ≤ x := by grind
      have hT2 : tarea x e ((u, s') :: T) o = gS s' o * (x - e) := by
        cases u with
        | none => rw [tarea_none, mn_of_ge (Rat.le_of_lt hx)]
        | some d =>
          have h2 : AscT d T := hT.asc.2.2
          rw [tarea_some, tarea_zero h2 (hxu d rfl), mn_of_ge (Rat.le_of_lt hx), mn_of_le (hxu d rfl)]; grind
      rw [headU hbx hxv, tarea_some, hT2, mn_of_ge (Rat.le_of_lt hx), mn_of_ge hbx, ← est] at h1
      have h2 : (gS s o - gS s' o) * (x - e) = 0 := by grind
      rcases Rat.mul_eq_zero.mp h2 with z | z <;> grind
    have ed : ∀ d, u = some d → e < d := fun d hd => by
      have h2 : AscT e ((u, s') :: T) := hT.asc.2
      rw [hd] at h2
      exact h2.1
    cases u with
    | none =>
      cases v with
      | none => exact key far (hf e (.inl List.mem_cons_self)) (fun f z => nomatch z) (fun f z => nomatch z) (.inr (.inr rfl))
      | some f => exact key f (hv f rfl) (fun g z => by injection z with z; rw [z]; exact Rat.le_refl) (fun f z => nomatch z) (.inr (.inl List.mem_cons_self))
    | some d =>
      cases v with
      | none => exact key d (ed d rfl) (fun f z => nomatch z) (fun g z => by injection z with z; rw [z]; exact Rat.le_refl) (.inl (List.mem_cons_of_mem _ List.mem_cons_self))
      | some f =>
        by_cases c : d ≤ f
        · exact key d (ed d rfl) (fun g z => by injection z with z; rw [← z]; exact c) (fun g z => by injection z with z; rw [z]; exact Rat.le_refl) (.inl (List.mem_cons_of_mem _ List.mem_cons_self))
        · exact key f (hv f rfl) (fun g z => by injection z with z; rw [z]; exact Rat.le_refl) (fun g z => by injection z with z; rw [← z]; grind) (.inr (.inl List.mem_cons_self))
theorem table_uniq {far : Rat} : ∀ {T U : Tab} {b : Rat}, Can b T → Can b U → b < far → (∀ f, (some f ∈ T.map (·.1) ∨ some f ∈ U.map (·.1)) → f < far) → (∀ o x, Pt T U far x → tarea x b T o = tarea x b U o) → T = U
  | [], _, _, hT, _, _, _, _ => hT.asc.elim
  | _ :: _, [], _, _, hU, _, _, _ => hU.asc.elim
  | (none, s) :: T, (none, t) :: U, b, hT, hU, hb, hf, h => by
    have e1 : T = [] := List.map_eq_nil_iff.mp (show T.map (·.1) = [] from hT.asc)
    have e2 : U = [] := List.map_eq_nil_iff.mp (show U.map (·.1) = [] from hU.asc)
    subst e1; subst e2
    suffices est : s = t by rw [est]
    refine shs_uniq (hT.sh _ List.mem_cons_self) (hU.sh _ List.mem_cons_self) fun o => ?_
    have h1 := h o far (.inr (.inr rfl))
    rw [tarea_none, tarea_none, mn_of_ge (Rat.le_of_lt hb)] at h1
    have h2 : (gS s o - gS t o) * (far - b) = 0 := by grind
    rcases Rat.mul_eq_zero.mp h2 with z | z <;> grind
  | (some e, s) :: T, (none, t) :: U, b, hT, hU, hb, hf, h => (no_early hT hU (fun f z => nomatch z) hf h).elim
  | (none, s) :: T, (some e, t) :: U, b, hT, hU, hb, hf, h => (no_early hU hT (fun f z => nomatch z) (fun f z => hf f z.symm) fun o x hp => (h o x (by
      rcases hp with z | z | z
      · exact .inr (.inl z)
      · exact .inl z
      · exact .inr (.inr z))).symm).elim
  | (some e, s) :: T, (some f, t) :: U, b, hT, hU, hb, hf, h => by
    by_cases c : e < f
    · exact (no_early hT hU (fun g z => by injection z with z; rw [← z]; exact c) hf h).elim
    by_cases d : f < e
    · exact (no_early hU hT (fun g z => by injection z with z; rw [← z]; exact d) (fun f z => hf f z.symm) fun o x hp => (h o x (by
        rcases hp with z | z | z
        · exact .inr (.inl z)
        · exact .inl z
        · exact .inr (.inr z))).symm).elim
    have ef : e = f := by grind
    subst ef
    have hbe : b < e := hT.asc.1
    have est : s = t := by
      refine shs_uniq (hT.sh _ List.mem_cons_self) (hU.sh _ List.mem_cons_self) fun o => ?_
      have h1 := h o e (.inl List.mem_cons_self)
      rw [tarea_some, tarea_some, tarea_zero (b := e) hT.asc.2 Rat.le_refl, tarea_zero (b := e) hU.asc.2 Rat.le_refl, mn_of_ge (Rat.le_of_lt hbe), mn_of_le Rat.le_refl] at h1
      have h2 : (gS s o - gS t o) * (e - b) = 0 := by grind
      rcases Rat.mul_eq_zero.mp h2 with z | z <;> grind
    subst est
    rw [table_uniq hT.tail hU.tail (hf e (.inl List.mem_cons_self)) (fun g z => hf g (by
      rcases z with z | z
      · exact .inl (List.mem_cons_of_mem _ z)
      · exact .inr (List.mem_cons_of_mem _ z))) fun o x hp => ?_]
    have h1 := h o x (by
      rcases hp with z | z | z
      · exact .inl (List.mem_cons_of_mem _ z)
      · exact .inr (.inl (List.mem_cons_of_mem _ z))
      · exact .inr (.inr z))
    rw [tarea_some, tarea_some] at h1
    grind
end LN
namespace LN
open PySem PySem.Spec PyProof.Rows L2 SlX
/-! ### the open channels -/
def leftStep (l : List Str) : Part → List Str
  | .weir a _ t r => l.erase a ++ [t, r]
  | .div a _ t r => l.erase a ++ [t, r]
  | .join a b t => (l.erase a).erase b ++ [t]
def leftOf (ps : List Part) : List Str := ps.foldl leftStep ["in"]
theorem left_facts : ∀ ps : List Part, Valid ps → (leftOf ps).Nodup ∧ (∀ n, n ∈ leftOf ps ↔ n ∈ madeOf ps ∧ n ∉ takenOf ps) ∧ ∀ n ∈ takenOf ps, n ∈ madeOf ps := by
  refine snoc_ind ?_ ?_
  · refine fun _ => ⟨by simp [leftOf], fun n => ?_, fun n hn => by simp [takenOf] at hn⟩
    simp [leftOf, madeOf, takenOf]
  · intro ps p ih hv
    obtain ⟨v1, v2⟩ := valid_snoc hv
    obtain ⟨i1, i2, i3⟩ := ih v1
    unfold leftOf
    rw [fold_snoc, made_snoc, taken_snoc]
    have two : ∀ (a t r : Str), p.ins = [a] → p.outs = [t, r] → ((ps.foldl leftStep ["in"]).erase a ++ [t, r]).Nodup ∧ (∀ n, n ∈ (ps.foldl leftStep ["in"]).erase a ++ [t, r] ↔ n ∈ madeOf ps ++ p.outs ∧ n ∉ takenOf ps ++ p.ins) ∧ ∀ n ∈ takenOf ps ++ p.ins, n ∈ madeOf ps ++ p.outs := by
      intro a t r e1 e2
      have am := v2.im a (by rw [e1]; exact List.mem_cons_self)
      have tm := v2.om t (by rw [e2]; exact List.mem_cons_self)
      have rm := v2.om r (by rw [e2]; exact List.mem_cons_of_mem _ List.mem_cons_self)
      have tr : t ≠ r := by
        have := v2.no
        rw [e2] at this
        simpa using this
      have mem : ∀ n, n ∈ (ps.foldl leftStep ["in"]).erase a ↔ n ≠ a ∧ n ∈ madeOf ps ∧ n ∉ takenOf ps := fun n => by
        rw [List.Nodup.mem_erase_iff (show (ps.foldl leftStep ["in"]).Nodup from i1)]
        exact and_congr_right fun _ => i2 n
      refine ⟨?_, fun n => ?_, fun n hn => ?_⟩
      · rw [List.nodup_append]
        refine ⟨i1.erase a, by simpa using tr, fun x hx y hy e => ?_⟩
        have h1 := ((mem x).mp hx).2.1
        simp only [List.mem_cons, List.not_mem_nil, or_false] at hy
        rcases hy with z | z
        · exact tm (by rw [← z, ← e]; exact h1)
        · exact rm (by rw [← z, ← e]; exact h1)
      · rw [List.mem_append, mem, e1, e2, List.mem_append, List.mem_append]
        simp only [List.mem_cons, List.not_mem_nil, or_false]
        constructor
        · rintro (⟨h1, h2, h3⟩ | h | h)
          · exact ⟨.inl h2, fun z => z.elim h3 h1⟩
          · refine ⟨.inr (.inl h), fun z => ?_⟩
            rcases z with z | z
            · exact tm (by rw [← h]; exact i3 n z)
            · exact tm (by rw [← h, z]; exact am)
          · refine ⟨.inr (.inr h), fun z => ?_⟩
            rcases z with z | z
            · exact rm (by rw [← h]; exact i3 n z)
            · exact rm (by rw [← h, z]; exact am)
        · rintro ⟨h1 | h1, h2⟩
          · exact .inl ⟨fun z => h2 (.inr z), h1, fun z => h2 (.inl z)⟩
          · exact .inr h1
      · rcases List.mem_append.mp hn with z | z
        · exact List.mem_append_left _ (i3 n z)
        · exact List.mem_append_left _ (v2.im n z)
    cases p with
    | weir a q t r => exact two a t r rfl rfl
    | div a q t r => exact two a t r rfl rfl
    | join a b t =>
      have am := v2.im a List.mem_cons_self
      have bm := v2.im b (List.mem_cons_of_mem _ List.mem_cons_self)
      have tm := v2.om t List.mem_cons_self
      have ab : a ≠ b := by
        have := v2.ni
        simpa [Part.ins] using this
      have mem : ∀ n, n ∈ ((ps.foldl leftStep ["in"]).erase a).erase b ↔ n ≠ b ∧ n ≠ a ∧ n ∈ madeOf ps ∧ n ∉ takenOf ps := fun n => by
        rw [List.Nodup.mem_erase_iff (show ((ps.foldl leftStep ["in"]).erase a).Nodup from i1.erase a), List.Nodup.mem_erase_iff (show (ps.foldl leftStep ["in"]).Nodup from i1)]
        exact and_congr_right fun _ => and_congr_right fun _ => i2 n
      refine ⟨?_, fun n => ?_, fun n hn => ?_⟩
      · show (((ps.foldl leftStep ["in"]).erase a).erase b ++ [t]).Nodup
        rw [List.nodup_append]
        refine ⟨(i1.erase a).erase b, by simp, fun x hx y hy e => ?_⟩
        have h1 := ((mem x).mp hx).2.2.1
        simp only [List.mem_cons, List.not_mem_nil, or_false] at hy
        exact tm (by rw [← hy, ← e]; exact h1)
      · show n ∈ ((ps.foldl leftStep ["in"]).erase a).erase b ++ [t] ↔ n ∈ madeOf ps ++ [t] ∧ n ∉ takenOf ps ++ [a, b]
        rw [List.mem_append, mem, List.mem_append, List.mem_append]
        simp only [List.mem_cons, List.not_mem_nil, or_false]
        constructor
        · rintro (⟨h0, h1, h2, h3⟩ | h)
          · refine ⟨.inl h2, fun z => ?_⟩
            rcases z with z | z | z
            · exact h3 z
            · exact h1 z
            · exact h0 z
          · refine ⟨.inr h, fun z => ?_⟩
            rcases z with z | z | z
            · exact tm (by rw [← h]; exact i3 n z)
            · exact tm (by rw [← h, z]; exact am)
            · exact tm (by rw [← h, z]; exact bm)
        · rintro ⟨h1 | h1, h2⟩
          · exact .inl ⟨fun z => h2 (.inr (.inr z)), fun z => h2 (.inr (.inl z)), h1, fun z => h2 (.inl z)⟩
          · exact .inr h1
      · rcases List.mem_append.mp hn with z | z
        · exact List.mem_append_left _ (i3 n z)
        · exact List.mem_append_left _ (v2.im n z)
theorem outs_mem (ps : List Part) (n : Str) : n ∈ outsOf ps ↔ n ∈ madeOf ps ∧ n ∉ takenOf ps := by
  unfold outsOf
  rw [setS_mem, List.mem_filter, decide_eq_true_eq]
theorem perm_of {a b : List Str} (ha : a.Nodup) (hb : b.Nodup) (h : ∀ n, n ∈ a ↔ n ∈ b) : a.Perm b := (List.perm_ext_iff_of_nodup ha hb).mpr h
/-- sorted, the open channels are the outlets -/
theorem left_outs {ps : List Part} (h : Valid ps) {zs : List Str} (p : zs.Perm (leftOf ps)) (s : sortedS zs = true) : zs = outsOf ps := by
  obtain ⟨l1, l2, _⟩ := left_facts ps h
  refine sorted_uniq (p.trans (perm_of l1 (setS_nodup _) fun n => ?_)) (sortedS_pw s) (isortS_sorted _)
  rw [l2, ← outs_mem]
theorem left_perm {ps : List Part} (h : Valid ps) : (leftOf ps).Perm (outsOf ps) := by
  obtain ⟨l1, l2, _⟩ := left_facts ps h
  exact perm_of l1 (setS_nodup _) fun n => by rw [l2, outs_mem]
/-! sums -/
def sumL (f : Str → Rat) (l : List Str) : Rat := l.foldr (fun n s => f n + s) 0
theorem sumL_cons (f : Str → Rat) (n : Str) (l : List Str) : sumL f (n :: l) = f n + sumL f l := rfl
theorem sumL_app (f : Str → Rat) : ∀ a b : List Str, sumL f (a ++ b) = sumL f a + sumL f b
  | [], b => by show sumL f b = 0 + sumL f b; grind
  | n :: a, b => by
    show f n + sumL f (a ++ b) = f n + sumL f a + sumL f b
    rw [sumL_app f a b]; grind
theorem sumL_perm (f : Str → Rat) {a b : List Str} (h : a.Perm b) : sumL f a = sumL f b := by
  induction h with
  | nil => rfl
  | cons x _ ih => rw [sumL_cons, sumL_cons, ih]
  | swap x y l => rw [sumL_cons, sumL_cons, sumL_cons, sumL_cons]; grind
  | trans _ _ i1 i2 => rw [i1, i2]
theorem sumL_congr {f g : Str → Rat} : ∀ {l : List Str}, (∀ n ∈ l, f n = g n) → sumL f l = sumL g l
  | [], _ => rfl
  | n :: l, h => by rw [sumL_cons, sumL_cons, h n List.mem_cons_self, sumL_congr fun m hm => h m (List.mem_cons_of_mem _ hm)]
theorem sumL_erase (f : Str → Rat) {a : Str} {l : List Str} (h : a ∈ l) : sumL f l = f a + sumL f (l.erase a) := by
  rw [sumL_perm f (List.perm_cons_erase h), sumL_cons]
/-- a row's entry -/
def rwv (s : Sts) (j : Nat) (n : Str) : Rat := (s.row n).getD j 0
theorem dup_getD (row : List Rat) (p j : Nat) : (dupAt p row).getD j 0 = row.getD (if j ≤ p then j else j - 1) 0 := by
  unfold dupAt
  simp only [List.getD_eq_getElem?_getD]
  by_cases c : p < row.length
  · have hl : (row.take p).length = p := by rw [List.length_take]; omega
    by_cases d : j < p
    · rw [List.getElem?_append_left (by omega), if_pos (by omega), List.getElem?_take_of_lt d]
    · rw [List.getElem?_append_right (by omega), hl]
      by_cases e : j = p
      · subst e
        rw [Nat.sub_self, if_pos (Nat.le_refl j)]
        show (some (row[j]?.getD 0)).getD 0 = _
        rfl
      · rw [show j - p = (j - p - 1) + 1 by omega, List.getElem?_cons_succ, List.getElem?_drop, if_neg (by omega), show p + (j - p - 1) = j - 1 by omega]
  · have hl : row.take p = row := List.take_of_length_le (by omega)
    rw [hl, List.drop_of_length_le (by omega)]
    by_cases d : j < row.length
    · rw [List.getElem?_append_left d, if_pos (by omega)]
    · rw [List.getElem?_append_right (by omega), List.getElem?_eq_none (l := row) (i := if j ≤ p then j else j - 1) (by split <;> omega)]
      cases h : j - row.length with
      | zero =>
        rw [List.getElem?_eq_none (l := row) (i := p) (by omega)]; rfl
      | succ k => rfl
theorem part_rwv {s : Sts} (ok : SOk s) (w : Option Rat) (hw : ∀ x, w = some x → 0 ≤ x) : ∃ π : Nat → Nat, (∀ j, j < (partAt s w).es.length → π j < s.es.length) ∧ ∀ n, (∃ row, getP s.rows n = some row) → ∀ j, rwv (partAt s w) j n = rwv s (π j) n := by
  have stay : ∃ π : Nat → Nat, (∀ j, j < s.es.length → π j < s.es.length) ∧ ∀ n, (∃ row, getP s.rows n = some row) → ∀ j, rwv s j n = rwv s (π j) n := ⟨id, fun _ h => h, fun _ _ _ => rfl⟩
  cases w with
  | none => exact stay
  | some w =>
    by_cases c : w = 0 ∨ some w ∈ s.es
    · have e : partAt s (some w) = s := if_pos c
      rw [e]; exact stay
    · have hp : placeFor s.es w < s.es.length := placeFor_lt (asc_non ok.asc)
      have e : partAt s (some w) = ⟨insAt (placeFor s.es w) (some w) s.es, s.rows.map fun p => (p.1, dupAt (placeFor s.es w) p.2)⟩ := if_neg c
      have el : (partAt s (some w)).es.length = s.es.length + 1 := by
        rw [part_some c ok]
        exact ins_len
      refine ⟨fun j => if j ≤ placeFor s.es w then j else j - 1, fun j hj => ?_, fun n ⟨row, hn⟩ j => ?_⟩
      · rw [el] at hj
        show (if j ≤ placeFor s.es w then j else j - 1) < _
        split <;> omega
      · unfold rwv
        have e1 : (partAt s (some w)).row n = dupAt (placeFor s.es w) row := by
          rw [e]
          refine row_of ?_
          show getP (s.rows.map fun p => (p.1, dupAt (placeFor s.es w) p.2)) n = _
          rw [getP_map, hn]; rfl
        rw [e1, row_of hn, dup_getD]
theorem lohi_getD {k n j : Nat} {row : List Rat} (h : j < n) : (loR k n row).getD j 0 + (hiR k n row).getD j 0 = row.getD j 0 := by
  unfold loR hiR
  simp only [List.getD_eq_getElem?_getD, List.getElem?_map, List.getElem?_range h, Option.map_some, Option.getD_some]
  split <;> grind
theorem map_getD (f : Rat → Rat) (h0 : f 0 = 0) (row : List Rat) (j : Nat) : (row.map f).getD j 0 = f (row.getD j 0) := by
  simp only [List.getD_eq_getElem?_getD, List.getElem?_map]
  cases row[j]? with
  | none => exact h0.symm
  | some v => rfl
theorem zip_getD {r t : List Rat} (h : r.length = t.length) (j : Nat) : (List.zipWith (· + ·) r t).getD j 0 = r.getD j 0 + t.getD j 0 := by
  simp only [List.getD_eq_getElem?_getD, List.getElem?_zipWith]
  by_cases c : j < r.length
  · rw [List.getElem?_eq_getElem c, List.getElem?_eq_getElem (show j < t.length by omega)]; rfl
  · rw [List.getElem?_eq_none (by omega), List.getElem?_eq_none (l := t) (by omega)]
    show (0 : Rat) = 0 + 0
    grind
theorem rwv_put {s : Sts} {k n : Str} {row : List Rat} {j : Nat} : rwv ⟨s.es, putP s.rows k row⟩ j n = if n = k then row.getD j 0 else rwv s j n := by
  unfold rwv Sts.row
  show ((getP (putP s.rows k row) n).getD []).getD j 0 = _
  rw [getP_put]
  split <;> rfl
/-- at each stretch the open channels carry the whole -/
theorem left_sum : ∀ ps : List Part, Valid ps → (∀ p ∈ ps, QOk p) → ∀ j, j < (ps.foldl takeS st0).es.length → sumL (rwv (ps.foldl takeS st0) j) (leftOf ps) = 1 := by
  refine snoc_ind ?_ ?_
  · intro _ _ j hj
    have : j = 0 := by
      have : j < 1 := hj
      omega
    subst this
    show rwv st0 0 "in" + 0 = 1
    rw [show rwv st0 0 "in" = 1 from rfl]; grind
  · intro ps p ih hv hq
    obtain ⟨v1, v2⟩ := valid_snoc hv
    have ih := ih v1 fun p hp => hq p (List.mem_append_left _ hp)
    obtain ⟨ok, _⟩ := net_ok ps v1 fun p hp => hq p (List.mem_append_left _ hp)
    have hpq := hq p (List.mem_append_right _ List.mem_cons_self)
    obtain ⟨l1, l2, _⟩ := left_facts ps v1
    have hk := made_keys ps
    unfold leftOf
    rw [fold_snoc, fold_snoc]
    generalize ps.foldl takeS st0 = s at ih ok hk ⊢
    have lm : ∀ n ∈ leftOf ps, n ∈ madeOf ps := fun n hn => ((l2 n).mp hn).1
    have inl : ∀ n ∈ p.ins, n ∈ leftOf ps := fun n hn => (l2 n).mpr ⟨v2.im n hn, v2.it n hn⟩
    intro j hj
    -- two new channels that share the old one
    have two : ∀ (s1 : Sts) (a t r : Str) (x y : List Rat), p.ins = [a] → p.outs = [t, r] → sumL (rwv s1 j) (leftOf ps) = 1 → x.getD j 0 + y.getD j 0 = rwv s1 j a →
        sumL (rwv ⟨s1.es, putP (putP s1.rows t x) r y⟩ j) ((leftOf ps).erase a ++ [t, r]) = 1 := by
      intro s1 a t r x y e1 e2 h1 h2
      have tm := v2.om t (by rw [e2]; exact List.mem_cons_self)
      have rm := v2.om r (by rw [e2]; exact List.mem_cons_of_mem _ List.mem_cons_self)
      have tr : t ≠ r := by
        have := v2.no
        rw [e2] at this
        simpa using this
      rw [sumL_app, sumL_cons, sumL_cons]
      have e3 : sumL (rwv ⟨s1.es, putP (putP s1.rows t x) r y⟩ j) ((leftOf ps).erase a) = sumL (rwv s1 j) ((leftOf ps).erase a) := sumL_congr fun n hn => by
        have hm := lm n (List.mem_of_mem_erase hn)
        rw [rwv_put (s := ⟨s1.es, putP s1.rows t x⟩), if_neg fun z => rm (by rw [← z]; exact hm), rwv_put, if_neg fun z => tm (by rw [← z]; exact hm)]
      rw [e3, rwv_put (s := ⟨s1.es, putP s1.rows t x⟩), if_neg tr, rwv_put, if_pos rfl, rwv_put (s := ⟨s1.es, putP s1.rows t x⟩), if_pos rfl]
      rw [sumL_erase _ (inl a (by rw [e1]; exact List.mem_cons_self))] at h1
      show _ + (x.getD j 0 + (y.getD j 0 + 0)) = 1
      grind
    cases p with
    | weir a q t r =>
      obtain ⟨row, hrow⟩ := hk a (v2.im a List.mem_cons_self)
      have hcut : ∀ x, cutAt s.es (s.row a) q = some x → 0 ≤ x := fun x hx => (cutAt_pos ok.asc (by rw [row_of hrow]; exact ok.len _ (getP_mem hrow)) (by rw [row_of hrow]; exact ok.pos _ (getP_mem hrow)) hpq hx).1
      obtain ⟨π, π1, π2⟩ := part_rwv ok (cutAt s.es (s.row a) q) hcut
      have hj1 : j < (partAt s (cutAt s.es (s.row a) q)).es.length := hj
      refine two (partAt s (cutAt s.es (s.row a) q)) a t r _ _ rfl rfl ?_ (lohi_getD hj1)
      rw [← ih (π j) (π1 j hj1)]
      exact sumL_congr fun n hn => π2 n (hk n (lm n hn)) j
    | div a q t r =>
      refine two s a t r _ _ rfl rfl (ih j hj) ?_
      rw [map_getD (· * q) (Rat.zero_mul q), map_getD (· * (1 - q)) (Rat.zero_mul (1 - q))]
      unfold rwv
      grind
    | join a b t =>
      obtain ⟨row, hrow⟩ := hk a (v2.im a List.mem_cons_self)
      obtain ⟨row2, hrow2⟩ := hk b (v2.im b (List.mem_cons_of_mem _ List.mem_cons_self))
      have tm := v2.om t List.mem_cons_self
      have ab : a ≠ b := by
        have := v2.ni
        simpa [Part.ins] using this
      have hla : (s.row a).length = (s.row b).length := by
        rw [row_of hrow, row_of hrow2]
        exact (ok.len _ (getP_mem hrow)).trans (ok.len _ (getP_mem hrow2)).symm
      show sumL (rwv ⟨s.es, putP s.rows t (List.zipWith (· + ·) (s.row a) (s.row b))⟩ j) (((leftOf ps).erase a).erase b ++ [t]) = 1
      rw [sumL_app, sumL_cons, rwv_put, if_pos rfl, zip_getD hla]
      have e3 : sumL (rwv ⟨s.es, putP s.rows t (List.zipWith (· + ·) (s.row a) (s.row b))⟩ j) (((leftOf ps).erase a).erase b) = sumL (rwv s j) (((leftOf ps).erase a).erase b) := sumL_congr fun n hn => by
        have hm := lm n (List.mem_of_mem_erase (List.mem_of_mem_erase hn))
        rw [rwv_put, if_neg fun z => tm (by rw [← z]; exact hm)]
      have h1 := ih j hj
      have hb : b ∈ (leftOf ps).erase a := (List.Nodup.mem_erase_iff l1).mpr ⟨ab.symm, inl b (List.mem_cons_of_mem _ List.mem_cons_self)⟩
      rw [sumL_erase _ (inl a List.mem_cons_self), sumL_erase _ hb] at h1
      rw [e3]
      show _ + (rwv s j a + rwv s j b + 0) = 1
      grind
/-! ### the told table -/
theorem own_gS {s : Sts} {outs : List Str} (nd : outs.Nodup) (i : Nat) (o : Str) : gS (ownOf s outs i) o = if o ∈ outs then rwv s i o else 0 := by
  induction outs with
  | nil => rfl
  | cons n r ih =>
    rw [List.nodup_cons] at nd
    have e : ownOf s (n :: r) i = if rwv s i n ≠ 0 then (n, rwv s i n) :: ownOf s r i else ownOf s r i := by
      unfold ownOf rwv
      rw [List.filter_cons]
      by_cases c : (s.row n).getD i 0 ≠ 0
      · rw [if_pos c, if_pos (decide_eq_true c)]; rfl
      · rw [if_neg c, if_neg (by simpa using c)]
    rw [e]
    by_cases d : o = n
    · subst d
      rw [if_pos List.mem_cons_self]
      by_cases c : rwv s i o ≠ 0
      · rw [if_pos c, gS_cons, if_pos rfl]
      · rw [if_neg c, ih nd.2, if_neg nd.1]
        have : rwv s i o = 0 := by
          apply Classical.byContradiction
          exact fun z => c z
        rw [this]
    · have e2 : (o ∈ n :: r) = (o ∈ r) := by rw [List.mem_cons]; simp [d]
      simp only [e2]
      rw [← ih nd.2]
      split
      · rw [gS_cons, if_neg fun z => d z.symm]
      · rfl
theorem own_good {s : Sts} {outs : List Str} (h : outs.Pairwise (fun a b => ltS a b = true)) (i : Nat) : ShG (ownOf s outs i) := by
  refine ⟨?_, fun p hp => ?_⟩
  · unfold ownOf
    rw [List.map_map]
    have : ((fun p : Str × Rat => p.1) ∘ fun n => (n, (s.row n).getD i 0)) = id := rfl
    rw [this, List.map_id]
    exact h.filter _
  · unfold ownOf at hp
    obtain ⟨n, hn, rfl⟩ := List.mem_map.mp hp
    simpa using (List.mem_filter.mp hn).2
theorem rows_fst (s : Sts) (outs : List Str) : (rowsOf s outs).map (·.1) = s.es := by
  unfold rowsOf
  rw [List.map_map]
  apply List.ext_getElem
  · simp
  · intro i h1 h2
    simp only [List.getElem_map, List.getElem_range, Function.comp]
    rw [List.getD_eq_getElem?_getD, List.getElem?_eq_getElem h2]; rfl
theorem rows_gS {s : Sts} {outs : List Str} (nd : outs.Nodup) (o : Str) : (rowsOf s outs).map (fun r => gS r.2 o) = (List.range s.es.length).map fun i => if o ∈ outs then rwv s i o else 0 := by
  unfold rowsOf
  rw [List.map_map]
  exact List.map_congr_left fun i _ => own_gS nd i o
theorem range_row {row : List Rat} {n : Nat} (h : row.length = n) : ((List.range n).map fun i => row.getD i 0) = row := by
  apply List.ext_getElem
  · simpa using h.symm
  · intro i h1 h2
    simp only [List.getElem_map, List.getElem_range]
    rw [List.getD_eq_getElem?_getD, List.getElem?_eq_getElem h2]; rfl
theorem table_can {ps : List Part} (hv : Valid ps) (hq : ∀ p ∈ ps, QOk p) : Can 0 (tableM ps) := by
  obtain ⟨ok, _⟩ := net_ok ps hv hq
  have ha : AscT 0 ([] ++ rowsOf (ps.foldl takeS st0) (outsOf ps)) := by
    unfold AscT
    rw [List.nil_append, rows_fst]
    exact ok.asc
  refine ⟨lay_asc _ [] ha, lay_diff _ [] trivial, fun r hr => ?_⟩
  rcases lay_mem _ [] hr with z | z
  · simp at z
  · unfold rowsOf at z
    obtain ⟨i, _, rfl⟩ := List.mem_map.mp z
    exact own_good (setS_strict _) i
/-- a table's amounts are the flows -/
theorem amt_flow {ps : List Part} (hv : Valid ps) (hq : ∀ p ∈ ps, QOk p) {x : Rat} (hx : 0 ≤ x) (o : Str) : amtM (tableM ps) o x = if o ∈ outsOf ps then gS (runM ps x) o else 0 := by
  obtain ⟨ok, rel⟩ := net_ok ps hv hq
  have ha : AscT 0 ([] ++ rowsOf (ps.foldl takeS st0) (outsOf ps)) := by
    unfold AscT
    rw [List.nil_append, rows_fst]
    exact ok.asc
  rw [amtM_eq (table_can hv hq).asc hx]
  unfold tableM layersM
  rw [lay_area _ [] ha, List.nil_append]
  unfold tarea
  rw [rows_fst, rows_gS (show (outsOf ps).Nodup from setS_nodup _)]
  by_cases c : o ∈ outsOf ps
  · rw [if_pos c]
    simp only [if_pos c]
    obtain ⟨row, hrow⟩ := made_keys ps o (out_made c)
    rw [(rel x hx).gS hrow]
    unfold rwv
    rw [row_of hrow, range_row (ok.len _ (getP_mem hrow))]
  · rw [if_neg c]
    simp only [if_neg c]
    have e : (List.range (ps.foldl takeS st0).es.length).map (fun _ => (0 : Rat)) = List.replicate (ps.foldl takeS st0).es.length 0 := by
      rw [List.eq_replicate_iff]
      refine ⟨by simp, fun v hv => ?_⟩
      obtain ⟨_, _, z⟩ := List.mem_map.mp hv
      exact z.symm
    rw [e, area_zeros]
end LN
namespace LN
open PySem PySem.Spec PyProof.Rows L2 SlX
/-! ### what a told table brings to the builder -/
def shSum (s : Shs) : Rat := s.foldr (fun p a => p.2 + a) 0
theorem shSum_cons (p : Str × Rat) (s : Shs) : shSum (p :: s) = p.2 + shSum s := rfl
theorem own_cons (s : Sts) (n : Str) (r : List Str) (i : Nat) : ownOf s (n :: r) i = if rwv s i n ≠ 0 then (n, rwv s i n) :: ownOf s r i else ownOf s r i := by
  unfold ownOf rwv
  rw [List.filter_cons]
  by_cases c : (s.row n).getD i 0 ≠ 0
  · rw [if_pos c, if_pos (decide_eq_true c)]; rfl
  · rw [if_neg c, if_neg (by simpa using c)]
theorem own_sum (s : Sts) (i : Nat) : ∀ outs : List Str, shSum (ownOf s outs i) = sumL (rwv s i) outs
  | [] => rfl
  | n :: r => by
    rw [own_cons, sumL_cons, ← own_sum s i r]
    split
    · rfl
    · rename_i c
      have : rwv s i n = 0 := by
        apply Classical.byContradiction
        exact fun z => c z
      rw [this]; grind
theorem own_mem {s : Sts} {outs : List Str} {i : Nat} {p : Str × Rat} (h : p ∈ ownOf s outs i) : p.1 ∈ outs ∧ p.2 = rwv s i p.1 ∧ p.2 ≠ 0 := by
  unfold ownOf at h
  obtain ⟨n, hn, rfl⟩ := List.mem_map.mp h
  obtain ⟨h1, h2⟩ := List.mem_filter.mp hn
  exact ⟨h1, rfl, by simpa using h2⟩
theorem own_len (s : Sts) (outs : List Str) (i : Nat) : (ownOf s outs i).length ≤ outs.length := by
  unfold ownOf
  rw [List.length_map]
  exact List.length_filter_le _ _
theorem lay_len : ∀ (rows acc : Tab), (rows.foldl layStep acc).length ≤ acc.length + rows.length
  | [], acc => by simp
  | r :: rows, acc => by
    have h1 := lay_len rows (layStep acc r)
    have h2 := layStep_len acc r
    simp only [List.foldl_cons, List.length_cons]
    omega
theorem left_len2 : ∀ ps : List Part, Valid ps → (leftOf ps).length ≤ ps.length + 1 := by
  refine snoc_ind (fun _ => by decide) ?_
  intro ps p ih hv
  obtain ⟨v1, v2⟩ := valid_snoc hv
  have ih := ih v1
  obtain ⟨l1, l2, _⟩ := left_facts ps v1
  have inl : ∀ n ∈ p.ins, n ∈ leftOf ps := fun n hn => (l2 n).mpr ⟨v2.im n hn, v2.it n hn⟩
  unfold leftOf
  rw [fold_snoc, List.length_append]
  cases p with
  | weir a q t r =>
    have := List.length_erase_of_mem (inl a List.mem_cons_self)
    show ((leftOf ps).erase a ++ [t, r]).length ≤ _
    rw [List.length_append]
    simp only [List.length_cons, List.length_nil]
    have : 0 < (leftOf ps).length := List.length_pos_of_mem (inl a List.mem_cons_self)
    omega
  | div a q t r =>
    have := List.length_erase_of_mem (inl a List.mem_cons_self)
    show ((leftOf ps).erase a ++ [t, r]).length ≤ _
    rw [List.length_append]
    simp only [List.length_cons, List.length_nil]
    have : 0 < (leftOf ps).length := List.length_pos_of_mem (inl a List.mem_cons_self)
    omega
  | join a b t =>
    have := List.length_erase_of_mem (inl a List.mem_cons_self)
    have := List.length_erase_le (a := b) (l := (leftOf ps).erase a)
    show (((leftOf ps).erase a).erase b ++ [t]).length ≤ _
    rw [List.length_append]
    simp only [List.length_cons, List.length_nil]
    have : 0 < (leftOf ps).length := List.length_pos_of_mem (inl a List.mem_cons_self)
    omega
theorem outs_len {ps : List Part} (h : Valid ps) : (outsOf ps).length ≤ ps.length + 1 := by
  rw [← (left_perm h).length_eq]
  exact left_len2 ps h
structure Bt (T : Tab) : Prop where
  can : Can 0 T
  pos : ∀ r ∈ T, ∀ p ∈ r.2, 0 < p.2
  sum : ∀ r ∈ T, shSum r.2 = 1
  gr : ∃ E : Nat, 0 < E ∧ E < 2 ^ 560 ∧ ∀ e, some e ∈ T.map (·.1) → G E (2 ^ 50) e
  sg : ∀ r ∈ T, ∀ p ∈ r.2, G (12 ^ 8) 1 p.2
  nm : ∀ r ∈ T, ∀ p ∈ r.2, StrOk p.1 ∧ p.1.length ≤ 100
  tl : T.length ≤ 7
  rl : ∀ r ∈ T, r.2.length ≤ 7
theorem sum_pos : ∀ {s : Shs}, (∀ p ∈ s, 0 ≤ p.2) → 0 ≤ shSum s
  | [], _ => Rat.le_refl
  | p :: s, h => by
    rw [shSum_cons]
    exact Rat.add_nonneg (h p List.mem_cons_self) (sum_pos fun q hq => h q (List.mem_cons_of_mem _ hq))
theorem sum_ge : ∀ {s : Shs}, (∀ p ∈ s, 0 ≤ p.2) → ∀ p ∈ s, p.2 ≤ shSum s
  | q :: s, h, p, hp => by
    rw [shSum_cons]
    have h0 := h q List.mem_cons_self
    have h1 := sum_pos fun q hq => h q (List.mem_cons_of_mem _ hq)
    rcases List.mem_cons.mp hp with z | z
    · rw [z]; grind
    · have := sum_ge (fun q hq => h q (List.mem_cons_of_mem _ hq)) p z
      grind
/-- the first part takes the source, so "in" is no outlet -/
theorem in_taken : ∀ ps : List Part, Valid ps → ps ≠ [] → ("in" : Str) ∈ takenOf ps := by
  intro ps hv hne
  cases ps with
  | nil => exact absurd rfl hne
  | cons p r =>
    have k := hv [] p r rfl
    have : ∀ n ∈ p.ins, n = "in" := fun n hn => by
      have := k.im n hn
      simpa [madeOf] using this
    have hi : ∃ n, n ∈ p.ins := by
      cases p with
      | weir a q t r => exact ⟨a, List.mem_cons_self⟩
      | div a q t r => exact ⟨a, List.mem_cons_self⟩
      | join a b t => exact ⟨a, List.mem_cons_self⟩
    obtain ⟨n, hn⟩ := hi
    unfold takenOf
    rw [List.flatMap_cons]
    exact List.mem_append_left _ (by rw [← this n hn]; exact hn)
theorem Nice.bt {ps : List Part} (h : Nice ps) (hl : ps.length ≤ 6) : Bt (tableM ps) := by
  have hq : ∀ p ∈ ps, QOk p := fun p hp => (h.pg p hp).q
  obtain ⟨gd, run⟩ := gd_net ps h.val h.pg h.len
  have lp := left_perm h.val
  have ls := left_sum ps h.val hq
  obtain ⟨E, e0, e1, he⟩ := gd.gr
  have rowsIn : ∀ r ∈ tableM ps, ∃ i, i < (ps.foldl takeS st0).es.length ∧ r = ((ps.foldl takeS st0).es.getD i none, ownOf (ps.foldl takeS st0) (outsOf ps) i) := fun r hr => by
    rcases lay_mem _ [] hr with z | z
    · simp at z
    · unfold rowsOf at z
      obtain ⟨i, hi, e⟩ := List.mem_map.mp z
      exact ⟨i, List.mem_range.mp hi, e.symm⟩
  have val : ∀ i n, n ∈ outsOf ps → i < (ps.foldl takeS st0).es.length → G (12 ^ ps.length) (2 ^ ps.length) (rwv (ps.foldl takeS st0) i n) := fun i n hn hi => by
    obtain ⟨row, hrow⟩ := made_keys ps n (out_made hn)
    have hl := gd.ok.len _ (getP_mem hrow)
    unfold rwv
    rw [row_of hrow, List.getD_eq_getElem?_getD, List.getElem?_eq_getElem (show i < row.length by rw [show row.length = _ from hl]; exact hi)]
    exact gd.rg _ (getP_mem hrow) _ (List.getElem_mem _)
  have sum1 : ∀ r ∈ tableM ps, shSum r.2 = 1 := fun r hr => by
    obtain ⟨i, hi, rfl⟩ := rowsIn r hr
    show shSum (ownOf _ _ i) = 1
    rw [own_sum, ← sumL_perm _ lp]
    exact ls i hi
  have pos : ∀ r ∈ tableM ps, ∀ p ∈ r.2, 0 < p.2 := fun r hr p hp => by
    obtain ⟨i, hi, rfl⟩ := rowsIn r hr
    obtain ⟨m1, m2, m3⟩ := own_mem hp
    have := (val i p.1 m1 hi).1
    rw [← m2] at this
    grind
  refine ⟨table_can h.val hq, pos, sum1, ⟨E, e0, pE (by omega) e1, fun e z => ?_⟩, fun r hr p hp => ?_, fun r hr p hp => ?_, ?_, fun r hr => ?_⟩
  · obtain ⟨r, hr, e2⟩ := List.mem_map.mp z
    obtain ⟨i, hi, e3⟩ := rowsIn r hr
    refine (he e ?_).mono (by omega)
    rw [← e2, e3]
    show (ps.foldl takeS st0).es.getD i none ∈ _
    rw [List.getD_eq_getElem?_getD, List.getElem?_eq_getElem hi]
    exact List.getElem_mem _
  · have hp1 := sum_ge (fun q hq => Rat.le_of_lt (pos r hr q hq)) p hp
    rw [sum1 r hr] at hp1
    obtain ⟨i, hi, rfl⟩ := rowsIn r hr
    obtain ⟨m1, m2, m3⟩ := own_mem hp
    have g := val i p.1 m1 hi
    rw [← m2] at g
    exact ((g.dvd (Nat.pow_dvd_pow 12 h.len))).le hp1
  · obtain ⟨i, hi, rfl⟩ := rowsIn r hr
    obtain ⟨m1, m2, m3⟩ := own_mem hp
    have mm := out_made m1
    refine ⟨(made_nm ps h.nm).1 _ mm, ?_⟩
    · rcases List.mem_cons.mp mm with z | z
      · rw [z]; decide
      · obtain ⟨p, hp, hn⟩ := List.mem_flatMap.mp z
        exact (h.nm p hp _ (List.mem_append_right _ hn)).2
  · have h1 := lay_len (rowsOf (ps.foldl takeS st0) (outsOf ps)) []
    have h2 : (rowsOf (ps.foldl takeS st0) (outsOf ps)).length = (ps.foldl takeS st0).es.length := by simp [rowsOf]
    have h3 := gd.ln
    show (layersM _).length ≤ 7
    unfold layersM
    simp only [List.length_nil] at h1
    omega
  · obtain ⟨i, hi, rfl⟩ := rowsIn r hr
    have h1 := own_len (ps.foldl takeS st0) (outsOf ps) i
    have h2 := outs_len h.val
    show (ownOf _ _ i).length ≤ 7
    omega
theorem tab_names {ps : List Part} {n : Str} (h : n ∈ namesOf (tableM ps)) : n ∈ outsOf ps := by
  obtain ⟨r, hr, hn⟩ := List.mem_flatMap.mp h
  obtain ⟨p, hp, e⟩ := List.mem_map.mp hn
  rcases lay_mem _ [] hr with z | z
  · simp at z
  · unfold rowsOf at z
    obtain ⟨i, hi, e2⟩ := List.mem_map.mp z
    rw [← e2] at hp
    rw [← e]
    exact (own_mem hp).1
theorem no_in {ps : List Part} (h : Valid ps) (hne : ps ≠ []) : ("in" : Str) ∉ outsT (tableM ps) := fun z => by
  have : ("in" : Str) ∈ namesOf (tableM ps) := (setS_mem _ _).mp z
  exact ((outs_mem ps _).mp (tab_names this)).2 (in_taken ps h hne)
end LN
namespace LN
open PySem PySem.Spec PyProof.Rows L2 SlX
/-! ### the builder's parts, one more at a time -/
abbrev SS0 (md : List Part) : Sts := md.foldl takeS st0
abbrev NmS (n : Str) : Prop := StrOk n ∧ n.length ≤ 100
abbrev DD : Nat := 2 * 12 ^ 8
theorem dd0 : 0 < DD ∧ DD < 2 ^ 60 := by decide
structure Md (E : Nat) (md : List Part) : Prop where
  val : Valid md
  nms : ∀ p ∈ md, ∀ n ∈ p.ins ++ p.outs, NmS n
  txq : ∀ p ∈ md, TxQ p
  qok : ∀ p ∈ md, QOk p
  run : RunOk st0 md
  rg : ∀ p ∈ (SS0 md).rows, ∀ v ∈ p.2, G DD 1 v
  rl : (SS0 md).rows.length ≤ 2 * md.length + 1
  eg : ∀ e, some e ∈ (SS0 md).es → G E (2 ^ 50) e
  el : (SS0 md).es.length ≤ 100
theorem Md.ok {E : Nat} {md : List Part} (h : Md E md) : SOk (SS0 md) := (net_ok md h.val h.qok).1
theorem wf_of {E : Nat} (e0 : 0 < E) (e1 : E < 2 ^ 560) {s : Sts} (ok : SOk s) (rg : ∀ p ∈ s.rows, ∀ v ∈ p.2, G DD 1 v) (rl : s.rows.length ≤ 10000) (eg : ∀ e, some e ∈ s.es → G E (2 ^ 50) e) (el : s.es.length ≤ 1000) : WF s :=
  ⟨ok.nd, el, rl, ok.len, fun e z => (eg e z).fit e0 (plt e1 (by omega)) (plt (i := 60) (by decide) (by omega)), fun p hp v hv => (rg p hp v hv).fit dd0.1 (plt dd0.2 (by omega)) (plt (i := 60) (by decide) (by omega)), asc_non ok.asc⟩
theorem Md.wf {E : Nat} {md : List Part} (h : Md E md) (e0 : 0 < E) (e1 : E < 2 ^ 560) (hl : md.length ≤ 4000) : WF (SS0 md) := wf_of e0 e1 h.ok h.rg (by have := h.rl; omega) h.eg (by have := h.el; omega)
theorem Md.row {E : Nat} {md : List Part} (h : Md E md) {a : Str} (ha : a ∈ leftOf md) : a ∈ madeOf md ∧ a ∉ takenOf md ∧ ∃ row, getP (SS0 md).rows a = some row ∧ row.length = (SS0 md).es.length := by
  obtain ⟨h1, h2⟩ := ((left_facts md h.val).2.1 a).mp ha
  obtain ⟨row, hrow⟩ := made_keys md a h1
  exact ⟨h1, h2, row, hrow, h.ok.len _ (getP_mem hrow)⟩
theorem row_rwv {s : Sts} {a : Str} {row : List Rat} (h : getP s.rows a = some row) {v : Rat} (hv : v ∈ row) : ∃ j, v = rwv s j a := by
  obtain ⟨i, hi, e⟩ := List.mem_iff_getElem.mp hv
  refine ⟨i, ?_⟩
  unfold rwv
  rw [row_of h, List.getD_eq_getElem?_getD, List.getElem?_eq_getElem hi, ← e]; rfl
theorem rwv_G {E : Nat} {md : List Part} (h : Md E md) {a : Str} (ha : a ∈ madeOf md) (j : Nat) : G DD 1 (rwv (SS0 md) j a) := by
  obtain ⟨row, hrow⟩ := made_keys md a ha
  unfold rwv
  rw [row_of hrow, List.getD_eq_getElem?_getD]
  cases e : row[j]? with
  | none => exact G.zero _ _
  | some v => exact h.rg _ (getP_mem hrow) v (List.mem_of_getElem? e)
/-- the common end of the three -/
theorem md_add {E : Nat} {md : List Part} {p : Part} (e0 : 0 < E) (e1 : E < 2 ^ 560) (h : Md E md) (hl : md.length ≤ 3999) (po : PartOk (takenOf md) (madeOf md) p) (nm : ∀ n ∈ p.ins ++ p.outs, NmS n) (tx : TxQ p) (qo : QOk p) (st : StepOk (SS0 md) p)
    (rg : ∀ q ∈ (takeS (SS0 md) p).rows, ∀ v ∈ q.2, G DD 1 v) (rl : (takeS (SS0 md) p).rows.length ≤ (SS0 md).rows.length + 2) (eg : ∀ e, some e ∈ (takeS (SS0 md) p).es → G E (2 ^ 50) e) (el : (takeS (SS0 md) p).es.length ≤ 100) : Md E (md ++ [p]) := by
  have hin : ∀ n ∈ p.ins, ∃ row, getP (SS0 md).rows n = some row := fun n hn => made_keys md n (po.im n hn)
  have ok2 := (take_ok h.ok qo hin).1
  have mem : ∀ {X : Part → Prop}, (∀ p ∈ md, X p) → X p → ∀ q ∈ md ++ [p], X q := fun h1 h2 q hq => by
    rcases List.mem_append.mp hq with z | z
    · exact h1 q z
    · rw [List.mem_singleton.mp z]; exact h2
  have hrl := h.rl
  refine ⟨valid_of_snoc h.val po, mem h.nms nm, mem h.txq tx, mem h.qok qo, runok_snoc h.run st (wf_of (s := takeS (SS0 md) p) e0 e1 ok2 rg (by omega) eg (by omega)), ?_, ?_, ?_, ?_⟩
  · show ∀ q ∈ ((md ++ [p]).foldl takeS st0).rows, _
    rw [fold_snoc]; exact rg
  · show ((md ++ [p]).foldl takeS st0).rows.length ≤ _
    rw [fold_snoc, List.length_append]
    show (takeS (SS0 md) p).rows.length ≤ 2 * (md.length + 1) + 1
    omega
  · show ∀ e, some e ∈ ((md ++ [p]).foldl takeS st0).es → _
    rw [fold_snoc]; exact eg
  · show ((md ++ [p]).foldl takeS st0).es.length ≤ _
    rw [fold_snoc]; exact el
theorem md_div {E : Nat} {md : List Part} {a t r : Str} {q : Rat} (e0 : 0 < E) (e1 : E < 2 ^ 560) (h : Md E md) (hl : md.length ≤ 3999) (ha : a ∈ leftOf md) (ht : t ∉ madeOf md) (hr : r ∉ madeOf md) (htr : t ≠ r) (na : NmS a) (nt : NmS t) (nr : NmS r)
    (hq : 0 ≤ q ∧ q ≤ 1) (tx : TxtOk q) (f1 : Fit (1 - q)) (g1 : ∀ j, G DD 1 (rwv (SS0 md) j a * q)) (g2 : ∀ j, G DD 1 (rwv (SS0 md) j a * (1 - q))) :
    Md E (md ++ [.div a q t r]) ∧ leftOf (md ++ [.div a q t r]) = (leftOf md).erase a ++ [t, r] ∧ (SS0 (md ++ [.div a q t r])).es = (SS0 md).es ∧
      ∀ j n, rwv (SS0 (md ++ [.div a q t r])) j n = if n = r then rwv (SS0 md) j a * (1 - q) else if n = t then rwv (SS0 md) j a * q else rwv (SS0 md) j n := by
  obtain ⟨am, at_, row, hrow, hlen⟩ := h.row ha
  have er := row_of hrow
  have po : PartOk (takenOf md) (madeOf md) (.div a q t r) := ⟨by simp [Part.ins], by simpa [Part.outs] using htr, fun n hn => by
    rw [List.mem_singleton.mp hn]; exact am, fun n hn => by
    rw [List.mem_singleton.mp hn]; exact at_, fun n hn => by
    simp only [Part.outs, List.mem_cons, List.not_mem_nil, or_false] at hn
    rcases hn with z | z <;> rw [z] <;> assumption⟩
  have et : takeS (SS0 md) (.div a q t r) = ⟨(SS0 md).es, putP (putP (SS0 md).rows t (((SS0 md).row a).map (· * q))) r (((SS0 md).row a).map (· * (1 - q)))⟩ := rfl
  refine ⟨md_add e0 e1 h hl po ?_ tx hq ⟨⟨row, hrow⟩, tx.fit, hq.2, f1⟩ ?_ ?_ h.eg h.el, ?_, ?_, fun j n => ?_⟩
  · intro n hn
    simp only [Part.ins, Part.outs, List.cons_append, List.nil_append, List.mem_cons, List.not_mem_nil, or_false] at hn
    rcases hn with z | z | z <;> rw [z] <;> assumption
  · rw [et, er]
    intro p hp v hv
    rcases mem_put hp with z | hp
    · rw [z] at hv
      obtain ⟨u, hu, rfl⟩ := List.mem_map.mp hv
      obtain ⟨j, e⟩ := row_rwv hrow hu
      rw [e]; exact g2 j
    · rcases mem_put hp with z | hp
      · rw [z] at hv
        obtain ⟨u, hu, rfl⟩ := List.mem_map.mp hv
        obtain ⟨j, e⟩ := row_rwv hrow hu
        rw [e]; exact g1 j
      · exact h.rg p hp v hv
  · rw [et]
    exact len2 _ _ _ _ _
  · unfold leftOf
    rw [fold_snoc]; rfl
  · show ((md ++ [_]).foldl takeS st0).es = _
    rw [fold_snoc]; rfl
  · show rwv ((md ++ [_]).foldl takeS st0) j n = _
    rw [fold_snoc, et, rwv_put (s := ⟨(SS0 md).es, putP (SS0 md).rows t _⟩), rwv_put, map_getD (· * q) (Rat.zero_mul q), map_getD (· * (1 - q)) (Rat.zero_mul (1 - q))]
    rfl
theorem md_join {E : Nat} {md : List Part} {a b t : Str} (e0 : 0 < E) (e1 : E < 2 ^ 560) (h : Md E md) (hl : md.length ≤ 3999) (ha : a ∈ leftOf md) (hb : b ∈ leftOf md) (hab : a ≠ b) (ht : t ∉ madeOf md) (na : NmS a) (nb : NmS b) (nt : NmS t)
    (g1 : ∀ j, G DD 1 (rwv (SS0 md) j a + rwv (SS0 md) j b)) :
    Md E (md ++ [.join a b t]) ∧ leftOf (md ++ [.join a b t]) = ((leftOf md).erase a).erase b ++ [t] ∧ (SS0 (md ++ [.join a b t])).es = (SS0 md).es ∧
      ∀ j n, rwv (SS0 (md ++ [.join a b t])) j n = if n = t then rwv (SS0 md) j a + rwv (SS0 md) j b else rwv (SS0 md) j n := by
  obtain ⟨am, at_, row, hrow, hlen⟩ := h.row ha
  obtain ⟨bm, bt_, row2, hrow2, hlen2⟩ := h.row hb
  have po : PartOk (takenOf md) (madeOf md) (.join a b t) := ⟨by simpa [Part.ins] using hab, by simp [Part.outs], fun n hn => by
    simp only [Part.ins, List.mem_cons, List.not_mem_nil, or_false] at hn
    rcases hn with z | z <;> rw [z] <;> assumption, fun n hn => by
    simp only [Part.ins, List.mem_cons, List.not_mem_nil, or_false] at hn
    rcases hn with z | z <;> rw [z] <;> assumption, fun n hn => by
    rw [List.mem_singleton.mp hn]; exact ht⟩
  have hz : row.length = row2.length := hlen.trans hlen2.symm
  have et : takeS (SS0 md) (.join a b t) = ⟨(SS0 md).es, putP (SS0 md).rows t (List.zipWith (· + ·) row row2)⟩ := by
    show joinS (SS0 md) a b t = _
    unfold joinS
    rw [row_of hrow, row_of hrow2]
  refine ⟨md_add e0 e1 h hl po ?_ trivial trivial ⟨⟨row, hrow⟩, row2, hrow2⟩ ?_ ?_ h.eg h.el, ?_, ?_, fun j n => ?_⟩
  · intro n hn
    simp only [Part.ins, Part.outs, List.cons_append, List.nil_append, List.mem_cons, List.not_mem_nil, or_false] at hn
    rcases hn with z | z | z <;> rw [z] <;> assumption
  · rw [et]
    intro p hp v hv
    rcases mem_put hp with z | hp
    · rw [z] at hv
      obtain ⟨i, hi, e⟩ := List.mem_iff_getElem.mp hv
      have hi2 : i < min row.length row2.length := by rw [← List.length_zipWith]; exact hi
      rw [List.getElem_zipWith] at e
      have g := g1 i
      unfold rwv at g
      rw [row_of hrow, row_of hrow2, List.getD_eq_getElem?_getD, List.getElem?_eq_getElem (show i < row.length by omega), List.getD_eq_getElem?_getD, List.getElem?_eq_getElem (show i < row2.length by omega)] at g
      rw [← e]; exact g
    · exact h.rg p hp v hv
  · rw [et]
    have := putP_len (SS0 md).rows t (List.zipWith (· + ·) row row2)
    show (putP _ _ _).length ≤ _
    omega
  · unfold leftOf
    rw [fold_snoc]; rfl
  · show ((md ++ [_]).foldl takeS st0).es = _
    rw [fold_snoc]; rfl
  · show rwv ((md ++ [_]).foldl takeS st0) j n = _
    rw [fold_snoc, et, rwv_put, zip_getD hz]
    unfold rwv
    rw [row_of hrow, row_of hrow2]
/-! a weir on what is past all borders -/
theorem place_all {u : Rat} : ∀ {bs : List Rat} {b : Rat}, (∀ e ∈ bs, e < u) → placeFor (bs.map some ++ [none]) u = bs.length
  | [], _, _ => rfl
  | e :: bs, b, h => by
    show placeFor (some e :: (bs.map some ++ [none])) u = bs.length + 1
    rw [place_cons, if_pos (h e List.mem_cons_self), place_all (b := b) fun x hx => h x (List.mem_cons_of_mem _ hx)]; omega
theorem ins_all {u : Rat} : ∀ {bs : List Rat}, (∀ e ∈ bs, e < u) → insW u (bs.map some ++ [none]) = bs.map some ++ [some u, none]
  | [], _ => rfl
  | e :: bs, h => by
    show insW u (some e :: (bs.map some ++ [none])) = some e :: (bs.map some ++ [some u, none])
    unfold insW
    rw [if_pos (h e List.mem_cons_self), ins_all fun x hx => h x (List.mem_cons_of_mem _ hx)]
theorem cut_all {lim : Rat} (hl : 0 < lim) : ∀ {bs : List Rat} {b : Rat}, cutGo lim 0 b (bs.map some ++ [none]) (List.replicate bs.length 0 ++ [1]) = some (bs.getLastD b + lim)
  | [], b => by
    show cutGo lim 0 b [none] [1] = some (b + lim)
    unfold cutGo
    rw [if_neg (by decide)]
    congr 1
    rw [Rat.div_def, show (1 : Rat)⁻¹ = 1 from Rat.inv_eq_of_mul_eq_one (Rat.mul_one 1)]; grind
  | e :: bs, b => by
    show cutGo lim 0 b (some e :: (bs.map some ++ [none])) (0 :: (List.replicate bs.length 0 ++ [1])) = _
    unfold cutGo
    rw [if_pos (by grind), show (0 : Rat) + 0 * (e - b) = 0 by grind, cut_all hl (bs := bs) (b := e)]
    cases bs <;> rfl
theorem row_ext {r t : List Rat} (hl : r.length = t.length) (h : ∀ j, r.getD j 0 = t.getD j 0) : r = t := by
  apply List.ext_getElem hl
  intro i h1 h2
  have := h i
  rw [List.getD_eq_getElem?_getD, List.getD_eq_getElem?_getD, List.getElem?_eq_getElem h1, List.getElem?_eq_getElem h2] at this
  exact this
theorem md_weir {E : Nat} {md : List Part} {a t r : Str} {bs : List Rat} {u : Rat} (e0 : 0 < E) (e1 : E < 2 ^ 560) (h : Md E md) (hl : md.length ≤ 3999) (ha : a ∈ leftOf md) (ht : t ∉ madeOf md) (hr : r ∉ madeOf md) (htr : t ≠ r) (na : NmS a) (nt : NmS t) (nr : NmS r)
    (hes : (SS0 md).es = bs.map some ++ [none]) (hbl : bs.length ≤ 50) (hbs : ∀ e ∈ bs, e < u) (hb0 : bs.getLastD 0 < u) (gu : G E (2 ^ 50) u) (gb : G E (2 ^ 50) (bs.getLastD 0)) (hrow : ∀ j, j ≤ bs.length → rwv (SS0 md) j a = if j = bs.length then 1 else 0) :
    Md E (md ++ [.weir a (u - bs.getLastD 0) t r]) ∧ leftOf (md ++ [.weir a (u - bs.getLastD 0) t r]) = (leftOf md).erase a ++ [t, r] ∧ (SS0 (md ++ [.weir a (u - bs.getLastD 0) t r])).es = (bs ++ [u]).map some ++ [none] ∧
      ∀ j, j ≤ bs.length + 1 → ∀ n, n ∈ madeOf md ∨ n = t ∨ n = r → rwv (SS0 (md ++ [.weir a (u - bs.getLastD 0) t r])) j n = if n = r then (if j = bs.length + 1 then 1 else 0) else if n = t then (if j = bs.length then 1 else 0) else rwv (SS0 md) (min j bs.length) n := by
  obtain ⟨am, at_, row, hrowa, hlen⟩ := h.row ha
  have er := row_of hrowa
  have ok := h.ok
  have q0 : 0 < u - bs.getLastD 0 := by grind
  have po : PartOk (takenOf md) (madeOf md) (.weir a (u - bs.getLastD 0) t r) := ⟨by simp [Part.ins], by simpa [Part.outs] using htr, fun n hn => by
    rw [List.mem_singleton.mp hn]; exact am, fun n hn => by
    rw [List.mem_singleton.mp hn]; exact at_, fun n hn => by
    simp only [Part.outs, List.mem_cons, List.not_mem_nil, or_false] at hn
    rcases hn with z | z <;> rw [z] <;> assumption⟩
  have hlr : row.length = bs.length + 1 := by
    rw [hlen, hes, List.length_append, List.length_map]; rfl
  have erow : row = List.replicate bs.length 0 ++ [1] := by
    refine row_ext (by rw [hlr]; simp) fun j => ?_
    by_cases c : j ≤ bs.length
    · have := hrow j c
      unfold rwv at this
      rw [er] at this
      rw [this]
      by_cases d : j = bs.length
      · rw [if_pos d, d, List.getD_eq_getElem?_getD, List.getElem?_append_right (by simp)]; simp
      · rw [if_neg d, List.getD_eq_getElem?_getD, List.getElem?_append_left (by simp; omega), List.getElem?_replicate, if_pos (by omega)]; rfl
    · rw [List.getD_eq_getElem?_getD, List.getD_eq_getElem?_getD, List.getElem?_eq_none (by omega), List.getElem?_eq_none (by simp; omega)]
  have gq : G E (2 ^ 50) (u - bs.getLastD 0) := gu.sub gb (Rat.le_of_lt hb0)
  have ecut : cutAt (SS0 md).es row (u - bs.getLastD 0) = some u := by
    unfold cutAt
    rw [if_neg (by grind), hes, erow, cut_all q0]
    congr 1
    grind
  have u0 : 0 < u := by
    have h0 := gb.1
    grind
  have unot : some u ∉ (SS0 md).es := by
    rw [hes]
    intro z
    rcases List.mem_append.mp z with z | z
    · obtain ⟨e, he, e2⟩ := List.mem_map.mp z
      injection e2 with e2
      have := hbs e he
      grind
    · simp at z
  have c : ¬ (u = 0 ∨ some u ∈ (SS0 md).es) := fun z => z.elim (fun z => by grind) unot
  have epart := part_some c ok
  have ees : insW u (SS0 md).es = bs.map some ++ [some u, none] := by rw [hes, ins_all hbs]
  have epl : placeFor (SS0 md).es u = bs.length := by rw [hes, place_all (b := 0) hbs]
  have epl2 : placeFor (bs.map some ++ [some u, none]) u = bs.length := by
    have : ∀ l : List Rat, (∀ e ∈ l, e < u) → placeFor (l.map some ++ [some u, none]) u = l.length := by
      intro l
      induction l with
      | nil =>
        intro _
        show placeFor [some u, none] u = 0
        rw [place_cons, if_neg Rat.lt_irrefl, place_none]; rfl
      | cons e l ih =>
        intro hh
        show placeFor (some e :: (l.map some ++ [some u, none])) u = l.length + 1
        rw [place_cons, if_pos (hh e List.mem_cons_self), ih fun x hx => hh x (List.mem_cons_of_mem _ hx)]; omega
    exact this bs hbs
  obtain ⟨ok1, _, _, some1⟩ := part_ok (w := some u) ok (fun x hx => by injection hx with hx; rw [← hx]; exact Rat.le_of_lt u0)
  -- the rows after the parting
  have prw : ∀ n, n ∈ madeOf md → ∀ j, rwv (partAt (SS0 md) (some u)) j n = rwv (SS0 md) (if j ≤ bs.length then j else j - 1) n := fun n hn j => by
    obtain ⟨rw1, hrw1⟩ := made_keys md n hn
    unfold rwv
    have e2 : (partAt (SS0 md) (some u)).row n = dupAt (placeFor (SS0 md).es u) rw1 := by
      refine row_of ?_
      rw [show partAt (SS0 md) (some u) = ⟨insAt (placeFor (SS0 md).es u) (some u) (SS0 md).es, (SS0 md).rows.map fun p => (p.1, dupAt (placeFor (SS0 md).es u) p.2)⟩ from if_neg c]
      show getP ((SS0 md).rows.map fun p => (p.1, dupAt (placeFor (SS0 md).es u) p.2)) n = _
      rw [getP_map, hrw1]; rfl
    rw [e2, row_of hrw1, dup_getD, epl]
  have es1 : (partAt (SS0 md) (some u)).es = bs.map some ++ [some u, none] := by rw [epart]; exact ees
  have len1 : (bs.map some ++ [some u, none]).length = bs.length + 2 := by simp
  have et : takeS (SS0 md) (.weir a (u - bs.getLastD 0) t r) = ⟨bs.map some ++ [some u, none], putP (putP (partAt (SS0 md) (some u)).rows t (loR (bs.length + 1) (bs.length + 2) ((partAt (SS0 md) (some u)).row a))) r (hiR (bs.length + 1) (bs.length + 2) ((partAt (SS0 md) (some u)).row a))⟩ := by
    show weirS (SS0 md) a (u - bs.getLastD 0) t r = _
    unfold weirS
    simp only [er, ecut, es1, len1]
    rw [show firstOf (bs.map some ++ [some u, none]) (some u) = bs.length + 1 by
      show placeFor (bs.map some ++ [some u, none]) u + (if u = 0 then 0 else 1) = _
      rw [epl2, if_neg (by grind)]]
  have dup01 : ∀ p ∈ (partAt (SS0 md) (some u)).rows, ∀ v ∈ p.2, G DD 1 v := fun p hp v hv => by
    rw [epart] at hp
    obtain ⟨q, hq, rfl⟩ := List.mem_map.mp hp
    exact h.rg q hq v (mem_dup ok.asc (ok.len q hq).symm hv)
  have eg1 : ∀ e, some e ∈ bs.map some ++ [some u, none] → G E (2 ^ 50) e := fun e z => by
    rw [← ees] at z
    rcases mem_ins.mp z with z | z
    · injection z with z; rw [z]; exact gu
    · exact h.eg e z
  have hpa : ∃ row1, getP (partAt (SS0 md) (some u)).rows a = some row1 := by
    have := some1 a
    rw [hrowa] at this
    exact Option.isSome_iff_exists.mp this
  obtain ⟨row1, hrow1⟩ := hpa
  have er1 := row_of hrow1
  have hl1 : row1.length = bs.length + 2 := by
    rw [show row1.length = _ from ok1.len _ (getP_mem hrow1), es1, len1]
  have pl : (partAt (SS0 md) (some u)).rows.length = (SS0 md).rows.length := by rw [epart]; exact List.length_map ..
  have wf1 : WF (partAt (SS0 md) (some u)) := wf_of e0 e1 ok1 dup01 (by rw [pl]; have := h.rl; omega) (by rw [es1]; exact eg1) (by rw [es1, len1]; omega)
  have cok := cut_sizes (lim := u - bs.getLastD 0) (got := 0) (b := 0) (E := E) (D := DD) (A := 1) (X := 2 ^ 50) (L := 2 ^ 50) e0 dd0.1 e1 dd0.2 (by decide) (by decide) (by decide) (gq.dvd ⟨6 * DD, by grind⟩) ok.asc (show (SS0 md).es.length = row.length from hlen.symm) h.eg (h.rg _ (getP_mem hrowa)) (G.zero _ _) (G.zero _ _) q0
  have tq : TxtOk (u - bs.getLastD 0) := gq.txt e0 (plt e1 (by omega)) (plt (i := 60) (by decide) (by omega))
  refine ⟨md_add e0 e1 h hl po ?_ tq (Rat.le_of_lt q0) ⟨⟨row, hrowa⟩, tq.fit, fun _ => by rw [er]; exact cok.1, fun w hw => ?_, by rw [er, ecut]; exact wf1⟩ ?_ ?_ ?_ ?_, ?_, ?_, fun j hj n hn => ?_⟩
  · intro n hn
    simp only [Part.ins, Part.outs, List.cons_append, List.nil_append, List.mem_cons, List.not_mem_nil, or_false] at hn
    rcases hn with z | z | z <;> rw [z] <;> assumption
  · rw [er, ecut] at hw
    injection hw with hw
    rw [← hw]
    exact gu.fit e0 (plt e1 (by omega)) (plt (i := 60) (by decide) (by omega))
  · rw [et, er1]
    intro p hp v hv
    rcases mem_put hp with z | hp
    · rw [z] at hv
      rcases mem_hi hl1 hv with z | z
      · rw [z]; exact G.zero _ _
      · exact dup01 _ (getP_mem hrow1) v z
    · rcases mem_put hp with z | hp
      · rw [z] at hv
        rcases mem_lo hl1 hv with z | z
        · rw [z]; exact G.zero _ _
        · exact dup01 _ (getP_mem hrow1) v z
      · exact dup01 p hp v hv
  · rw [et]
    have := len2 (partAt (SS0 md) (some u)).rows t r (loR (bs.length + 1) (bs.length + 2) ((partAt (SS0 md) (some u)).row a)) (hiR (bs.length + 1) (bs.length + 2) ((partAt (SS0 md) (some u)).row a))
    rw [pl] at this
    exact this
  · rw [et]; exact eg1
  · rw [et]
    show (bs.map some ++ [some u, none]).length ≤ 100
    rw [len1]; omega
  · unfold leftOf
    rw [fold_snoc]; rfl
  · show ((md ++ [_]).foldl takeS st0).es = _
    rw [fold_snoc, et]
    simp
  · show rwv ((md ++ [_]).foldl takeS st0) j n = _
    rw [fold_snoc, et, rwv_put (s := ⟨bs.map some ++ [some u, none], putP (partAt (SS0 md) (some u)).rows t _⟩)]
    have ra := prw a am j
    have lohi : (loR (bs.length + 1) (bs.length + 2) ((partAt (SS0 md) (some u)).row a)).getD j 0 = (if j < bs.length + 1 then rwv (partAt (SS0 md) (some u)) j a else 0) ∧ (hiR (bs.length + 1) (bs.length + 2) ((partAt (SS0 md) (some u)).row a)).getD j 0 = (if j < bs.length + 1 then 0 else rwv (partAt (SS0 md) (some u)) j a) := by
      unfold loR hiR rwv
      simp only [List.getD_eq_getElem?_getD, List.getElem?_map, List.getElem?_range (show j < bs.length + 2 by omega), Option.map_some, Option.getD_some]
      exact ⟨trivial, trivial⟩
    obtain ⟨lo, hi⟩ := lohi
    by_cases c1 : n = r
    · rw [if_pos c1, if_pos c1, hi, ra]
      by_cases d : j < bs.length + 1
      · rw [if_pos d, if_neg (show ¬ j = bs.length + 1 by omega)]
      · rw [if_neg d, if_neg (show ¬ j ≤ bs.length by omega), if_pos (show j = bs.length + 1 by omega), hrow _ (show j - 1 ≤ bs.length by omega), if_pos (show j - 1 = bs.length by omega)]
    · rw [if_neg c1, if_neg c1, rwv_put (s := ⟨bs.map some ++ [some u, none], (partAt (SS0 md) (some u)).rows⟩)]
      by_cases c2 : n = t
      · rw [if_pos c2, if_pos c2, lo, ra]
        by_cases d : j < bs.length + 1
        · rw [if_pos d, if_pos (show j ≤ bs.length by omega), hrow _ (show j ≤ bs.length by omega)]
        · rw [if_neg d, if_neg (show ¬ j = bs.length by omega)]
      · rw [if_neg c2, if_neg c2]
        have hm : n ∈ madeOf md := by
          rcases hn with z | z | z
          · exact z
          · exact absurd z c2
          · exact absurd z c1
        show rwv (partAt (SS0 md) (some u)) j n = _
        rw [prw n hm j]
        congr 1
        by_cases d : j ≤ bs.length
        · rw [if_pos d, Nat.min_eq_left d]
        · rw [if_neg d, Nat.min_eq_right (by omega)]; omega
end LN
namespace LN
open PySem PySem.Spec PyProof.Rows L2 SlX
/-! ### the builder's layers -/
theorem addP_get (o n : Str) : ∀ (l : List (Str × List Str)) (k : Str), getP (addP o n l) k = if k = o then (getP l o).map (· ++ [n]) else getP l k
  | [], k => by
    show getP [] k = _
    rw [getP_nil, getP_nil]
    split <;> rfl
  | (x, c) :: l, k => by
    unfold addP
    by_cases h : x = o
    · rw [if_pos h, getP_cons, getP_cons, getP_cons, if_pos h]
      by_cases d : k = o
      · rw [if_pos d, if_pos (by rw [h, d])]; rfl
      · rw [if_neg d, if_neg (by rw [h]; exact fun z => d z.symm), if_neg (by rw [h]; exact fun z => d z.symm)]
    · rw [if_neg h, getP_cons, getP_cons, getP_cons, if_neg h, addP_get o n l k]
      by_cases d : k = o
      · rw [if_pos d, if_pos d, if_neg (show ¬ x = k by rw [d]; exact h)]
      · rw [if_neg d, if_neg d]
theorem addP_flat {o n : Str} : ∀ {l : List (Str × List Str)}, o ∈ l.map (·.1) → ((addP o n l).flatMap (·.2)).Perm (n :: l.flatMap (·.2))
  | [], h => by simp at h
  | (x, c) :: l, h => by
    unfold addP
    by_cases e : x = o
    · rw [if_pos e, List.flatMap_cons, List.flatMap_cons]
      show ((c ++ [n]) ++ l.flatMap (·.2)).Perm (n :: (c ++ l.flatMap (·.2)))
      rw [List.append_assoc]
      exact List.perm_middle
    · rw [if_neg e, List.flatMap_cons, List.flatMap_cons]
      rw [List.map_cons] at h
      have h2 : o ∈ l.map (·.1) := (List.mem_cons.mp h).resolve_left fun z => e z.symm
      exact ((addP_flat h2).append_left c).trans List.perm_middle
structure Bj (E : Nat) (outs : List Str) (b : Bs) (chs : List Str) : Prop where
  md : Md E b.made
  perm : (leftOf b.made).Perm (chs ++ b.pcs.flatMap (·.2))
  fnd : b.free.Nodup
  fm : ∀ n ∈ b.free, n ∉ madeOf b.made ∧ NmS n ∧ n ∉ outs
  keys : b.pcs.map (·.1) = outs
  nm : ∀ n ∈ leftOf b.made, NmS n
  om : ∀ n ∈ madeOf b.made, n ∉ outs
def psum (b : Bs) (j : Nat) (o : Str) : Rat := sumL (rwv (SS0 b.made) j) ((getP b.pcs o).getD [])
theorem Bj.made {E : Nat} {outs : List Str} {b : Bs} {chs : List Str} (h : Bj E outs b chs) {n : Str} (hn : n ∈ chs ++ b.pcs.flatMap (·.2)) : n ∈ leftOf b.made ∧ n ∈ madeOf b.made := by
  have h1 := h.perm.mem_iff.mpr hn
  exact ⟨h1, (h.md.row h1).1⟩
theorem pcs_mem {pcs : List (Str × List Str)} {o n : Str} (h : n ∈ (getP pcs o).getD []) : n ∈ pcs.flatMap (·.2) := by
  cases e : getP pcs o with
  | none => rw [e] at h; simp at h
  | some c =>
    rw [e] at h
    exact List.mem_flatMap.mpr ⟨_, getP_mem e, h⟩
theorem rwv_out {E : Nat} {md : List Part} (h : Md E md) {a : Str} (ha : a ∈ madeOf md) {j : Nat} (hj : ¬ j < (SS0 md).es.length) : rwv (SS0 md) j a = 0 := by
  obtain ⟨row, hrow⟩ := made_keys md a ha
  have hl := h.ok.len _ (getP_mem hrow)
  unfold rwv
  rw [row_of hrow, List.getD_eq_getElem?_getD, List.getElem?_eq_none (by rw [show row.length = _ from hl]; omega)]; rfl
theorem g12 {q : Rat} (h : G (12 ^ 8) 1 q) : G DD 1 q := h.dvd ⟨2, by decide⟩
theorem fit12 {q : Rat} (h : G (12 ^ 8) 1 q) : Fit q := h.fit (by decide) (plt (i := 60) (by decide) (by omega)) (plt (i := 60) (by decide) (by omega))
theorem g_one (N : Nat) : G N 1 1 := ⟨by decide, Rat.le_refl, N, by rw [Rat.one_mul]⟩
/-- a share of what is left -/
theorem ratio {p l : Rat} (hp : G (12 ^ 8) 1 p) (hl : G (12 ^ 8) 1 l) (l0 : 0 < l) (hle : p ≤ l) : 0 ≤ p / l ∧ p / l ≤ 1 ∧ TxtOk (p / l) ∧ Fit (1 - p / l) ∧ l * (p / l) = p ∧ l * (1 - p / l) = l - p := by
  obtain ⟨n, n0, n1, g⟩ := G.div (by decide) hp hl l0
  have e : p / l * l = p := Rat.div_mul_cancel (by grind)
  have q1 : p / l ≤ 1 := by
    have : p / l * l ≤ 1 * l := by rw [e]; grind
    exact Rat.le_of_mul_le_mul_right this l0
  have g1 : G (12 ^ 8 * n) 1 (p / l) := g.le q1
  have np : 0 < 12 ^ 8 * n := Nat.mul_pos (by decide) n0
  have nb : 12 ^ 8 * n < 2 ^ (60 + 60) := mlt (by decide) (Nat.lt_of_le_of_lt n1 (by decide))
  have b1 : 1 < 2 ^ 900 := plt (i := 60) (by decide) (by omega)
  refine ⟨g1.1, q1, g1.txt np (plt nb (by omega)) b1, ((g_one _).sub g1 q1).fit np (plt nb (by omega)) b1, by rw [Rat.mul_comm, e], ?_⟩
  rw [Rat.sub_eq_add_neg, Rat.mul_add, Rat.mul_neg, Rat.mul_comm l (p / l), e]; grind
theorem part_go {E : Nat} {outs : List Str} (e0 : 0 < E) (e1 : E < 2 ^ 560) : ∀ (shs : Shs) (b : Bs) (ch : Str) (left : Rat) (base : Nat → Rat) (chs : List Str), Bj E outs b (ch :: chs) → (∀ j, base j = 0 ∨ base j = 1) →
    (∀ j, j < (SS0 b.made).es.length → rwv (SS0 b.made) j ch = left * base j) → shs ≠ [] → shSum shs = left → (∀ p ∈ shs, 0 < p.2 ∧ G (12 ^ 8) 1 p.2 ∧ p.1 ∈ outs) → G (12 ^ 8) 1 left → 2 * shs.length ≤ b.free.length + 2 → b.made.length + shs.length ≤ 3999 →
    Bj E outs (partGo b ch left shs) chs ∧ (SS0 (partGo b ch left shs).made).es = (SS0 b.made).es ∧ (∀ n ∈ madeOf b.made, n ∈ madeOf (partGo b ch left shs).made ∧ ∀ j, rwv (SS0 (partGo b ch left shs).made) j n = rwv (SS0 b.made) j n) ∧
      (∀ o ∈ outs, (shs.map (·.1)).Nodup → ∀ j, j < (SS0 b.made).es.length → psum (partGo b ch left shs) j o = psum b j o + gS shs o * base j) ∧ b.free.length + 2 = (partGo b ch left shs).free.length + 2 * shs.length ∧ (partGo b ch left shs).made.length + 1 = b.made.length + shs.length := by
  intro shs
  induction shs with
  | nil => intro b ch left base chs _ _ _ h; exact absurd rfl h
  | cons p r ih =>
    intro b ch left base chs hb hbase hrow _ hsum hsh hleft hfree hmade
    obtain ⟨p0, pg, po⟩ := hsh p List.mem_cons_self
    have pk : p.1 ∈ b.pcs.map (·.1) := by rw [hb.keys]; exact po
    have hch := hb.made (n := ch) (List.mem_append_left _ List.mem_cons_self)
    cases r with
    | nil =>
      have ep : p.2 = left := by
        rw [← hsum, shSum_cons]
        show p.2 = p.2 + 0
        grind
      refine ⟨⟨hb.md, ?_, hb.fnd, hb.fm, ?_, hb.nm, hb.om⟩, rfl, fun n hn => ⟨hn, fun _ => rfl⟩, fun o ho _ j hj => ?_, ?_, rfl⟩
      · exact hb.perm.trans (List.perm_middle.symm.trans ((addP_flat pk).symm.append_left chs))
      · show (addP p.1 ch b.pcs).map (·.1) = outs
        rw [addP_keys]; exact hb.keys
      · show sumL (rwv (SS0 b.made) j) ((getP (addP p.1 ch b.pcs) o).getD []) = sumL (rwv (SS0 b.made) j) ((getP b.pcs o).getD []) + gS [p] o * base j
        rw [addP_get, gS_cons, gS_nil]
        by_cases c : o = p.1
        · rw [if_pos c, if_pos c.symm, c]
          obtain ⟨l, hl⟩ := key_getP pk
          rw [hl]
          show sumL _ (l ++ [ch]) = sumL _ l + _
          rw [sumL_app, sumL_cons, hrow j hj, ep]
          show _ + (_ + 0) = _
          grind
        · rw [if_neg c, if_neg fun z => c z.symm]; grind
      · show b.free.length + 2 = b.free.length + 2 * 1
        omega
    | cons q r =>
      have hl2 : 2 ≤ b.free.length := by
        simp only [List.length_cons] at hfree
        omega
      have rest := fun x (hx : x ∈ q :: r) => hsh x (List.mem_cons_of_mem _ hx)
      have hs2 : shSum (q :: r) = left - p.2 := by
        rw [← hsum, shSum_cons p]; grind
      have rp : 0 < shSum (q :: r) := by
        have h1 := rest q List.mem_cons_self
        have h2 := sum_ge (fun x hx => Rat.le_of_lt (rest x hx).1) q List.mem_cons_self
        grind
      have hle : p.2 ≤ left := by grind
      have l0 : 0 < left := by grind
      obtain ⟨r1, r2, r3, r4, r5, r6⟩ := ratio pg hleft l0 hle
      obtain ⟨n1, n2, fr, hfr⟩ : ∃ n1 n2 fr, b.free = n1 :: n2 :: fr := by
        match h : b.free, hl2 with
        | n1 :: n2 :: fr, _ => exact ⟨n1, n2, fr, rfl⟩
      have en1 : b.n1 = n1 := by unfold Bs.n1; rw [hfr]; rfl
      have en2 : b.n2 = n2 := by unfold Bs.n2; rw [hfr]; rfl
      have f1 := hb.fm n1 (by rw [hfr]; exact List.mem_cons_self)
      have f2 := hb.fm n2 (by rw [hfr]; exact List.mem_cons_of_mem _ List.mem_cons_self)
      have fnd := hb.fnd
      rw [hfr, List.nodup_cons, List.nodup_cons] at fnd
      have n12 : n1 ≠ n2 := fun z => fnd.1 (by rw [z]; exact List.mem_cons_self)
      have sg := hleft.sub pg hle
      have gz : ∀ {x : Rat} {j : Nat}, G (12 ^ 8) 1 x → G DD 1 (x * base j) := fun {x j} hx => by
        rcases hbase j with z | z
        · rw [z, Rat.mul_zero]; exact G.zero _ _
        · rw [z, Rat.mul_one]; exact g12 hx
      obtain ⟨d1, d2, d3, d4⟩ := md_div (a := ch) (t := n1) (r := n2) (q := p.2 / left) e0 e1 hb.md (by omega) hch.1 f1.1 f2.1 n12 (hb.nm _ hch.1) f1.2.1 f2.2.1 ⟨r1, r2⟩ r3 r4 (fun j => by
        by_cases c : j < (SS0 b.made).es.length
        · rw [hrow j c, show left * base j * (p.2 / left) = (left * (p.2 / left)) * base j by grind, r5]; exact gz pg
        · rw [rwv_out hb.md hch.2 c, Rat.zero_mul]; exact G.zero _ _) (fun j => by
        by_cases c : j < (SS0 b.made).es.length
        · rw [hrow j c, show left * base j * (1 - p.2 / left) = (left * (1 - p.2 / left)) * base j by grind, r6]; exact gz sg
        · rw [rwv_out hb.md hch.2 c, Rat.zero_mul]; exact G.zero _ _)
      have eb : partGo b ch left (p :: q :: r) = partGo ⟨fr, b.made ++ [.div ch (p.2 / left) n1 n2], addP p.1 n1 b.pcs⟩ n2 (left - p.2) (q :: r) := by
        show partGo ⟨b.free.drop 2, b.made ++ [.div ch (p.2 / left) b.n1 b.n2], addP p.1 b.n1 b.pcs⟩ b.n2 (left - p.2) (q :: r) = _
        rw [en1, en2, hfr]; rfl
      have mm : madeOf (b.made ++ [.div ch (p.2 / left) n1 n2]) = madeOf b.made ++ [n1, n2] := made_snoc _ _
      have permE : ((leftOf b.made).erase ch).Perm (chs ++ b.pcs.flatMap (·.2)) := by
        have := hb.perm.erase ch
        rw [List.cons_append, List.erase_cons_head] at this
        exact this
      have hb1 : Bj E outs ⟨fr, b.made ++ [.div ch (p.2 / left) n1 n2], addP p.1 n1 b.pcs⟩ (n2 :: chs) := by
        refine ⟨d1, ?_, fnd.2.2, fun n hn => ?_, ?_, fun n hn => ?_, fun n hn => ?_⟩
        · show (leftOf (b.made ++ [.div ch (p.2 / left) n1 n2])).Perm _
          rw [d2]
          refine (permE.append_right [n1, n2]).trans ?_
          refine List.perm_append_comm.trans ?_
          show (n1 :: n2 :: (chs ++ b.pcs.flatMap (·.2))).Perm (n2 :: (chs ++ (addP p.1 n1 b.pcs).flatMap (·.2)))
          refine (List.Perm.swap _ _ _).trans (List.Perm.cons _ ?_)
          exact List.perm_middle.symm.trans ((addP_flat pk).symm.append_left chs)
        · have hn' := hb.fm n (by rw [hfr]; exact List.mem_cons_of_mem _ (List.mem_cons_of_mem _ hn))
          refine ⟨?_, hn'.2⟩
          show n ∉ madeOf (b.made ++ [.div ch (p.2 / left) n1 n2])
          rw [mm, List.mem_append]
          rintro (z | z)
          · exact hn'.1 z
          · simp only [List.mem_cons, List.not_mem_nil, or_false] at z
            rcases z with z | z
            · exact fnd.1 (by rw [← z]; exact List.mem_cons_of_mem _ hn)
            · exact fnd.2.1 (by rw [← z]; exact hn)
        · show (addP p.1 n1 b.pcs).map (·.1) = outs
          rw [addP_keys]; exact hb.keys
        · have hn2 : n ∈ leftOf (b.made ++ [.div ch (p.2 / left) n1 n2]) := hn
          rw [d2, List.mem_append] at hn2
          rcases hn2 with z | z
          · exact hb.nm n (List.mem_of_mem_erase z)
          · simp only [List.mem_cons, List.not_mem_nil, or_false] at z
            rcases z with z | z
            · rw [z]; exact f1.2.1
            · rw [z]; exact f2.2.1
        · have hn2 : n ∈ madeOf (b.made ++ [.div ch (p.2 / left) n1 n2]) := hn
          rw [mm, List.mem_append] at hn2
          rcases hn2 with z | z
          · exact hb.om n z
          · simp only [List.mem_cons, List.not_mem_nil, or_false] at z
            rcases z with z | z
            · rw [z]; exact f1.2.2
            · rw [z]; exact f2.2.2
      have es1 : (SS0 (b.made ++ [.div ch (p.2 / left) n1 n2])).es = (SS0 b.made).es := d3
      have old : ∀ n ∈ madeOf b.made, ∀ j, rwv (SS0 (b.made ++ [.div ch (p.2 / left) n1 n2])) j n = rwv (SS0 b.made) j n := fun n hn j => by
        rw [d4, if_neg fun z => f2.1 (by rw [← z]; exact hn), if_neg fun z => f1.1 (by rw [← z]; exact hn)]
      obtain ⟨i1, i2, i3, i4, i5, i6⟩ := ih ⟨fr, b.made ++ [.div ch (p.2 / left) n1 n2], addP p.1 n1 b.pcs⟩ n2 (left - p.2) base chs hb1 hbase (fun j hj => by
        have hj2 : j < (SS0 b.made).es.length := by rw [← es1]; exact hj
        show rwv (SS0 (b.made ++ [.div ch (p.2 / left) n1 n2])) j n2 = _
        rw [d4, if_pos rfl, hrow j hj2, show left * base j * (1 - p.2 / left) = (left * (1 - p.2 / left)) * base j by grind, r6]) (by simp) hs2 rest sg (by
        rw [hfr] at hfree
        simp only [List.length_cons] at hfree ⊢
        omega) (by
        show (b.made ++ [_]).length + (q :: r).length ≤ 3999
        rw [List.length_append]
        simp only [List.length_cons, List.length_nil] at hmade ⊢
        omega)
      rw [eb]
      refine ⟨i1, i2.trans es1, fun n hn => ?_, fun o ho nd j hj => ?_, ?_, ?_⟩
      · obtain ⟨k1, k2⟩ := i3 n (by
          show n ∈ madeOf (b.made ++ [_])
          rw [mm]; exact List.mem_append_left _ hn)
        exact ⟨k1, fun j => (k2 j).trans (old n hn j)⟩
      · rw [List.map_cons, List.nodup_cons] at nd
        rw [i4 o ho nd.2 j (by
          show j < (SS0 (b.made ++ [_])).es.length
          rw [es1]; exact hj)]
        have e2 : psum ⟨fr, b.made ++ [.div ch (p.2 / left) n1 n2], addP p.1 n1 b.pcs⟩ j o = psum b j o + (if o = p.1 then p.2 * base j else 0) := by
          show sumL (rwv (SS0 (b.made ++ [_])) j) ((getP (addP p.1 n1 b.pcs) o).getD []) = sumL (rwv (SS0 b.made) j) ((getP b.pcs o).getD []) + _
          rw [addP_get]
          have hm : ∀ n ∈ (getP b.pcs o).getD [], n ∈ madeOf b.made := fun n hn => (hb.made (List.mem_append_right _ (pcs_mem hn))).2
          by_cases c : o = p.1
          · rw [if_pos c, if_pos c, ← c]
            obtain ⟨l, hl⟩ := key_getP (by rw [← c] at pk; exact pk)
            rw [hl] at hm ⊢
            show sumL _ (l ++ [n1]) = sumL _ l + _
            rw [sumL_app, sumL_cons, sumL_congr (l := l) fun n hn => old n (hm n hn) j, d4, if_neg n12, if_pos rfl, hrow j hj, show left * base j * (p.2 / left) = (left * (p.2 / left)) * base j by grind, r5]
            show _ + (_ + 0) = _
            grind
          · rw [if_neg c, if_neg c, sumL_congr fun n hn => old n (hm n hn) j]; grind
        rw [e2, gS_cons p]
        by_cases c : o = p.1
        · rw [if_pos c, if_pos c.symm, gS_zero (s := q :: r) (by rw [c]; exact nd.1)]; grind
        · rw [if_neg c, if_neg fun z => c z.symm]; grind
      · rw [hfr]
        simp only [List.length_cons] at i5 ⊢
        omega
      · rw [i6]
        show (b.made ++ [_]).length + (q :: r).length = _
        rw [List.length_append]
        simp only [List.length_cons, List.length_nil]
        omega
end LN
namespace LN
open PySem PySem.Spec PyProof.Rows L2 SlX
def shAt (T : Tab) (j : Nat) : Shs := (T[j]?.map (·.2)).getD []
theorem shAt_lo {T U : Tab} {j : Nat} (h : j < T.length) : shAt (T ++ U) j = shAt T j := by
  unfold shAt
  rw [List.getElem?_append_left h]
theorem shAt_at (T U : Tab) (r : Option Rat × Shs) : shAt (T ++ r :: U) T.length = r.2 := by
  unfold shAt
  rw [List.getElem?_append_right (Nat.le_refl _), Nat.sub_self]; rfl
theorem shAt_hi {T : Tab} {j : Nat} (h : T.length ≤ j) : shAt T j = [] := by
  unfold shAt
  rw [List.getElem?_eq_none h]; rfl
theorem names_cons (r : Option Rat × Shs) (T : Tab) : (namesOf (r :: T)).length = r.2.length + (namesOf T).length := by
  unfold namesOf
  rw [List.flatMap_cons, List.length_append, List.length_map]
theorem last_app (bs : List Rat) (u d : Rat) : (bs ++ [u]).getLastD d = u := by
  rw [List.getLastD_eq_getLast?, List.getLast?_concat]; rfl
/-- what a row of the table brings -/
structure RowOk (E : Nat) (outs : List Str) (r : Option Rat × Shs) : Prop where
  ne : r.2 ≠ []
  sum : shSum r.2 = 1
  sh : ∀ p ∈ r.2, 0 < p.2 ∧ G (12 ^ 8) 1 p.2 ∧ p.1 ∈ outs
  nd : (r.2.map (·.1)).Nodup
  eg : ∀ e, r.1 = some e → G E (2 ^ 50) e
theorem base01 (k : Nat) : ∀ j : Nat, (if j = k then (1 : Rat) else 0) = 0 ∨ (if j = k then (1 : Rat) else 0) = 1 := fun j => by split <;> simp
theorem lay_go {E : Nat} {outs : List Str} (e0 : 0 < E) (e1 : E < 2 ^ 560) : ∀ (T2 T1 : Tab) (bs : List Rat) (b : Bs) (ch : Str), T1.map (·.1) = bs.map some → AscT (bs.getLastD 0) T2 → (∀ e ∈ bs, e ≤ bs.getLastD 0) → G E (2 ^ 50) (bs.getLastD 0) → (∀ r ∈ T2, RowOk E outs r) →
    Bj E outs b [ch] → (SS0 b.made).es = bs.map some ++ [none] → (∀ j, j ≤ bs.length → rwv (SS0 b.made) j ch = if j = bs.length then 1 else 0) → (∀ o ∈ outs, ∀ j, j ≤ bs.length → psum b j o = gS (shAt T1 j) o) →
    2 * (namesOf T2).length ≤ b.free.length → b.made.length + (namesOf T2).length ≤ 3900 → T1.length + T2.length ≤ 50 →
    Bj E outs (layGo b ch (bs.getLastD 0) T2) [] ∧ (SS0 (layGo b ch (bs.getLastD 0) T2).made).es = (T1 ++ T2).map (·.1) ∧ (∀ o ∈ outs, ∀ j, j < (T1 ++ T2).length → psum (layGo b ch (bs.getLastD 0) T2) j o = gS (shAt (T1 ++ T2) j) o) ∧
      b.free.length ≤ (layGo b ch (bs.getLastD 0) T2).free.length + 2 * (namesOf T2).length ∧ (layGo b ch (bs.getLastD 0) T2).made.length ≤ b.made.length + (namesOf T2).length
  | [], _, _, _, _, _, h, _, _, _, _, _, _, _, _, _, _ => h.elim
  | (none, s) :: T2, T1, bs, b, ch, hT1, hasc, hle, hg, hr, hb, hes, hrow, hps, hfree, hmade, hlen => by
    have e2 : T2 = [] := List.map_eq_nil_iff.mp (show T2.map (·.1) = [] from hasc)
    subst e2
    have r1 := hr _ List.mem_cons_self
    have hl1 : T1.length = bs.length := by
      have := congrArg List.length hT1
      simpa using this
    rw [names_cons] at hfree hmade
    have hes2 : (SS0 b.made).es.length = bs.length + 1 := by rw [hes]; simp
    obtain ⟨p1, p2, p3, p4, p5, p6⟩ := part_go (outs := outs) e0 e1 s b ch 1 (fun j => if j = bs.length then 1 else 0) [] hb (base01 _) (fun j hj => by
      rw [hrow j (by omega), Rat.one_mul]) r1.ne r1.sum r1.sh (g_one _) (by
      have h2 : 2 * (s.length + (namesOf []).length) ≤ b.free.length := hfree
      omega) (by
      have h2 : b.made.length + (s.length + (namesOf []).length) ≤ 3900 := hmade
      omega)
    show Bj E outs (partGo b ch 1 s) [] ∧ (SS0 (partGo b ch 1 s).made).es = _ ∧ (∀ o ∈ outs, ∀ j, j < (T1 ++ [(none, s)]).length → psum (partGo b ch 1 s) j o = _) ∧ b.free.length ≤ (partGo b ch 1 s).free.length + 2 * (namesOf [(none, s)]).length ∧ (partGo b ch 1 s).made.length ≤ b.made.length + (namesOf [(none, s)]).length
    refine ⟨p1, ?_, fun o ho j hj => ?_, ?_, ?_⟩
    · rw [p2, hes, List.map_append, hT1]; rfl
    · rw [List.length_append, List.length_singleton] at hj
      rw [p4 o ho r1.nd j (by omega), hps o ho j (by omega)]
      by_cases c : j = bs.length
      · rw [if_pos c, show j = T1.length by omega, shAt_at, shAt_hi (Nat.le_refl _), gS_nil]; grind
      · rw [if_neg c, shAt_lo (show j < T1.length by omega)]; grind
    · rw [names_cons]
      show _ ≤ _ + 2 * (s.length + _)
      omega
    · rw [names_cons]
      show _ ≤ _ + (s.length + _)
      omega
  | (some u, s) :: T2, T1, bs, b, ch, hT1, hasc, hle, hg, hr, hb, hes, hrow, hps, hfree, hmade, hlen => by
    have r1 := hr _ List.mem_cons_self
    have hlu : bs.getLastD 0 < u := hasc.1
    have hl1 : T1.length = bs.length := by
      have := congrArg List.length hT1
      simpa using this
    have hs1 : 1 ≤ s.length := List.length_pos_iff.mpr r1.ne
    rw [names_cons] at hfree hmade
    have hfree : 2 * (s.length + (namesOf T2).length) ≤ b.free.length := hfree
    have hmade : b.made.length + (s.length + (namesOf T2).length) ≤ 3900 := hmade
    have hlen : T1.length + (T2.length + 1) ≤ 50 := hlen
    have hes2 : (SS0 b.made).es.length = bs.length + 1 := by rw [hes]; simp
    obtain ⟨n1, n2, fr, hfr⟩ : ∃ n1 n2 fr, b.free = n1 :: n2 :: fr := by
      match h : b.free, (show 2 ≤ b.free.length by omega) with
      | n1 :: n2 :: fr, _ => exact ⟨n1, n2, fr, rfl⟩
    have en1 : b.n1 = n1 := by unfold Bs.n1; rw [hfr]; rfl
    have en2 : b.n2 = n2 := by unfold Bs.n2; rw [hfr]; rfl
    have f1 := hb.fm n1 (by rw [hfr]; exact List.mem_cons_self)
    have f2 := hb.fm n2 (by rw [hfr]; exact List.mem_cons_of_mem _ List.mem_cons_self)
    have fnd := hb.fnd
    rw [hfr, List.nodup_cons, List.nodup_cons] at fnd
    have n12 : n1 ≠ n2 := fun z => fnd.1 (by rw [z]; exact List.mem_cons_self)
    have hch := hb.made (n := ch) (List.mem_append_left _ List.mem_cons_self)
    obtain ⟨d1, d2, d3, d4⟩ := md_weir (a := ch) (t := n1) (r := n2) (u := u) (bs := bs) e0 e1 hb.md (by omega) hch.1 f1.1 f2.1 n12 (hb.nm _ hch.1) f1.2.1 f2.2.1 hes (by omega) (fun e he => by have := hle e he; grind) hlu (r1.eg u rfl) hg hrow
    have mm : madeOf (b.made ++ [.weir ch (u - bs.getLastD 0) n1 n2]) = madeOf b.made ++ [n1, n2] := made_snoc _ _
    have m1 : n1 ∈ madeOf (b.made ++ [.weir ch (u - bs.getLastD 0) n1 n2]) := by rw [mm]; simp
    have m2 : n2 ∈ madeOf (b.made ++ [.weir ch (u - bs.getLastD 0) n1 n2]) := by rw [mm]; simp
    have permE : ((leftOf b.made).erase ch).Perm (b.pcs.flatMap (·.2)) := by
      have := hb.perm.erase ch
      rw [List.cons_append, List.erase_cons_head] at this
      exact this
    have hb1 : Bj E outs ⟨fr, b.made ++ [.weir ch (u - bs.getLastD 0) n1 n2], b.pcs⟩ [n1, n2] := by
      refine ⟨d1, ?_, fnd.2.2, fun n hn => ?_, hb.keys, fun n hn => ?_, fun n hn => ?_⟩
      · show (leftOf (b.made ++ [.weir ch (u - bs.getLastD 0) n1 n2])).Perm _
        rw [d2]
        refine (permE.append_right [n1, n2]).trans ?_
        exact List.perm_append_comm
      · have hn' := hb.fm n (by rw [hfr]; exact List.mem_cons_of_mem _ (List.mem_cons_of_mem _ hn))
        refine ⟨?_, hn'.2⟩
        show n ∉ madeOf (b.made ++ [.weir ch (u - bs.getLastD 0) n1 n2])
        rw [mm, List.mem_append]
        rintro (z | z)
        · exact hn'.1 z
        · simp only [List.mem_cons, List.not_mem_nil, or_false] at z
          rcases z with z | z
          · exact fnd.1 (by rw [← z]; exact List.mem_cons_of_mem _ hn)
          · exact fnd.2.1 (by rw [← z]; exact hn)
      · have hn2 : n ∈ leftOf (b.made ++ [.weir ch (u - bs.getLastD 0) n1 n2]) := hn
        rw [d2, List.mem_append] at hn2
        rcases hn2 with z | z
        · exact hb.nm n (List.mem_of_mem_erase z)
        · simp only [List.mem_cons, List.not_mem_nil, or_false] at z
          rcases z with z | z
          · rw [z]; exact f1.2.1
          · rw [z]; exact f2.2.1
      · have hn2 : n ∈ madeOf (b.made ++ [.weir ch (u - bs.getLastD 0) n1 n2]) := hn
        rw [mm, List.mem_append] at hn2
        rcases hn2 with z | z
        · exact hb.om n z
        · simp only [List.mem_cons, List.not_mem_nil, or_false] at z
          rcases z with z | z
          · rw [z]; exact f1.2.2
          · rw [z]; exact f2.2.2
    have es1 : (SS0 (b.made ++ [.weir ch (u - bs.getLastD 0) n1 n2])).es.length = bs.length + 2 := by rw [d3]; simp
    obtain ⟨p1, p2, p3, p4, p5, p6⟩ := part_go (outs := outs) e0 e1 s ⟨fr, b.made ++ [.weir ch (u - bs.getLastD 0) n1 n2], b.pcs⟩ n1 1 (fun j => if j = bs.length then 1 else 0) [n2] hb1 (base01 _) (fun j hj => by
      have hj2 : j < (SS0 (b.made ++ [.weir ch (u - bs.getLastD 0) n1 n2])).es.length := hj
      show rwv (SS0 (b.made ++ [_])) j n1 = _
      rw [d4 j (by omega) n1 (.inr (.inl rfl)), if_neg n12, if_pos rfl, Rat.one_mul]) r1.ne r1.sum r1.sh (g_one _) (by
      show 2 * s.length ≤ fr.length + 2
      rw [hfr] at hfree
      simp only [List.length_cons] at hfree
      omega) (by
      show (b.made ++ [_]).length + s.length ≤ 3999
      rw [List.length_append, List.length_singleton]
      omega)
    have p6' : (partGo ⟨fr, b.made ++ [.weir ch (u - bs.getLastD 0) n1 n2], b.pcs⟩ n1 1 s).made.length + 1 = b.made.length + 1 + s.length := by
      rw [p6]
      show (b.made ++ [_]).length + s.length = _
      rw [List.length_append, List.length_singleton]
    have p5' : fr.length + 2 = (partGo ⟨fr, b.made ++ [.weir ch (u - bs.getLastD 0) n1 n2], b.pcs⟩ n1 1 s).free.length + 2 * s.length := p5
    have hfl : b.free.length = fr.length + 2 := by rw [hfr]; rfl
    have eb : layGo b ch (bs.getLastD 0) ((some u, s) :: T2) = layGo (partGo ⟨fr, b.made ++ [.weir ch (u - bs.getLastD 0) n1 n2], b.pcs⟩ n1 1 s) n2 ((bs ++ [u]).getLastD 0) T2 := by
      show layGo (partGo ⟨b.free.drop 2, b.made ++ [.weir ch (u - bs.getLastD 0) b.n1 b.n2], b.pcs⟩ b.n1 1 s) b.n2 u T2 = _
      rw [en1, en2, hfr, last_app]; rfl
    rw [eb]
    have bl : (bs ++ [u]).length = bs.length + 1 := by simp
    obtain ⟨i1, i2, i3, i4, i5⟩ := lay_go e0 e1 T2 (T1 ++ [(some u, s)]) (bs ++ [u]) (partGo ⟨fr, b.made ++ [.weir ch (u - bs.getLastD 0) n1 n2], b.pcs⟩ n1 1 s) n2 (by rw [List.map_append, List.map_append, hT1]; rfl) (by rw [last_app]; exact hasc.2) (fun e he => by
        rw [last_app]
        rcases List.mem_append.mp he with z | z
        · have := hle e z
          grind
        · rw [List.mem_singleton.mp z]; exact Rat.le_refl) (by rw [last_app]; exact r1.eg u rfl) (fun r hr2 => hr r (List.mem_cons_of_mem _ hr2)) p1 (p2.trans d3) (fun j hj => by
        rw [bl] at hj
        rw [(p3 n2 m2).2 j, bl]
        show rwv (SS0 (b.made ++ [_])) j n2 = _
        rw [d4 j hj n2 (.inr (.inr rfl)), if_pos rfl]) (fun o ho j hj => by
        rw [bl] at hj
        rw [p4 o ho r1.nd j (by
          show j < (SS0 (b.made ++ [_])).es.length
          omega)]
        have e5 : psum ⟨fr, b.made ++ [.weir ch (u - bs.getLastD 0) n1 n2], b.pcs⟩ j o = psum b (min j bs.length) o := by
          show sumL (rwv (SS0 (b.made ++ [_])) j) ((getP b.pcs o).getD []) = sumL (rwv (SS0 b.made) (min j bs.length)) ((getP b.pcs o).getD [])
          refine sumL_congr fun n hn => ?_
          have hm : n ∈ madeOf b.made := (hb.made (List.mem_append_right _ (pcs_mem hn))).2
          rw [d4 j hj n (.inl hm), if_neg fun z => f2.1 (by rw [← z]; exact hm), if_neg fun z => f1.1 (by rw [← z]; exact hm)]
        rw [e5, hps o ho _ (Nat.min_le_right _ _)]
        by_cases c : j < bs.length
        · rw [Nat.min_eq_left (by omega), shAt_lo (show j < T1.length by omega), if_neg (by omega)]; grind
        · rw [Nat.min_eq_right (by omega), shAt_hi (show T1.length ≤ bs.length by omega), gS_nil]
          by_cases d : j = bs.length
          · rw [if_pos d, show j = T1.length by omega, shAt_at]; grind
          · rw [if_neg d, shAt_hi (show (T1 ++ [(some u, s)]).length ≤ j by rw [List.length_append, List.length_singleton]; omega), gS_nil]; grind) (by omega) (by omega) (by
        rw [List.length_append, List.length_singleton]; omega)
    rw [List.append_assoc] at i2 i3
    refine ⟨i1, i2, i3, ?_, ?_⟩
    · rw [names_cons]
      show _ ≤ _ + 2 * (s.length + _)
      omega
    · rw [names_cons]
      show _ ≤ _ + (s.length + _)
      omega
end LN
namespace LN
open PySem PySem.Spec PyProof.Rows L2 SlX
/-! ### the builder's gathering -/
structure Gj (E : Nat) (outs fr : List Str) (md : List Part) (lf rest : List Str) : Prop where
  mdk : Md E md
  perm : (leftOf md).Perm lf
  fnd : fr.Nodup
  fm : ∀ n ∈ fr, n ∉ madeOf md ∧ NmS n ∧ n ∉ outs
  nm : ∀ n ∈ leftOf md, NmS n
  rm : ∀ n ∈ rest, n ∉ madeOf md ∧ n ∈ outs ∧ NmS n
theorem Gj.in_ {E : Nat} {outs fr lf rest : List Str} {md : List Part} (h : Gj E outs fr md lf rest) {n : Str} (hn : n ∈ lf) : n ∈ leftOf md ∧ n ∈ madeOf md := by
  have h1 := h.perm.mem_iff.mpr hn
  exact ⟨h1, (h.mdk.row h1).1⟩
theorem Gj.nodup {E : Nat} {outs fr lf rest : List Str} {md : List Part} (h : Gj E outs fr md lf rest) : lf.Nodup := h.perm.nodup_iff.mp (left_facts md h.mdk.val).1
theorem sumL_nn {E : Nat} {md : List Part} (h : Md E md) {l : List Str} (hl : ∀ n ∈ l, n ∈ madeOf md) (j : Nat) : 0 ≤ sumL (rwv (SS0 md) j) l := by
  induction l with
  | nil => exact Rat.le_refl
  | cons n l ih =>
    rw [sumL_cons]
    exact Rat.add_nonneg (rwv_G h (hl n List.mem_cons_self) j).1 (ih fun m hm => hl m (List.mem_cons_of_mem _ hm))
theorem g_sum {x y : Rat} (hx : G DD 1 x) (hy : G DD 1 y) (h : x + y ≤ 1) : G DD 1 (x + y) := (hx.add hy).le h
/-- one join -/
theorem gj_join {E : Nat} {outs fr others rest : List Str} {md : List Part} {a b t : Str} (e0 : 0 < E) (e1 : E < 2 ^ 560) (h : Gj E outs fr md (a :: b :: others) rest) (hl : md.length ≤ 3999) (ht : t ∉ madeOf md) (nt : NmS t) (hle : ∀ j, rwv (SS0 md) j a + rwv (SS0 md) j b ≤ 1)
    (fr' rest' : List Str) (hf : ∀ n ∈ fr', n ∈ fr ∧ n ≠ t) (hfn : fr'.Nodup) (hr : ∀ n ∈ rest', n ∈ rest ∧ n ≠ t) :
    Gj E outs fr' (md ++ [.join a b t]) (t :: others) rest' ∧ (SS0 (md ++ [.join a b t])).es = (SS0 md).es ∧ (∀ n ∈ madeOf md, n ∈ madeOf (md ++ [.join a b t]) ∧ ∀ j, rwv (SS0 (md ++ [.join a b t])) j n = rwv (SS0 md) j n) ∧ ∀ j, rwv (SS0 (md ++ [.join a b t])) j t = rwv (SS0 md) j a + rwv (SS0 md) j b := by
  have ha := h.in_ List.mem_cons_self
  have hb := h.in_ (List.mem_cons_of_mem _ List.mem_cons_self)
  have nd := h.nodup
  have hab : a ≠ b := by
    rw [List.nodup_cons] at nd
    exact fun z => nd.1 (by rw [z]; exact List.mem_cons_self)
  obtain ⟨d1, d2, d3, d4⟩ := md_join e0 e1 h.mdk hl ha.1 hb.1 hab ht (h.nm a ha.1) (h.nm b hb.1) nt fun j => g_sum (rwv_G h.mdk ha.2 j) (rwv_G h.mdk hb.2 j) (hle j)
  have mm : madeOf (md ++ [.join a b t]) = madeOf md ++ [t] := made_snoc _ _
  have pe : (((leftOf md).erase a).erase b).Perm others := by
    have := (h.perm.erase a).erase b
    rw [List.erase_cons_head, List.erase_cons_head] at this
    exact this
  refine ⟨⟨d1, ?_, hfn, fun n hn => ?_, fun n hn => ?_, fun n hn => ?_⟩, d3, fun n hn => ⟨by rw [mm]; exact List.mem_append_left _ hn, fun j => ?_⟩, fun j => ?_⟩
  · rw [d2]
    exact (pe.append_right [t]).trans List.perm_append_comm
  · obtain ⟨k1, k2⟩ := hf n hn
    have := h.fm n k1
    refine ⟨?_, this.2⟩
    rw [mm, List.mem_append, List.mem_singleton]
    exact fun z => z.elim this.1 k2
  · rw [d2, List.mem_append, List.mem_singleton] at hn
    rcases hn with z | z
    · exact h.nm n (List.mem_of_mem_erase (List.mem_of_mem_erase z))
    · rw [z]; exact nt
  · obtain ⟨k1, k2⟩ := hr n hn
    have := h.rm n k1
    refine ⟨?_, this.2⟩
    rw [mm, List.mem_append, List.mem_singleton]
    exact fun z => z.elim this.1 k2
  · rw [d4, if_neg fun z => ht (by rw [← z]; exact hn)]
  · rw [d4, if_pos rfl]
theorem join_go {E : Nat} {outs : List Str} {o : Str} (e0 : 0 < E) (e1 : E < 2 ^ 560) : ∀ (r : List Str) (a b : Str) (fr : List Str) (md : List Part) (others rest : List Str), Gj E outs fr md (a :: b :: (r ++ others)) (o :: rest) → (o :: rest).Nodup → r.length ≤ fr.length → md.length + r.length ≤ 3999 →
    (∀ j, rwv (SS0 md) j a + rwv (SS0 md) j b + sumL (rwv (SS0 md) j) r ≤ 1) →
    Gj E outs (joinGo o fr md a b r).1 (joinGo o fr md a b r).2 (o :: others) rest ∧ (SS0 (joinGo o fr md a b r).2).es = (SS0 md).es ∧ (∀ n ∈ madeOf md, n ∈ madeOf (joinGo o fr md a b r).2 ∧ ∀ j, rwv (SS0 (joinGo o fr md a b r).2) j n = rwv (SS0 md) j n) ∧
      (∀ j, rwv (SS0 (joinGo o fr md a b r).2) j o = rwv (SS0 md) j a + rwv (SS0 md) j b + sumL (rwv (SS0 md) j) r) ∧ fr.length = (joinGo o fr md a b r).1.length + r.length ∧ (joinGo o fr md a b r).2.length = md.length + r.length + 1
  | [], a, b, fr, md, others, rest, h, hn, hf, hm, hle => by
    have ho := h.rm o List.mem_cons_self
    rw [List.nodup_cons] at hn
    obtain ⟨g1, g2, g3, g4⟩ := gj_join (t := o) e0 e1 h (by
      have h2 : md.length + 0 ≤ 3999 := hm
      omega) ho.1 ho.2.2 (fun j => by have : _ + _ + 0 ≤ (1 : Rat) := hle j; grind) fr rest (fun n hn2 => ⟨hn2, fun z => (h.fm n hn2).2.2 (by rw [z]; exact ho.2.1)⟩) h.fnd (fun n hn2 => ⟨List.mem_cons_of_mem _ hn2, fun z => hn.1 (by rw [← z]; exact hn2)⟩)
    refine ⟨g1, g2, g3, fun j => ?_, rfl, ?_⟩
    · show rwv (SS0 (md ++ [.join a b o])) j o = _
      rw [g4 j]
      show _ = _ + _ + (0 : Rat)
      grind
    · show (md ++ [_]).length = _
      rw [List.length_append]; rfl
  | c :: r, a, b, fr, md, others, rest, h, hn, hf, hm, hle => by
    obtain ⟨f, fr', hfr⟩ : ∃ f fr', fr = f :: fr' := by
      match fr, (show 1 ≤ fr.length by simp only [List.length_cons] at hf; omega) with
      | f :: fr', _ => exact ⟨f, fr', rfl⟩
    subst hfr
    have hf1 := h.fm f List.mem_cons_self
    have fnd := h.fnd
    rw [List.nodup_cons] at fnd
    have hm2 : md.length + (r.length + 1) ≤ 3999 := hm
    have inm : ∀ n ∈ (c :: r), n ∈ madeOf md := fun n hn => (h.in_ (List.mem_cons_of_mem _ (List.mem_cons_of_mem _ (List.mem_append_left _ hn)))).2
    have nn := fun j => sumL_nn h.mdk inm j
    obtain ⟨g1, g2, g3, g4⟩ := gj_join (t := f) e0 e1 h (by omega) hf1.1 hf1.2.1 (fun j => by have := hle j; have := nn j; grind) fr' (o :: rest) (fun n hn2 => ⟨List.mem_cons_of_mem _ hn2, fun z => fnd.1 (by rw [← z]; exact hn2)⟩) fnd.2 (fun n hn2 => ⟨hn2, fun z => hf1.2.2 (by rw [← z]; exact (h.rm n hn2).2.1)⟩)
    have old : ∀ j, sumL (rwv (SS0 (md ++ [.join a b f])) j) (c :: r) = sumL (rwv (SS0 md) j) (c :: r) := fun j => sumL_congr fun n hn => (g3 n (inm n hn)).2 j
    have tot : ∀ j, rwv (SS0 (md ++ [.join a b f])) j f + rwv (SS0 (md ++ [.join a b f])) j c + sumL (rwv (SS0 (md ++ [.join a b f])) j) r = rwv (SS0 md) j a + rwv (SS0 md) j b + sumL (rwv (SS0 md) j) (c :: r) := fun j => by
      have := old j
      rw [sumL_cons] at this
      rw [g4 j]; grind
    obtain ⟨i1, i2, i3, i4, i5, i6⟩ := join_go e0 e1 r f c fr' (md ++ [.join a b f]) others rest g1 hn (by simp only [List.length_cons] at hf; omega) (by rw [List.length_append, List.length_singleton]; omega) (fun j => by rw [tot j]; exact hle j)
    refine ⟨i1, i2.trans g2, fun n hn => ⟨(i3 n (g3 n hn).1).1, fun j => ((i3 n (g3 n hn).1).2 j).trans ((g3 n hn).2 j)⟩, fun j => (i4 j).trans (tot j), ?_, ?_⟩
    · show fr'.length + 1 = (joinGo o fr' (md ++ [.join a b f]) f c r).1.length + (r.length + 1)
      omega
    · show (joinGo o fr' (md ++ [.join a b f]) f c r).2.length = md.length + (r.length + 1) + 1
      rw [i6, List.length_append, List.length_singleton]; omega
theorem half_facts : (0 : Rat) ≤ 1/2 ∧ (1/2 : Rat) ≤ 1 ∧ TxtOk (1/2) ∧ Fit (1 - 1/2) ∧ ∀ {v : Rat}, True := by
  have e : (1/2 : Rat) = mkRat 1 2 := by decide +kernel
  refine ⟨by decide +kernel, by decide +kernel, ⟨by decide +kernel, ?_, ?_⟩, ⟨by decide +kernel, ?_, ?_⟩, fun {_} => trivial⟩ <;> decide +kernel
theorem gath_m {E : Nat} {outs : List Str} {o : Str} (e0 : 0 < E) (e1 : E < 2 ^ 560) (row fr : List Str) (md : List Part) (others rest : List Str) (h : Gj E outs fr md (row ++ others) (o :: rest)) (hn : (o :: rest).Nodup) (hne : row ≠ []) (hf : row.length + 1 ≤ fr.length) (hm : md.length + row.length ≤ 3990)
    (hg : ∀ j, G (12 ^ 8) 1 (sumL (rwv (SS0 md) j) row)) :
    Gj E outs (gathM o fr md row).1 (gathM o fr md row).2 (o :: others) rest ∧ (SS0 (gathM o fr md row).2).es = (SS0 md).es ∧ (∀ n ∈ madeOf md, n ∈ madeOf (gathM o fr md row).2 ∧ ∀ j, rwv (SS0 (gathM o fr md row).2) j n = rwv (SS0 md) j n) ∧
      (∀ j, rwv (SS0 (gathM o fr md row).2) j o = sumL (rwv (SS0 md) j) row) ∧ fr.length ≤ (gathM o fr md row).1.length + row.length + 1 ∧ (gathM o fr md row).2.length ≤ md.length + row.length + 1 := by
  have hle : ∀ j, sumL (rwv (SS0 md) j) row ≤ 1 := fun j => (hg j).2.1
  match row, hne, h, hf, hm, hle, hg with
  | [x], _, h, hf, hm, hle, hg =>
    obtain ⟨f, g, fr', hfr⟩ : ∃ f g fr', fr = f :: g :: fr' := by
      match fr, hf with
      | f :: g :: fr', _ => exact ⟨f, g, fr', rfl⟩
    subst hfr
    have hf1 := h.fm f List.mem_cons_self
    have hf2 := h.fm g (List.mem_cons_of_mem _ List.mem_cons_self)
    have fnd := h.fnd
    rw [List.nodup_cons, List.nodup_cons] at fnd
    have fg : f ≠ g := fun z => fnd.1 (by rw [z]; exact List.mem_cons_self)
    have hx := h.in_ (n := x) List.mem_cons_self
    have hm2 : md.length + 1 ≤ 3990 := hm
    obtain ⟨q0, q1, q2, q3, _⟩ := half_facts
    have gh : ∀ j, G DD 1 (rwv (SS0 md) j x * (1/2)) := fun j => by
      have g := hg j
      rw [sumL_cons, show sumL (rwv (SS0 md) j) [] = 0 from rfl, Rat.add_zero] at g
      have g2 : G 2 1 (1/2) := ⟨q0, q1, 1, by decide +kernel⟩
      have := g.mul g2
      exact this.dvd ⟨1, by decide⟩
    obtain ⟨d1, d2, d3, d4⟩ := md_div (a := x) (t := f) (r := g) (q := 1/2) e0 e1 h.mdk (by omega) hx.1 hf1.1 hf2.1 fg (h.nm x hx.1) hf1.2.1 hf2.2.1 ⟨q0, q1⟩ q2 q3 gh (fun j => by
      rw [show (1 - 1/2 : Rat) = 1/2 by decide +kernel]; exact gh j)
    have mm : madeOf (md ++ [.div x (1/2) f g]) = madeOf md ++ [f, g] := made_snoc _ _
    have pe : ((leftOf md).erase x).Perm others := by
      have := h.perm.erase x
      rw [List.cons_append, List.erase_cons_head] at this
      exact this
    have old : ∀ n ∈ madeOf md, ∀ j, rwv (SS0 (md ++ [.div x (1/2) f g])) j n = rwv (SS0 md) j n := fun n hn j => by
      rw [d4, if_neg fun z => hf2.1 (by rw [← z]; exact hn), if_neg fun z => hf1.1 (by rw [← z]; exact hn)]
    have both : ∀ j, rwv (SS0 (md ++ [.div x (1/2) f g])) j f + rwv (SS0 (md ++ [.div x (1/2) f g])) j g + sumL (rwv (SS0 (md ++ [.div x (1/2) f g])) j) [] = sumL (rwv (SS0 md) j) [x] := fun j => by
      rw [d4, if_neg fg, if_pos rfl, d4, if_pos rfl]
      show _ + _ + (0 : Rat) = _ + (0 : Rat)
      grind
    have h1 : Gj E outs fr' (md ++ [.div x (1/2) f g]) (f :: g :: ([] ++ others)) (o :: rest) := by
      refine ⟨d1, ?_, fnd.2.2, fun n hn2 => ?_, fun n hn2 => ?_, fun n hn2 => ?_⟩
      · rw [d2]
        exact (pe.append_right [f, g]).trans List.perm_append_comm
      · have hn' := h.fm n (List.mem_cons_of_mem _ (List.mem_cons_of_mem _ hn2))
        refine ⟨?_, hn'.2⟩
        rw [mm, List.mem_append]
        rintro (z | z)
        · exact hn'.1 z
        · simp only [List.mem_cons, List.not_mem_nil, or_false] at z
          rcases z with z | z
          · exact fnd.1 (by rw [← z]; exact List.mem_cons_of_mem _ hn2)
          · exact fnd.2.1 (by rw [← z]; exact hn2)
      · rw [d2, List.mem_append] at hn2
        rcases hn2 with z | z
        · exact h.nm n (List.mem_of_mem_erase z)
        · simp only [List.mem_cons, List.not_mem_nil, or_false] at z
          rcases z with z | z
          · rw [z]; exact hf1.2.1
          · rw [z]; exact hf2.2.1
      · have hn' := h.rm n hn2
        refine ⟨?_, hn'.2⟩
        rw [mm, List.mem_append]
        rintro (z | z)
        · exact hn'.1 z
        · simp only [List.mem_cons, List.not_mem_nil, or_false] at z
          rcases z with z | z
          · exact hf1.2.2 (by rw [← z]; exact hn'.2.1)
          · exact hf2.2.2 (by rw [← z]; exact hn'.2.1)
    obtain ⟨i1, i2, i3, i4, i5, i6⟩ := join_go (o := o) e0 e1 [] f g fr' (md ++ [.div x (1/2) f g]) others rest h1 hn (by simp) (by rw [List.length_append]; simp only [List.length_singleton, List.length_nil]; omega) (fun j => by rw [both j]; exact hle j)
    refine ⟨i1, i2.trans d3, fun n hn2 => ?_, fun j => (i4 j).trans (both j), ?_, ?_⟩
    · obtain ⟨k1, k2⟩ := i3 n (by rw [mm]; exact List.mem_append_left _ hn2)
      exact ⟨k1, fun j => (k2 j).trans (old n hn2 j)⟩
    · show fr'.length + 2 ≤ (joinGo o fr' (md ++ [.div x (1/2) f g]) f g []).1.length + 1 + 1
      have i5' : fr'.length = (joinGo o fr' (md ++ [.div x (1/2) f g]) f g []).1.length + 0 := i5
      omega
    · show (joinGo o fr' (md ++ [.div x (1/2) f g]) f g []).2.length ≤ md.length + 1 + 1
      rw [i6, List.length_append]
      simp only [List.length_singleton, List.length_nil]
      omega
  | x :: y :: r, _, h, hf, hm, hle, hg =>
    have e : ∀ j, rwv (SS0 md) j x + rwv (SS0 md) j y + sumL (rwv (SS0 md) j) r = sumL (rwv (SS0 md) j) (x :: y :: r) := fun j => by
      rw [sumL_cons, sumL_cons]; grind
    simp only [List.length_cons] at hf hm
    obtain ⟨i1, i2, i3, i4, i5, i6⟩ := join_go (o := o) e0 e1 r x y fr md others rest h hn (by omega) (by omega) (fun j => by rw [e j]; exact hle j)
    refine ⟨i1, i2, i3, fun j => (i4 j).trans (e j), ?_, ?_⟩
    · show fr.length ≤ (joinGo o fr md x y r).1.length + (r.length + 2) + 1
      omega
    · show (joinGo o fr md x y r).2.length ≤ md.length + (r.length + 2) + 1
      omega
theorem gat_all {E : Nat} {outs : List Str} (e0 : 0 < E) (e1 : E < 2 ^ 560) : ∀ (pcs : List (Str × List Str)) (fr : List Str) (md : List Part) (others : List Str), Gj E outs fr md (pcs.flatMap (·.2) ++ others) (pcs.map (·.1)) → (pcs.map (·.1)).Nodup →
    (∀ p ∈ pcs, p.2 ≠ [] ∧ ∀ j, G (12 ^ 8) 1 (sumL (rwv (SS0 md) j) p.2)) → (pcs.flatMap (·.2)).length + pcs.length ≤ fr.length → md.length + (pcs.flatMap (·.2)).length + pcs.length ≤ 3900 →
    GatOk fr md pcs ∧ Gj E outs (gatAll fr md pcs).1 (gatAll fr md pcs).2 (pcs.map (·.1) ++ others) [] ∧ (SS0 (gatAll fr md pcs).2).es = (SS0 md).es ∧ (∀ n ∈ madeOf md, n ∈ madeOf (gatAll fr md pcs).2 ∧ ∀ j, rwv (SS0 (gatAll fr md pcs).2) j n = rwv (SS0 md) j n) ∧
      (∀ p ∈ pcs, ∀ j, rwv (SS0 (gatAll fr md pcs).2) j p.1 = sumL (rwv (SS0 md) j) p.2) ∧ (gatAll fr md pcs).2.length ≤ md.length + (pcs.flatMap (·.2)).length + pcs.length
  | [], fr, md, others, h, _, _, _, _ => ⟨trivial, h, rfl, fun n hn => ⟨hn, fun _ => rfl⟩, fun p hp => by simp at hp, by
    show md.length ≤ _
    omega⟩
  | (o, row) :: r, fr, md, others, h, hn, hp, hf, hm => by
    obtain ⟨p1, p2⟩ := hp _ List.mem_cons_self
    rw [List.flatMap_cons, List.length_append, List.length_cons] at hf hm
    have hf : row.length + (r.flatMap (·.2)).length + (r.length + 1) ≤ fr.length := hf
    have hm : md.length + (row.length + (r.flatMap (·.2)).length) + (r.length + 1) ≤ 3900 := hm
    have h0 : Gj E outs fr md (row ++ (r.flatMap (·.2) ++ others)) (o :: r.map (·.1)) := by
      have := h
      rw [List.flatMap_cons, List.append_assoc] at this
      exact this
    have hn0 : (o :: r.map (·.1)).Nodup := hn
    obtain ⟨g1, g2, g3, g4, g5, g6⟩ := gath_m e0 e1 row fr md _ _ h0 hn0 p1 (by omega) (by omega) p2
    have h1 : Gj E outs (gathM o fr md row).1 (gathM o fr md row).2 (r.flatMap (·.2) ++ (o :: others)) (r.map (·.1)) := ⟨g1.mdk, g1.perm.trans List.perm_middle.symm, g1.fnd, g1.fm, g1.nm, g1.rm⟩
    have inm : ∀ p ∈ r, ∀ n ∈ p.2, n ∈ madeOf md := fun p hp n hn => (h0.in_ (List.mem_append_right _ (List.mem_append_left _ (List.mem_flatMap.mpr ⟨p, hp, hn⟩)))).2
    have old : ∀ p ∈ r, ∀ j, sumL (rwv (SS0 (gathM o fr md row).2) j) p.2 = sumL (rwv (SS0 md) j) p.2 := fun p hp j => sumL_congr fun n hn => (g3 n (inm p hp n hn)).2 j
    rw [List.nodup_cons] at hn0
    obtain ⟨i0, i1, i2, i3, i4, i5⟩ := gat_all e0 e1 r (gathM o fr md row).1 (gathM o fr md row).2 (o :: others) h1 hn0.2 (fun p hp2 => by
      obtain ⟨q1, q2⟩ := hp p (List.mem_cons_of_mem _ hp2)
      exact ⟨q1, fun j => by rw [old p hp2 j]; exact q2 j⟩) (by omega) (by omega)
    refine ⟨⟨p1, by omega, by omega, i0⟩, ⟨i1.mdk, i1.perm.trans List.perm_middle, i1.fnd, i1.fm, i1.nm, i1.rm⟩, i2.trans g2, fun n hn2 => ⟨(i3 n (g3 n hn2).1).1, fun j => ((i3 n (g3 n hn2).1).2 j).trans ((g3 n hn2).2 j)⟩, fun p hp2 j => ?_, ?_⟩
    · rcases List.mem_cons.mp hp2 with z | z
      · rw [z]
        have ho : o ∈ madeOf (gathM o fr md row).2 := (g1.in_ List.mem_cons_self).2
        exact ((i3 o ho).2 j).trans (g4 j)
      · exact (i4 p z j).trans (old p z j)
    · rw [List.flatMap_cons, List.length_append, List.length_cons]
      show (gatAll (gathM o fr md row).1 (gathM o fr md row).2 r).2.length ≤ md.length + (row.length + (r.flatMap (·.2)).length) + (r.length + 1)
      omega
end LN
namespace LN
open PySem PySem.Spec PyProof.Rows L2 SlX
set_option maxRecDepth 1000000
def keyN (n : Str) : Nat := n.cps.toList.foldl (fun a c => a * 1000 + c) 0
def riseN : Nat → List Nat → Bool
  | _, [] => true
  | p, x :: r => decide (p < x) && riseN x r
theorem riseN_pw : ∀ (l : List Nat) (p : Nat), riseN p l = true → (p :: l).Pairwise (· < ·)
  | [], p, _ => List.pairwise_singleton _ _
  | x :: r, p, h => by
    unfold riseN at h
    obtain ⟨h1, h2⟩ := Bool.and_eq_true_iff.mp h
    have h1 := of_decide_eq_true h1
    have ih := riseN_pw r x h2
    refine List.pairwise_cons.mpr ⟨fun z hz => ?_, ih⟩
    rcases List.mem_cons.mp hz with e | e
    · rw [e]; exact h1
    · exact Nat.lt_trans h1 ((List.pairwise_cons.mp ih).1 z e)
theorem all_rise : riseN 0 (allNames.map keyN) = true := by decide +kernel
theorem all_nd : allNames.Nodup := by
  have h := (List.pairwise_cons.mp (riseN_pw _ _ all_rise)).2
  rw [List.pairwise_map] at h
  exact h.imp fun h e => by rw [e] at h; exact Nat.lt_irrefl _ h
theorem all_nm : ∀ n ∈ allNames, NmS n := by decide +kernel
theorem filter_cut : ∀ (A L : List Str), L.Nodup → L.length ≤ (L.filter fun n => decide (n ∉ A)).length + A.length
  | [], L, _ => by
    rw [List.filter_eq_self.mpr (by simp)]; simp
  | a :: A, L, h => by
    have e : (L.filter fun n => decide (n ∉ a :: A)) = (L.erase a).filter fun n => decide (n ∉ A) := by
      rw [h.erase_eq_filter, List.filter_filter]
      refine List.filter_congr fun n _ => ?_
      by_cases c : n = a
      · subst c; simp
      · simp [c]
    have h1 := filter_cut A (L.erase a) (h.erase a)
    have h2 : L.length ≤ (L.erase a).length + 1 := by
      by_cases c : a ∈ L
      · rw [List.length_erase_of_mem c]; omega
      · rw [List.erase_of_not_mem c]; omega
    rw [e, List.length_cons]
    omega
theorem free_len (tk : List Str) : 675 ≤ (freeOf tk).length + tk.length := by
  have h := filter_cut (("in" : Str) :: tk) allNames all_nd
  have e : freeOf tk = allNames.filter fun n => decide (n ∉ ("in" : Str) :: tk) := by
    unfold freeOf
    refine List.filter_congr fun n _ => ?_
    by_cases c : n = "in"
    · simp [c]
    · by_cases d : n ∈ tk <;> simp [c, d]
  rw [all_len, List.length_cons, ← e] at h
  omega
theorem free_facts (tk : List Str) : (freeOf tk).Nodup ∧ ∀ n ∈ freeOf tk, NmS n ∧ n ∉ tk ∧ n ≠ "in" := by
  refine ⟨all_nd.filter _, fun n hn => ?_⟩
  obtain ⟨h1, h2⟩ := List.mem_filter.mp hn
  obtain ⟨h3, h4⟩ := Bool.and_eq_true_iff.mp h2
  exact ⟨all_nm n h1, of_decide_eq_true h3, of_decide_eq_true h4⟩
/-! ### the net built from a table -/
theorem pg_of : ∀ {s : Shs} {l : Rat}, s ≠ [] → shSum s = l → (∀ p ∈ s, 0 < p.2 ∧ G (12 ^ 8) 1 p.2) → G (12 ^ 8) 1 l → PgOk l s
  | [], _, h, _, _, _ => absurd rfl h
  | [p], _, _, _, _, _ => trivial
  | p :: q :: r, l, _, hs, hp, hl => by
    have h1 := hp p List.mem_cons_self
    have h2 := hp q (List.mem_cons_of_mem _ List.mem_cons_self)
    have rest := fun x (hx : x ∈ q :: r) => hp x (List.mem_cons_of_mem _ hx)
    have hs2 : shSum (q :: r) = l - p.2 := by
      rw [← hs, shSum_cons p]; grind
    have := sum_ge (fun x hx => Rat.le_of_lt (rest x hx).1) q List.mem_cons_self
    have hle : p.2 ≤ l := by grind
    exact ⟨fit12 h1.2, fit12 hl, by grind, hle, pg_of (by simp) hs2 rest (hl.sub h1.2 hle)⟩
theorem lg_of {E : Nat} {outs : List Str} (e0 : 0 < E) (e1 : E < 2 ^ 560) : ∀ {T : Tab} {b : Rat}, AscT b T → G E (2 ^ 50) b → (∀ r ∈ T, RowOk E outs r) → LgOk b T
  | [], _, h, _, _ => h.elim
  | (none, s) :: T, b, h, hb, hr => by
    have e2 : T = [] := List.map_eq_nil_iff.mp (show T.map (·.1) = [] from h)
    subst e2
    have r1 := hr _ List.mem_cons_self
    exact ⟨pg_of r1.ne r1.sum (fun p hp => ⟨(r1.sh p hp).1, (r1.sh p hp).2.1⟩) (g_one _), (fun e z => nomatch z), trivial⟩
  | (some u, s) :: T, b, h, hb, hr => by
    have r1 := hr _ List.mem_cons_self
    have fE : ∀ {q : Rat}, G E (2 ^ 50) q → Fit q := fun g => g.fit e0 (plt e1 (by omega)) (plt (i := 60) (by decide) (by omega))
    refine ⟨pg_of r1.ne r1.sum (fun p hp => ⟨(r1.sh p hp).1, (r1.sh p hp).2.1⟩) (g_one _), fun e z => ?_, ?_⟩
    · injection z with z
      subst z
      exact ⟨fE (r1.eg u rfl), fE hb, Rat.le_of_lt h.1⟩
    · exact lg_of e0 e1 h.2 (r1.eg u rfl) fun r hr2 => hr r (List.mem_cons_of_mem _ hr2)
theorem made_nodup : ∀ ps : List Part, Valid ps → (madeOf ps).Nodup := by
  refine snoc_ind (fun _ => by simp [madeOf]) ?_
  intro ps p ih hv
  obtain ⟨v1, v2⟩ := valid_snoc hv
  rw [made_snoc, List.nodup_append]
  exact ⟨ih v1, v2.no, fun a ha b hb e => v2.om b hb (by rw [← e]; exact ha)⟩
theorem names_le : ∀ {T : Tab} {n m : Nat}, T.length ≤ n → (∀ r ∈ T, r.2.length ≤ m) → (namesOf T).length ≤ n * m
  | [], n, m, _, _ => by simp [namesOf]
  | r :: T, n, m, h, hr => by
    rw [names_cons]
    have h1 := hr r List.mem_cons_self
    obtain ⟨k, rfl⟩ : ∃ k, n = k + 1 := ⟨n - 1, by simp only [List.length_cons] at h; omega⟩
    have h2 := names_le (T := T) (n := k) (m := m) (by simpa using h) fun x hx => hr x (List.mem_cons_of_mem _ hx)
    rw [Nat.succ_mul]; omega
theorem gS_mem {s : Shs} {o : Str} : gS s o = 0 ∨ ∃ p ∈ s, p.1 = o ∧ gS s o = p.2 := by
  induction s with
  | nil => exact .inl rfl
  | cons p s ih =>
    rw [gS_cons]
    by_cases c : p.1 = o
    · rw [if_pos c]; exact .inr ⟨p, List.mem_cons_self, c, rfl⟩
    · rw [if_neg c]
      rcases ih with z | ⟨q, hq, z⟩
      · exact .inl z
      · exact .inr ⟨q, List.mem_cons_of_mem _ hq, z⟩
theorem gS_key {s : Shs} {o : Str} (h : ∀ p ∈ s, 0 < p.2) (ho : o ∈ s.map (·.1)) : 0 < gS s o := by
  induction s with
  | nil => simp at ho
  | cons p s ih =>
    rw [gS_cons]
    by_cases c : p.1 = o
    · rw [if_pos c]; exact h p List.mem_cons_self
    · rw [if_neg c]
      rw [List.map_cons] at ho
      exact ih (fun q hq => h q (List.mem_cons_of_mem _ hq)) ((List.mem_cons.mp ho).resolve_left fun z => c z.symm)
theorem range_map_eq {α : Type} {f : Nat → α} {T : List α} (h : ∀ (j : Nat) (hj : j < T.length), f j = T[j]) : (List.range T.length).map f = T := by
  apply List.ext_getElem
  · rw [List.length_map, List.length_range]
  · intro j h1 h2
    rw [List.getElem_map, List.getElem_range]
    exact h j h2
theorem built_ok {T : Tab} (h : Bt T) (hin : ("in" : Str) ∉ outsT T) : BldOk T ∧ TabNet (builtM T) ∧ tableM (builtM T) = T := by
  obtain ⟨E, e0, e1, he⟩ := h.gr
  have ond : (outsT T).Nodup := setS_nodup _
  have omem : ∀ n, n ∈ outsT T ↔ n ∈ namesOf T := fun n => setS_mem _ n
  have onm : ∀ n ∈ outsT T, NmS n := fun n hn => by
    obtain ⟨r, hr, hn2⟩ := List.mem_flatMap.mp ((omem n).mp hn)
    obtain ⟨p, hp, e⟩ := List.mem_map.mp hn2
    have := h.nm r hr p hp
    rw [e] at this
    exact this
  have nl : (namesOf T).length ≤ 49 := names_le h.tl h.rl
  have ol : (outsT T).length ≤ 49 := by
    unfold outsT setS
    rw [(isortS_perm _).length_eq]
    have h1 := gather_len (namesOf T) []
    simp only [List.length_nil] at h1
    omega
  have fl := free_len (outsT T)
  obtain ⟨fnd, ffm⟩ := free_facts (outsT T)
  have hno : outsT T ≠ [("in" : Str)] := fun z => hin (by rw [z]; exact List.mem_cons_self)
  have rok : ∀ r ∈ T, RowOk E (outsT T) r := fun r hr => by
    refine ⟨fun z => ?_, h.sum r hr, fun p hp => ⟨h.pos r hr p hp, h.sg r hr p hp, ?_⟩, ?_, fun e z => ?_⟩
    · have := h.sum r hr
      rw [z] at this
      exact absurd this (by decide)
    · exact (omem _).mpr (List.mem_flatMap.mpr ⟨r, hr, List.mem_map.mpr ⟨p, hp, rfl⟩⟩)
    · exact (h.can.sh r hr).1.imp fun {a b} hab e => by rw [e, ltS_irr] at hab; cases hab
    · exact he e (List.mem_map.mpr ⟨r, hr, z⟩)
  have hasc : AscT 0 T := h.can.asc
  -- the start
  have md0 : Md E [] := by
    refine ⟨valid_nil, by simp, by simp, by simp, gd0.wf (by omega), ?_, by decide, ?_, by decide⟩
    · intro p hp v hv
      have e : p = (("in" : Str), [(1 : Rat)]) := List.mem_singleton.mp hp
      rw [e] at hv
      rw [List.mem_singleton.mp hv]
      exact g_one _
    · intro e z
      have : some e ∈ [(none : Option Rat)] := z
      simp at this
  have inS : NmS "in" := ⟨by decide +kernel, by decide⟩
  have flat0 : ∀ l : List Str, (l.map fun o => (o, ([] : List Str))).flatMap (·.2) = [] := fun l => by
    induction l with
    | nil => rfl
    | cons a l ih => rw [List.map_cons, List.flatMap_cons, ih]; rfl
  have hb0 : Bj E (outsT T) (b0M T) ["in"] := by
    refine ⟨md0, ?_, fnd, fun n hn => ?_, ?_, fun n hn => ?_, fun n hn => ?_⟩
    · show [("in" : Str)].Perm ([("in" : Str)] ++ ((outsT T).map fun o => (o, ([] : List Str))).flatMap (·.2))
      rw [flat0]
      exact .refl _
    · obtain ⟨f1, f2, f3⟩ := ffm n hn
      refine ⟨fun z => f3 (List.mem_singleton.mp z), f1, f2⟩
    · show ((outsT T).map fun o => (o, ([] : List Str))).map (·.1) = outsT T
      rw [List.map_map]
      exact List.map_id _
    · have : n ∈ [("in" : Str)] := hn
      rw [List.mem_singleton.mp this]; exact inS
    · have : n ∈ [("in" : Str)] := hn
      rw [List.mem_singleton.mp this]; exact hin
  have get0 : ∀ o, (getP ((outsT T).map fun o => (o, ([] : List Str))) o).getD [] = [] := fun o => by
    cases e : getP ((outsT T).map fun o => (o, ([] : List Str))) o with
    | none => rfl
    | some c =>
      obtain ⟨x, _, e2⟩ := List.mem_map.mp (getP_mem e)
      injection e2 with _ e2
      rw [← e2]; rfl
  obtain ⟨l1, l2, l3, l4, l5⟩ := lay_go (outs := outsT T) e0 e1 T [] [] (b0M T) "in" rfl hasc (by simp) (G.zero _ _) rok hb0 rfl (fun j hj => by
      have : j = 0 := by
        have : j ≤ 0 := hj
        omega
      subst this
      rfl) (fun o _ j _ => by
      show sumL _ ((getP ((outsT T).map fun o => (o, ([] : List Str))) o).getD []) = _
      rw [get0]
      rfl) (by
      show 2 * _ ≤ (freeOf (outsT T)).length
      omega) (by
      show 0 + _ ≤ 3900
      omega) (by
      have := h.tl
      simp only [List.length_nil]
      omega)
  have eb1 : layGo (b0M T) "in" (([] : List Rat).getLastD 0) T = b1M T := rfl
  rw [eb1] at l1 l2 l3 l4 l5
  simp only [List.nil_append] at l2 l3
  have l4' : (freeOf (outsT T)).length ≤ (b1M T).free.length + 2 * (namesOf T).length := l4
  have l5' : (b1M T).made.length ≤ 0 + (namesOf T).length := l5
  have esl : (SS0 (b1M T).made).es.length = T.length := by rw [l2, List.length_map]
  -- the pieces
  have pnd : ((b1M T).pcs.map (·.1)).Nodup := by rw [l1.keys]; exact ond
  have flatlen : ((b1M T).pcs.flatMap (·.2)).length ≤ 50 := by
    have := l1.perm.length_eq
    rw [List.nil_append] at this
    have := left_len2 _ l1.md.val
    omega
  have pclen : (b1M T).pcs.length ≤ 49 := by
    have := congrArg List.length l1.keys
    rw [List.length_map] at this
    omega
  have psE : ∀ p ∈ (b1M T).pcs, ∀ j, sumL (rwv (SS0 (b1M T).made) j) p.2 = psum (b1M T) j p.1 := fun p hp j => by
    unfold psum
    rw [getP_nodup (k := p.1) (v := p.2) pnd hp]; rfl
  have outOf : ∀ p ∈ (b1M T).pcs, p.1 ∈ outsT T := fun p hp => by
    rw [← l1.keys]
    exact List.mem_map.mpr ⟨p, hp, rfl⟩
  have shT : ∀ j, j < T.length → ∃ r ∈ T, shAt T j = r.2 := fun j hj => by
    refine ⟨T[j], List.getElem_mem _, ?_⟩
    unfold shAt
    rw [List.getElem?_eq_getElem hj]; rfl
  have big : ∀ p ∈ (b1M T).pcs, ∀ j, ¬ j < T.length → sumL (rwv (SS0 (b1M T).made) j) p.2 = 0 := fun p hp j hj => by
    have : ∀ n ∈ p.2, rwv (SS0 (b1M T).made) j n = 0 := fun n hn => rwv_out l1.md (l1.made (List.mem_append_right _ (List.mem_flatMap.mpr ⟨p, hp, hn⟩))).2 (by rw [esl]; exact hj)
    have : ∀ l : List Str, (∀ n ∈ l, rwv (SS0 (b1M T).made) j n = 0) → sumL (rwv (SS0 (b1M T).made) j) l = 0 := fun l => by
      induction l with
      | nil => exact fun _ => rfl
      | cons n l ih =>
        intro hl
        rw [sumL_cons, hl n List.mem_cons_self, ih fun m hm => hl m (List.mem_cons_of_mem _ hm)]
        grind
    exact this p.2 (by assumption)
  have val : ∀ p ∈ (b1M T).pcs, ∀ j, j < T.length → sumL (rwv (SS0 (b1M T).made) j) p.2 = gS (shAt T j) p.1 := fun p hp j hj => by
    rw [psE p hp j, l3 p.1 (outOf p hp) j hj]
  have pcond : ∀ p ∈ (b1M T).pcs, p.2 ≠ [] ∧ ∀ j, G (12 ^ 8) 1 (sumL (rwv (SS0 (b1M T).made) j) p.2) := fun p hp => by
    refine ⟨fun z => ?_, fun j => ?_⟩
    · obtain ⟨r, hr, hn⟩ := List.mem_flatMap.mp ((omem p.1).mp (outOf p hp))
      obtain ⟨j, hj, e⟩ := List.mem_iff_getElem.mp hr
      have v := val p hp j hj
      rw [z] at v
      have e2 : shAt T j = r.2 := by
        unfold shAt
        rw [List.getElem?_eq_getElem hj, e]; rfl
      rw [e2] at v
      have pos := gS_key (h.pos r hr) hn
      rw [← v] at pos
      exact absurd (show (0 : Rat) < 0 from pos) Rat.lt_irrefl
    · by_cases c : j < T.length
      · rw [val p hp j c]
        obtain ⟨r, hr, e⟩ := shT j c
        rw [e]
        rcases gS_mem (s := r.2) (o := p.1) with z | ⟨q, hq, _, z⟩
        · rw [z]; exact G.zero _ _
        · rw [z]; exact h.sg r hr q hq
      · rw [big p hp j c]; exact G.zero _ _
  have gj0 : Gj E (outsT T) (b1M T).free (b1M T).made ((b1M T).pcs.flatMap (·.2) ++ []) ((b1M T).pcs.map (·.1)) := by
    refine ⟨l1.md, ?_, l1.fnd, l1.fm, l1.nm, fun n hn => ?_⟩
    · rw [List.append_nil]; exact l1.perm
    · rw [l1.keys] at hn
      exact ⟨fun z => l1.om n z hn, hn, onm n hn⟩
  obtain ⟨g0, g1, g2, g3, g4, g5⟩ := gat_all e0 e1 (b1M T).pcs (b1M T).free (b1M T).made [] gj0 pnd pcond (by omega) (by omega)
  have ebt : builtM T = (gatAll (b1M T).free (b1M T).made (b1M T).pcs).2 := if_neg hno
  rw [← ebt] at g1 g2 g3 g4 g5
  rw [List.append_nil, l1.keys] at g1
  have blen : (builtM T).length ≤ 200 := by omega
  have nmT : ∀ p ∈ builtM T, ∀ n ∈ p.ins ++ p.outs, StrOk n ∧ n.length ≤ 100 := g1.mdk.nms
  have outsE : outsOf (builtM T) = outsT T := sorted_uniq ((left_perm g1.mdk.val).symm.trans g1.perm) (isortS_sorted _) (isortS_sorted _)
  have esF : (SS0 (builtM T)).es = T.map (·.1) := by rw [g2, l2]
  have rowF : ∀ o ∈ outsT T, ∀ j, j < T.length → rwv (SS0 (builtM T)) j o = gS (shAt T j) o := fun o ho j hj => by
    rw [← l1.keys] at ho
    obtain ⟨p, hp, e⟩ := List.mem_map.mp ho
    rw [← e, g4 p hp j, val p hp j hj]
  have rowsE : rowsOf (SS0 (builtM T)) (outsOf (builtM T)) = T := by
    unfold rowsOf
    rw [show (SS0 (builtM T)).es.length = T.length by rw [esF, List.length_map]]
    refine range_map_eq fun j h2 => ?_
    have hr := List.getElem_mem h2
    have e1 : (SS0 (builtM T)).es.getD j none = T[j].1 := by
      rw [esF, List.getD_eq_getElem?_getD, List.getElem?_map, List.getElem?_eq_getElem h2]; rfl
    have e2 : ownOf (SS0 (builtM T)) (outsOf (builtM T)) j = T[j].2 := by
      refine shs_uniq (own_good (setS_strict _) j) (h.can.sh _ hr) fun o => ?_
      rw [own_gS (show (outsOf (builtM T)).Nodup from setS_nodup _), outsE]
      have es : shAt T j = T[j].2 := by
        unfold shAt
        rw [List.getElem?_eq_getElem h2]; rfl
      by_cases c : o ∈ outsT T
      · rw [if_pos c, rowF o c j h2, es]
      · rw [if_neg c, gS_zero]
        exact fun z => c ((omem o).mpr (List.mem_flatMap.mpr ⟨_, hr, z⟩))
    rw [e1, e2]
  have netok : NetOk (builtM T) := by
    have hm := made_len (builtM T)
    refine ⟨(made_nm _ nmT).1, (made_nm _ nmT).2, by omega, ?_⟩
    have nd2 : ((madeOf (builtM T)).filter fun n => decide (n ∉ takenOf (builtM T))).Nodup := (made_nodup _ g1.mdk.val).filter _
    have pm : ((madeOf (builtM T)).filter fun n => decide (n ∉ takenOf (builtM T))).Perm (outsOf (builtM T)) := perm_of nd2 (setS_nodup _) fun n => by
      unfold outsOf
      rw [setS_mem]
    rw [pm.length_eq, outsE]; omega
  refine ⟨⟨by have := h.tl; omega, fun r hr => by have := h.rl r hr; omega, by omega, fun r hr p hp => (h.nm r hr p hp).1, fun _ => ⟨lg_of e0 e1 hasc (G.zero _ _) rok, by omega, g0⟩, g1.mdk.val, fun p hp => ⟨nm_ok (nmT p hp), tx_ok (nmT p hp) (g1.mdk.txq p hp)⟩, by omega⟩,
    ⟨netok, g1.mdk.run, fun n hn => made_keys _ n (out_made hn)⟩, ?_⟩
  show layersM (rowsOf (SS0 (builtM T)) (outsOf (builtM T))) = T
  rw [rowsE]
  exact lay_same T [] h.can.df
end LN
namespace LN
open PySem PySem.Spec PyProof.Rows L2 SlX

theorem erase_ix {k : Str} : ∀ {ns : List Str}, k ∈ ns → ∃ j, ns[j]? = some k ∧ (∀ m : Nat, m < j → ns[m]? ≠ some k) ∧ ns.eraseIdx j = ns.erase k
  | [], h => by simp at h
  | n :: ns, h => by
    by_cases e : n = k
    · subst e
      exact ⟨0, rfl, fun m hm => absurd hm (Nat.not_lt_zero m), by simp⟩
    · have h2 : k ∈ ns := by
        rcases List.mem_cons.mp h with z | z
        · exact absurd z.symm e
        · exact z
      obtain ⟨j, h3, h4, h5⟩ := erase_ix h2
      refine ⟨j + 1, by simpa using h3, fun m hm => ?_, ?_⟩
      · cases m with
        | zero => simpa using e
        | succ m => simpa using h4 m (by omega)
      · rw [List.eraseIdx_cons_succ, h5, List.erase_cons_tail (by simpa using e)]
def WStep (l : Fl) (left : List Str) : Part → Prop
  | .weir a q _ _ => a ∈ left ∧ ∃ c, getP l a = some c ∧ Fit c ∧ Fit q
  | .div a q _ _ => a ∈ left ∧ ∃ c, getP l a = some c ∧ Fit c ∧ Fit q ∧ Fit (c * q) ∧ c * q ≤ c
  | .join a b _ => a ∈ left ∧ b ∈ left.erase a ∧ ∃ c d, getP l a = some c ∧ getP l b = some d ∧ Fit c ∧ Fit d
def WalkOk : Fl → List Str → List Part → Prop
  | _, _, [] => True
  | l, left, p :: ps => WStep l left p ∧ WalkOk (stepP l p) (leftStep left p) ps
theorem left_len (l : List Str) (p : Part) : (leftStep l p).length ≤ l.length + 2 := by
  cases p with
  | weir a q t r => unfold leftStep; rw [List.length_append]; have := List.length_erase_le (a := a) (l := l); simp only [List.length_cons, List.length_nil]; omega
  | div a q t r => unfold leftStep; rw [List.length_append]; have := List.length_erase_le (a := a) (l := l); simp only [List.length_cons, List.length_nil]; omega
  | join a b t => unfold leftStep; rw [List.length_append]; have := List.length_erase_le (a := a) (l := l); have := List.length_erase_le (a := b) (l := l.erase a); simp only [List.length_cons, List.length_nil]; omega

section
variable {P : Program} {w : World} {K : Frg} {mg : Str → Option Value} {base : Heap}

def R_walk : AN := fun xs M Q => ∃ ps x, xs = [.d (partsD ps), .d (fr x)] ∧ ps.length ≤ 25 ∧ WalkOk (run0 x) ["in"] ps ∧ ∀ f zs, zs.Perm (leftOf ps) → sortedS zs = true → Q (.p [.m f, .d (.list (strsD zs))]) ((f, .dK (asK fr (runM ps x))) :: M)
abbrev N__law_walk : List Str := ["_law_parts_so", "_law_inflow_so", "_law_runs_so", "_law_left", "_law_own", "_law_here", "_law_to_so"]
theorem sc__law_walk : FnScope N__law_walk ["_law_parts_so", "_law_inflow_so"] (L2.defScope s__law_walk) := ⟨rfl, rfl, rfl, by decide +kernel, rfl, by decide +kernel, by decide +kernel⟩
set_option maxHeartbeats 4000000 in
theorem kp__law_walk (T : Tx K mg) (c__law_plus : Kp P w K mg base 2 (He.ga K "_law_plus") ["_law_a_so", "_law_b_so"] R_lplus) (c__law_mul : Kp P w K mg base 2 (He.ga K "_law_mul") ["_law_a_so", "_law_b_so"] R_lmul) (c__law_less : Kp P w K mg base 1 (He.ga K "_law_less") ["_law_a_so", "_law_b_so"] R_lless) (c__law_minus : Kp P w K mg base 2 (He.ga K "_law_minus") ["_law_a_so", "_law_b_so"] R_lminus) : Kp P w K mg base 3 (He.ga K "_law_walk") ["_law_parts_so", "_law_inflow_so"] R_walk := by
  refine kp_n (k := 2) (T.def_ 56) sc__law_walk (fun _ _ _ _ _ _ us hl => match us, hl with | [_, _], _ => rfl) (fun xs M Q h => ?len) (fun cdv A outer s H E hr => ⟨_, _, ⟨
    (pss_cons (ps_par (i := 2) (j := 3) rfl sc__law_walk.nd rfl rfl (by decide) rfl rfl (pa_cons (pe_disp (pps_one pe_str (pv 1)) rfl rfl (by simp) (by decide)) (pa_cons (pe_lst (pa_cons pe_str pa_nil)) pa_nil)) rfl) (pss_cons (ps_for PassesOwn.never rfl (pi_tup (pv 0)) (pg_name (i := 4) sc__law_walk.nd rfl (Or.inl rfl)) (pss_cons (ps_set (i := 5) sc__law_walk.nd rfl (Or.inl rfl) (pe_dget (hu_of hr) (pv 2) (pe_ix ix_seq (pv 4) pe_int (fun _ _ => rfl)) (fun _ _ => rfl))) (pss_cons (ps_expr (pe_bm PySem.F.plainAttrs_list PySem.F.slot_list_remove PySem.F.type_list_remove mt_remS (pv 3) (pa_cons (pe_ix ix_seq (pv 4) pe_int (fun _ _ => rfl)) pa_nil))) (pss_one (ps_if (pt_cmpR (op_eqD hr.units) (pe_ix ix_seq (pv 4) pe_int (fun _ _ => rfl)) pe_str (nomark _)) (pss_cons (ps_dput (hu_of hr) (pv 2) (pe_ix ix_seq (pv 4) pe_int (fun _ _ => rfl)) (pe_def c__law_plus (hr.mono (by decide)) (by rfl) (T.glo 36) (pa_cons (pv 5) (pa_cons (pe_dget (hu_of hr) (pv 2) (pe_ix ix_seq (pv 4) pe_int (fun _ _ => rfl)) (fun _ _ => rfl)) pa_nil))) rfl) (pss_cons (ps_expr (pe_bm PySem.F.plainAttrs_list PySem.F.slot_list_remove PySem.F.type_list_remove mt_remS (pv 3) (pa_cons (pe_ix ix_seq (pv 4) pe_int (fun _ _ => rfl)) pa_nil))) (pss_one (ps_expr (pe_bm PySem.F.plainAttrs_list PySem.F.slot_list_append PySem.F.type_list_append mt_append (pv 3) (pa_cons (pe_ix ix_seq (pv 4) pe_int (fun _ _ => rfl)) pa_nil)))))) (pss_cons (ps_set (i := 6) sc__law_walk.nd rfl (Or.inl rfl) (pe_def c__law_mul (hr.mono (by decide)) (by rfl) (T.glo 38) (pa_cons (pv 5) (pa_cons (pe_ix ix_seq (pv 4) pe_int (fun _ _ => rfl)) pa_nil)))) (pss_cons (ps_if (pt_cmpR (op_eqD hr.units) (pe_ix ix_seq (pv 4) pe_int (fun _ _ => rfl)) pe_str (nomark _)) (pss_one (ps_set (i := 6) sc__law_walk.nd rfl (Or.inl rfl) (pe_ifExp (pt_val (pe_def c__law_less (hr.mono (by decide)) (by rfl) (T.glo 39) (pa_cons (pv 5) (pa_cons (pe_ix ix_seq (pv 4) pe_int (fun _ _ => rfl)) pa_nil)))) (pv 5) (pe_ix ix_seq (pv 4) pe_int (fun _ _ => rfl))))) pss_nil) (pss_cons (ps_dput (hu_of hr) (pv 2) (pe_ix ix_seq (pv 4) pe_int (fun _ _ => rfl)) (pv 6) rfl) (pss_cons (ps_dput (hu_of hr) (pv 2) (pe_ix ix_seq (pv 4) pe_int (fun _ _ => rfl)) (pe_def c__law_minus (hr.mono (by decide)) (by rfl) (T.glo 37) (pa_cons (pv 5) (pa_cons (pv 6) pa_nil))) rfl) (pss_one (ps_set (i := 3) sc__law_walk.nd rfl (Or.inl rfl) (pe_op op_catL (pv 3) (pe_lst (pa_cons (pe_ix ix_seq (pv 4) pe_int (fun _ _ => rfl)) (pa_cons (pe_ix ix_seq (pv 4) pe_int (fun _ _ => rfl)) pa_nil))))))))))))))) (pss_one (ps_ret (pe_tupS (pa_cons (pv 2) (pa_cons (pe_callB cr_sortedS (by rfl) (T.free 72) (by decide +kernel) (pa_cons (pv 3) pa_nil)) pa_nil))))))),
    (ss_seq (ss_par (sa_cons (se_disp1 se_str se_var) (sa_cons (se_lstM (sa_cons se_str sa_nil)) sa_nil))) (ss_seq (ss_for (si_tup se_var) sg_nm (ss_seq (ss_asg (se_dget se_var (se_op s2_ix se_var se_int)) sg_nm) (ss_seq (ss_drop (se_bml sm_remS se_var (sa_cons (se_op s2_ix se_var se_int) sa_nil))) (ss_if (st_T (se_op s2_eq (se_op s2_ix se_var se_int) se_str)) (ss_seq (ss_dput se_var (se_op s2_ix se_var se_int) (se_call (sa_cons se_var (sa_cons (se_dget se_var (se_op s2_ix se_var se_int)) sa_nil)))) (ss_seq (ss_drop (se_bml sm_remS se_var (sa_cons (se_op s2_ix se_var se_int) sa_nil))) (ss_drop (se_bml sm_append se_var (sa_cons (se_op s2_ix se_var se_int) sa_nil))))) (ss_seq (ss_asg (se_call (sa_cons se_var (sa_cons (se_op s2_ix se_var se_int) sa_nil))) sg_nm) (ss_seq (ss_if (st_T (se_op s2_eq (se_op s2_ix se_var se_int) se_str)) (ss_asg (se_if (st_B (se_call (sa_cons se_var (sa_cons (se_op s2_ix se_var se_int) sa_nil)))) se_var (se_op s2_ix se_var se_int)) sg_nm) ss_next) (ss_seq (ss_dput se_var (se_op s2_ix se_var se_int) se_var) (ss_seq (ss_dput se_var (se_op s2_ix se_var se_int) (se_call (sa_cons se_var (sa_cons se_var sa_nil)))) (ss_asg (se_op s2_catM se_var (se_lst (sa_cons (se_op s2_ix se_var se_int) (sa_cons (se_op s2_ix se_var se_int) sa_nil)))) sg_nm))))))))) (ss_ret (se_tupP (sa_cons se_var (sa_cons (se_cb sn_sortedS (sa_cons se_var sa_nil)) sa_nil))))))⟩, fun xs M Qa h => ?body⟩)
  case len => obtain ⟨ps, x, rfl, _⟩ := h; rfl
  case body =>
    obtain ⟨ps, x, rfl, hl, ok, qq⟩ := h
    refine fun f => ⟨_, rfl, _, rfl, M, Sub.refl _, (show 1 ≤ 1000000 by decide), fun lp0 => ⟨_, _, rfl, ?_⟩⟩
    refine ⟨_, rfl, _, rfl, fun rest ρ M' => ∃ (todo : List Part) (l : Fl) (left : List Str) (lp : Addr) (J : Sto) (u v y : Option Va), rest = (todo.map partD).map .d ∧ ρ = [some (.d (partsD ps)), some (.d (fr x)), some (.m f), some (.m lp), u, v, y] ∧
      M' = (lp, .lst (txV left)) :: (J ++ (f, .dK (asK fr l)) :: M) ∧ WalkOk l left todo ∧ todo.foldl stepP l = runM ps x ∧ todo.foldl leftStep left = ps.foldl leftStep ["in"] ∧ l.length + 2 * todo.length ≤ 51 ∧ left.length + 2 * todo.length ≤ 51, ⟨ps, run0 x, ["in"], lp0, [], none, none, none, rfl, rfl, rfl, ok, rfl, rfl, by
        show 1 + 2 * ps.length ≤ 51
        omega, by
        show 1 + 2 * ps.length ≤ 51
        omega⟩, ?_, ?_⟩
    · rintro d r ρ M' ⟨todo, l, left, lp, J, u, v, y, e1, rfl, rfl, ok, e2, e3', hz, hw⟩
      match todo, e1, ok, e2, e3', hz, hw with
      | p :: todo, e1, ok, e2, e3', hz, hw =>
        injection e1 with e3 e4
        subst e3
        have hz2 : l.length + 2 * (todo.length + 1) ≤ 51 := hz
        have hw2 : left.length + 2 * (todo.length + 1) ≤ 51 := hw
        have sl := stepP_len l p
        have ll := left_len left p
        have e5 : todo.foldl stepP (stepP l p) = runM ps x := e2
        have e6 : todo.foldl leftStep (leftStep left p) = ps.foldl leftStep ["in"] := e3'
        have kl : (asK fr l).length ≤ 51 := by rw [asK_len]; omega
        obtain ⟨fs, ok2⟩ := ok
        match p, fs, sl, ll, e5, e6, ok2 with
        | .div a q t r0, ⟨ha, c, hc, fc, fq, fcq, hle⟩, sl, ll, e5, e6, ok2 =>
          have gc := gS_of hc
          obtain ⟨j, j1, j2, je⟩ := erase_ix ha
          refine ⟨_, rfl, _, rfl, _, 1, _, .inl rfl, rfl, atI_nat _ 1 _ rfl, f, _, a, _, (lp, _) :: J, _, rfl, rfl, rfl, dK_get hc, ?_⟩
          refine ⟨_, rfl, lp, txV left, [], _, rfl, rfl, _, rfl, _, 1, _, .inl rfl, rfl, atI_nat _ 1 _ rfl, lp, left, a, j, [], _, rfl, rfl, rfl, j1, j2, ?_⟩
          refine ⟨_, rfl, _, 0, _, .inl rfl, rfl, atI_nat _ 0 _ rfl, _, _, rfl, rfl, sh_str (by decide +kernel), sh_str (by decide +kernel), _, rfl, iteB (fun z => absurd z (by rw [id, eqv_strs]; decide)) (fun _ => ?_)⟩
          refine ⟨_, rfl, _, rfl, _, 2, _, .inl rfl, rfl, atI_nat _ 2 _ rfl, c, q, rfl, fc, fq, ?_⟩
          refine ⟨_, rfl, _, 0, _, .inl rfl, rfl, atI_nat _ 0 _ rfl, _, _, rfl, rfl, sh_str (by decide +kernel), sh_str (by decide +kernel), _, rfl, iteB (fun z => absurd z (by rw [id, eqv_strs]; decide)) (fun _ => ?_)⟩
          refine ⟨_, rfl, _, rfl, _, rfl, _, 3, _, .inl rfl, rfl, atI_nat _ 3 _ rfl, f, _, t, (lp, _) :: J, _, rfl, rfl, rfl, by omega, ?_⟩
          refine ⟨_, rfl, _, rfl, c, c * q, rfl, fc, fcq, hle, _, rfl, _, rfl, _, 4, _, .inl rfl, rfl, atI_nat _ 4 _ rfl, f, _, r0, (lp, _) :: J, _, rfl, rfl, rfl, ?_, ?_⟩
          · rw [asK_put, asK_len]
            have := putP_len l t (c * q)
            omega
          refine ⟨_, rfl, _, rfl, _, 3, _, .inl rfl, rfl, atI_nat _ 3 _ rfl, _, rfl, _, 4, _, .inl rfl, rfl, atI_nat _ 4 _ rfl, _, rfl, (show 2 ≤ 1000000 by decide), lp, _, _, [], _, rfl, rfl, rfl, ?_, fun l2 => ?_⟩
          · show (txV (left.eraseIdx j)).length + 2 ≤ 1000000
            rw [txV_len, je]
            have := List.length_erase_le (a := a) (l := left)
            omega
          refine ⟨todo, stepP l (.div a q t r0), leftStep left (.div a q t r0), l2, (lp, .lst (txV (left.eraseIdx j))) :: J, _, _, _, e4, rfl, ?_, ok2, e5, e6, by omega, by omega⟩
          show _ = (l2, MO.lst (txV (left.erase a ++ [t, r0]))) :: ((lp, .lst (txV (left.eraseIdx j))) :: J ++ (f, MO.dK (asK fr (putP (putP l t (gS l a * q)) r0 (gS l a - gS l a * q)))) :: M)
          rw [gc]
          skip
          rw [← asK_put, ← asK_put, je, show txV (left.erase a ++ [t, r0]) = txV (left.erase a) ++ [.d (.str t), .d (.str r0)] from by unfold txV strsD; rw [List.map_append, List.map_append]; rfl]
          rfl
        | .weir a q t r0, ⟨ha, c, hc, fc, fq⟩, sl, ll, e5, e6, ok2 =>
          have gc := gS_of hc
          obtain ⟨j, j1, j2, je⟩ := erase_ix ha
          refine ⟨_, rfl, _, rfl, _, 1, _, .inl rfl, rfl, atI_nat _ 1 _ rfl, f, _, a, _, (lp, _) :: J, _, rfl, rfl, rfl, dK_get hc, ?_⟩
          refine ⟨_, rfl, lp, txV left, [], _, rfl, rfl, _, rfl, _, 1, _, .inl rfl, rfl, atI_nat _ 1 _ rfl, lp, left, a, j, [], _, rfl, rfl, rfl, j1, j2, ?_⟩
          refine ⟨_, rfl, _, 0, _, .inl rfl, rfl, atI_nat _ 0 _ rfl, _, _, rfl, rfl, sh_str (by decide +kernel), sh_str (by decide +kernel), _, rfl, iteB (fun z => absurd z (by rw [id, eqv_strs]; decide)) (fun _ => ?_)⟩
          refine ⟨_, rfl, _, rfl, _, 2, _, .inl rfl, rfl, atI_nat _ 2 _ rfl, c, q, rfl, fc, fq, ?_⟩
          refine ⟨_, rfl, _, 0, _, .inl rfl, rfl, atI_nat _ 0 _ rfl, _, _, rfl, rfl, sh_str (by decide +kernel), sh_str (by decide +kernel), _, rfl, iteB (fun _ => ?_) (fun z => absurd z (by rw [id, eqv_strs]; decide))⟩
          refine ⟨_, rfl, _, rfl, _, 2, _, .inl rfl, rfl, atI_nat _ 2 _ rfl, c, q, rfl, fc, fq, _, rfl, iteB (fun lt => ?_) (fun ge => ?_)⟩
          · have lt := of_decide_eq_true lt
            refine ⟨_, rfl, ?_⟩
            refine ⟨_, rfl, _, rfl, _, rfl, _, 3, _, .inl rfl, rfl, atI_nat _ 3 _ rfl, f, _, t, (lp, _) :: J, _, rfl, rfl, rfl, by omega, ?_⟩
            refine ⟨_, rfl, _, rfl, c, c, rfl, fc, fc, Rat.le_refl, _, rfl, _, rfl, _, 4, _, .inl rfl, rfl, atI_nat _ 4 _ rfl, f, _, r0, (lp, _) :: J, _, rfl, rfl, rfl, ?_, ?_⟩
            · rw [asK_put, asK_len]
              have := putP_len l t (c)
              omega
            refine ⟨_, rfl, _, rfl, _, 3, _, .inl rfl, rfl, atI_nat _ 3 _ rfl, _, rfl, _, 4, _, .inl rfl, rfl, atI_nat _ 4 _ rfl, _, rfl, (show 2 ≤ 1000000 by decide), lp, _, _, [], _, rfl, rfl, rfl, ?_, fun l2 => ?_⟩
            · show (txV (left.eraseIdx j)).length + 2 ≤ 1000000
              rw [txV_len, je]
              have := List.length_erase_le (a := a) (l := left)
              omega
            refine ⟨todo, stepP l (.weir a q t r0), leftStep left (.weir a q t r0), l2, (lp, .lst (txV (left.eraseIdx j))) :: J, _, _, _, e4, rfl, ?_, ok2, e5, e6, by omega, by omega⟩
            show _ = (l2, MO.lst (txV (left.erase a ++ [t, r0]))) :: ((lp, .lst (txV (left.eraseIdx j))) :: J ++ (f, MO.dK (asK fr (putP (putP l t (mn (gS l a) q)) r0 (gS l a - mn (gS l a) q)))) :: M)
            rw [gc]
            rw [show mn c q = c from if_pos lt]
            rw [← asK_put, ← asK_put, je, show txV (left.erase a ++ [t, r0]) = txV (left.erase a) ++ [.d (.str t), .d (.str r0)] from by unfold txV strsD; rw [List.map_append, List.map_append]; rfl]
            rfl
          · have ge := of_decide_eq_false ge
            refine ⟨_, rfl, _, 2, _, .inl rfl, rfl, atI_nat _ 2 _ rfl, ?_⟩
            refine ⟨_, rfl, _, rfl, _, rfl, _, 3, _, .inl rfl, rfl, atI_nat _ 3 _ rfl, f, _, t, (lp, _) :: J, _, rfl, rfl, rfl, by omega, ?_⟩
            refine ⟨_, rfl, _, rfl, c, q, rfl, fc, fq, (Rat.not_lt.mp ge), _, rfl, _, rfl, _, 4, _, .inl rfl, rfl, atI_nat _ 4 _ rfl, f, _, r0, (lp, _) :: J, _, rfl, rfl, rfl, ?_, ?_⟩
            · rw [asK_put, asK_len]
              have := putP_len l t (q)
              omega
            refine ⟨_, rfl, _, rfl, _, 3, _, .inl rfl, rfl, atI_nat _ 3 _ rfl, _, rfl, _, 4, _, .inl rfl, rfl, atI_nat _ 4 _ rfl, _, rfl, (show 2 ≤ 1000000 by decide), lp, _, _, [], _, rfl, rfl, rfl, ?_, fun l2 => ?_⟩
            · show (txV (left.eraseIdx j)).length + 2 ≤ 1000000
              rw [txV_len, je]
              have := List.length_erase_le (a := a) (l := left)
              omega
            refine ⟨todo, stepP l (.weir a q t r0), leftStep left (.weir a q t r0), l2, (lp, .lst (txV (left.eraseIdx j))) :: J, _, _, _, e4, rfl, ?_, ok2, e5, e6, by omega, by omega⟩
            show _ = (l2, MO.lst (txV (left.erase a ++ [t, r0]))) :: ((lp, .lst (txV (left.eraseIdx j))) :: J ++ (f, MO.dK (asK fr (putP (putP l t (mn (gS l a) q)) r0 (gS l a - mn (gS l a) q)))) :: M)
            rw [gc]
            rw [show mn c q = q from if_neg ge]
            rw [← asK_put, ← asK_put, je, show txV (left.erase a ++ [t, r0]) = txV (left.erase a) ++ [.d (.str t), .d (.str r0)] from by unfold txV strsD; rw [List.map_append, List.map_append]; rfl]
            rfl
        | .join a b t, ⟨ha, hb, c, d, hc, hd, fc, fd⟩, sl, ll, e5, e6, ok2 =>
          have gd := gS_of hd
          have gc := gS_of hc
          obtain ⟨j, j1, j2, je⟩ := erase_ix ha
          refine ⟨_, rfl, _, rfl, _, 1, _, .inl rfl, rfl, atI_nat _ 1 _ rfl, f, _, a, _, (lp, _) :: J, _, rfl, rfl, rfl, dK_get hc, ?_⟩
          refine ⟨_, rfl, lp, txV left, [], _, rfl, rfl, _, rfl, _, 1, _, .inl rfl, rfl, atI_nat _ 1 _ rfl, lp, left, a, j, [], _, rfl, rfl, rfl, j1, j2, ?_⟩
          rw [je]
          obtain ⟨i, i1, i2, ie⟩ := erase_ix hb
          refine ⟨_, rfl, _, 0, _, .inl rfl, rfl, atI_nat _ 0 _ rfl, _, _, rfl, rfl, sh_str (by decide +kernel), sh_str (by decide +kernel), _, rfl, iteB (fun _ => ?_) (fun z => absurd z (by rw [id, eqv_strs]; decide))⟩
          refine ⟨_, rfl, _, rfl, _, rfl, _, 2, _, .inl rfl, rfl, atI_nat _ 2 _ rfl, f, _, b, _, (lp, _) :: J, _, rfl, rfl, rfl, dK_get hd, c, d, rfl, fc, fd, ?_⟩
          refine ⟨_, rfl, _, rfl, _, 3, _, .inl rfl, rfl, atI_nat _ 3 _ rfl, f, _, t, (lp, _) :: J, _, rfl, rfl, rfl, by omega, ?_⟩
          refine ⟨_, rfl, lp, txV (left.erase a), [], _, rfl, rfl, _, rfl, _, 2, _, .inl rfl, rfl, atI_nat _ 2 _ rfl, lp, left.erase a, b, i, [], _, rfl, rfl, rfl, i1, i2, ?_⟩
          rw [ie]
          refine ⟨_, rfl, lp, _, [], _, rfl, rfl, _, rfl, _, 3, _, .inl rfl, rfl, atI_nat _ 3 _ rfl, lp, _, _, [], _, rfl, rfl, rfl, ?_, ?_⟩
          · rw [txV_len]
            have := List.length_erase_le (a := a) (l := left)
            have := List.length_erase_le (a := b) (l := left.erase a)
            omega
          refine ⟨todo, stepP l (.join a b t), leftStep left (.join a b t), lp, J, _, _, _, e4, rfl, ?_, ok2, e5, e6, by omega, by omega⟩
          show _ = (lp, MO.lst (txV ((left.erase a).erase b ++ [t]))) :: (J ++ (f, MO.dK (asK fr (putP l t (gS l a + gS l b)))) :: M)
          rw [gc, gd, ← asK_put, txV_app]
          rfl
    · rintro ρ M' ⟨todo, l, left, lp, J, u, v, y, e1, rfl, rfl, ok, e2, e3', hz, hw⟩
      match todo, e1, e2, e3', hw with
      | [], _, e2, e3', hw =>
        have e4 : l = runM ps x := e2
        subst e4
        have hw2 : left.length ≤ 51 := hw
        refine ⟨_, rfl, _, rfl, left, by omega, .inr ⟨lp, txV left, [], _, rfl, rfl, rfl⟩, fun zs hp hs => ⟨[.m f, .d (.list (strsD zs))], rfl, (show 2 ≤ 1000000 by decide), _, ⟨(lp, _) :: J, .refl _⟩, qq f zs (hp.trans (by rw [show left = leftOf ps from e3'])) hs⟩⟩

end
end LN
namespace LN
open PySem PySem.Spec PyProof.Rows L2 SlX

theorem cm01 (i : Int) (b : Bool) : CMul i (if b = true then 1 else 0) := by
  cases b
  · exact .inr ⟨by decide, by decide⟩
  · exact .inr ⟨by decide, by decide⟩

section
variable {P : Program} {w : World} {K : Frg} {mg : Str → Option Value} {base : Heap}

def R_box : AN := fun xs M Q => ∃ (p : Addr) (cells : List Int) (k : Nat) (M1 M2 : Sto), xs = [.m p, .d (.int (k : Int))] ∧ M = M1 ++ (p, .lst (cells.map fun i => Va.d (.int i))) :: M2 ∧ k < 100 ∧ ∀ (a : Addr) (x y : Nat), y < 2 ^ 64 → Q (.m a) (bxM a x y 0 :: M)
abbrev N__law_box : List Str := ["_law_script", "_law_k", "_law_cell"]
theorem sc__law_box : FnScope N__law_box ["_law_script", "_law_k"] (L2.defScope s__law_box) := ⟨rfl, rfl, rfl, by decide +kernel, rfl, by decide +kernel, by decide +kernel⟩
set_option maxHeartbeats 4000000 in
theorem kp__law_box (T : Tx K mg) : Kp P w K mg base 1 (He.ga K "_law_box") ["_law_script", "_law_k"] R_box := by
  refine kp_n (k := 0) (T.def_ 44) sc__law_box (fun _ _ _ _ _ _ us hl => match us, hl with | [_, _], _ => rfl) (fun xs M Q h => ?len) (fun cdv A outer s H E hr => ⟨_, _, ⟨
    (pss_cons (ps_set (i := 2) sc__law_box.nd rfl (Or.inl rfl) (pe_ifExp (pt_cmpR op_lt (pv 1) (pe_callB call_len_seq (by rfl) (T.free 68) PySem.boot_len (pa_cons (pv 0) pa_nil)) (nomark _)) (pe_ix ix_seq (pv 0) (pv 1) (fun _ _ => rfl)) pe_int)) (pss_one (ps_ret (pe_lst (pa_cons (pe_op op_mul (pe_callB call_abs (by rfl) (T.free 77) (by decide +kernel) (pa_cons (pv 2) pa_nil)) (pe_callTy call_int1 (by rfl) (T.free 78) (by decide +kernel) (pa_cons (pe_cmpR op_ge (pe_callB call_abs (by rfl) (T.free 77) (by decide +kernel) (pa_cons (pv 2) pa_nil)) (pe_op op_pow pe_int pe_int) (nomark _)) pa_nil))) (pa_cons (pe_op op_add (pe_op op_add (pe_op op_mod (pe_callTy call_int1 (by rfl) (T.free 78) (by decide +kernel) (pa_cons (pv 2) pa_nil)) pe_int) (pe_op op_mulW pe_int (pv 1))) pe_int) (pa_cons pe_int pa_nil))))))),
    (ss_seq (ss_asg (se_if (st_T (se_op s2_B0 se_var (se_cb sn_len (sa_cons se_var sa_nil)))) (se_op s2_ixM se_var se_var) se_int) sg_nm) (ss_ret (se_lstM (sa_cons (se_op s2_I (se_cb sn_abs (sa_cons se_var sa_nil)) (se_cb sn_int (sa_cons (se_op s2_B0 (se_cb sn_abs (sa_cons se_var sa_nil)) (se_op s2_I se_int se_int)) sa_nil))) (sa_cons (se_op s2_I0 (se_op s2_I0 (se_op s2_I (se_cb sn_int (sa_cons se_var sa_nil)) se_int) (se_op s2_I se_int se_var)) se_int) (sa_cons se_int sa_nil))))))⟩, fun xs M Qa h => ?body⟩)
  case len => obtain ⟨p, cells, k, M1, M2, rfl, _⟩ := h; rfl
  case body =>
    obtain ⟨p, cells, k, M1, M2, rfl, rfl, hk, qq⟩ := h
    have fin : ∀ (cell : Int), ∀ (b : Bool) (a : Addr), Qa (.m a) ((a, .lst [.d (.int ((cell.natAbs : Int) * (if b then 1 else 0))), .d (.int (cell % 2305843009213693951 + 39373 * (k : Int) + 81865)), .d (.int 0)]) :: (M1 ++ (p, .lst (cells.map fun i => Va.d (.int i))) :: M2)) := fun cell b a => by
      have m := modB cell (m := 2305843009213693951) (by decide)
      have e2 : cell % 2305843009213693951 + 39373 * (k : Int) + 81865 = ((cell % 2305843009213693951 + 39373 * (k : Int) + 81865).toNat : Int) := by omega
      rw [e2]
      have hy : (cell % 2305843009213693951 + 39373 * (k : Int) + 81865).toNat < 2 ^ 64 := by omega
      cases b with
      | true =>
        have e1 : (cell.natAbs : Int) * (if true then 1 else 0) = ((cell.natAbs : Nat) : Int) := by simp
        rw [e1]
        exact qq a _ _ hy
      | false =>
        have e1 : (cell.natAbs : Int) * (if false then 1 else 0) = ((0 : Nat) : Int) := by simp
        rw [e1]
        exact qq a _ _ hy
    refine ⟨_, rfl, _, rfl, .inr (.inr ⟨p, _, M1, M2, rfl, rfl, _, _, rfl, rfl, _, rfl, iteB (fun e => ?_) (fun e => ?_)⟩)⟩
    · have e := of_decide_eq_true e
      rw [List.length_map] at e
      have hk2 : k < cells.length := by omega
      have hat : atI (cells.map fun i => Va.d (.int i)) (k : Int) = some (.d (.int cells[k])) := atI_nat _ _ _ (by rw [List.getElem?_map, List.getElem?_eq_getElem hk2]; rfl)
      refine ⟨_, rfl, _, rfl, p, _, _, _, M1, M2, rfl, rfl, rfl, hat, ?_⟩
      generalize cells[k] = cell
      exact ⟨_, rfl, _, rfl, _, rfl, _, rfl, _, _, rfl, rfl, ⟨by decide, by decide, by decide⟩, _, _, rfl, rfl, .inr ⟨_, rfl, _, _, rfl, rfl, cm01 _ _, _, rfl, .inl ⟨_, rfl, _, _, rfl, rfl, (show (0 : Int) < 2305843009213693951 by decide), _, rfl, _, _, rfl, rfl, mw (by decide) (by omega), _, _, rfl, rfl, _, _, rfl, rfl, (show 3 ≤ 1000000 by decide), fun a => ⟨_, Sub.refl _, fin cell _ a⟩⟩⟩⟩
    · exact ⟨_, rfl, _, rfl, _, rfl, _, rfl, _, _, rfl, rfl, ⟨by decide, by decide, by decide⟩, _, _, rfl, rfl, .inr ⟨_, rfl, _, _, rfl, rfl, cm01 _ _, _, rfl, .inl ⟨_, rfl, _, _, rfl, rfl, (show (0 : Int) < 2305843009213693951 by decide), _, rfl, _, _, rfl, rfl, mw (by decide) (by omega), _, _, rfl, rfl, _, _, rfl, rfl, (show 3 ≤ 1000000 by decide), fun a => ⟨_, Sub.refl _, fin 0 _ a⟩⟩⟩⟩

end
end LN
namespace LN
open PySem PySem.Spec PyProof.Rows L2 SlX

/-! ### sameness -/
def LeafB (d : PyData) : Prop := Leaf d ∨ ∃ b, d = .bool b
def SD : Nat → PyData → Prop
  | 0, d => LeafB d
  | n + 1, d => LeafB d ∨ ∃ ds, (d = .list ds ∨ d = .tuple ds) ∧ ds.length ≤ 100000 ∧ ∀ x ∈ ds, SD n x
def R_same (n : Nat) : AN := fun xs M Q => ∃ d, xs = [.d d, .d d] ∧ SD n d ∧ Q (.d (.bool true)) M
theorem eqv_bool (b : Bool) : PyData.eqv (.bool b) (.bool b) = true := by cases b <;> simp [PyData.eqv]
theorem zipD_self : ∀ ds : List PyData, zipD ds ds = ds.map fun x => .w [x, x]
  | [] => rfl
  | x :: ds => by
    show Va.w [x, x] :: zipD ds ds = _
    rw [zipD_self ds]; rfl
theorem leafB_lt {d : PyData} (h : LeafB d) : isLT d = false := by
  rcases h with h | ⟨b, h⟩
  · exact leaf_lt h
  · subst h; rfl
theorem sh_bool (b : Bool) : SeqAt.shaped (.bool b) = true := by cases b <;> decide +kernel
theorem sh_int (i : Int) : SeqAt.shaped (.int i) = true := pl_shaped (n := 0) (.inr (.inl ⟨i, rfl⟩))

section
variable {P : Program} {w : World} {K : Frg} {mg : Str → Option Value} {base : Heap}

abbrev N__law_same : List Str := ["_law_got", "_law_due", "_law_a_so", "_law_b_so"]
theorem sc__law_same : FnScope N__law_same ["_law_got", "_law_due"] (L2.defScope s__law_same) := ⟨rfl, rfl, rfl, by decide +kernel, rfl, by decide +kernel, by decide +kernel⟩
set_option maxHeartbeats 4000000 in
theorem kp_same_step {R0 R1 : AN} {k : Nat} (hlen : ∀ xs M Q, R1 xs M Q → xs.length = 2) (hR : ∀ xs M Q, R1 xs M Q → ∃ d, xs = [.d d, .d d] ∧ (LeafB d ∨ ∃ ds, (d = .list ds ∨ d = .tuple ds) ∧ ds.length ≤ 100000 ∧ ∀ x ∈ ds, ∀ (M : Sto) (Q : AQ), Q (.d (.bool true)) M → R0 [.d x, .d x] M Q) ∧ Q (.d (.bool true)) M) (T : Tx K mg) (c__law_same : Kp P w K mg base k (He.ga K "_law_same") ["_law_got", "_law_due"] R0) : Kp P w K mg base (k + 1) (He.ga K "_law_same") ["_law_got", "_law_due"] R1 := by
  refine kp_n (k := k) (T.def_ 48) sc__law_same (fun _ _ _ _ _ _ us hl => match us, hl with | [_, _], _ => rfl) (fun xs M Q h => ?len) (fun cdv A outer s H E hr => ⟨_, _, ⟨
    (pss_cons (ps_if (pt_val (pe_callB call_isiT (by rfl) (T.free 76) (by decide +kernel) (pa_cons (pv 1) (pa_cons (pe_tup (pa_cons (pe_bltn (v := .ty "list") (by rfl) (T.free 70) (by decide +kernel) rfl) (pa_cons (pe_bltn (v := .ty "tuple") (by rfl) (T.free 69) boot_tuple rfl) pa_nil))) pa_nil)))) (pss_cons (ps_if (pt_cmpR (op_neD hr.units) (pe_callB call_isi (by rfl) (T.free 76) (by decide +kernel) (pa_cons (pv 0) (pa_cons (pe_bltn (v := .ty "list") (by rfl) (T.free 70) (by decide +kernel) rfl) pa_nil))) (pe_callB call_isi (by rfl) (T.free 76) (by decide +kernel) (pa_cons (pv 1) (pa_cons (pe_bltn (v := .ty "list") (by rfl) (T.free 70) (by decide +kernel) rfl) pa_nil))) (nomark _)) (pss_one (ps_ret pe_bl)) pss_nil) (pss_cons (ps_if (pt_cmpR (op_neD hr.units) (pe_callB call_isi (by rfl) (T.free 76) (by decide +kernel) (pa_cons (pv 0) (pa_cons (pe_bltn (v := .ty "tuple") (by rfl) (T.free 69) boot_tuple rfl) pa_nil))) (pe_callB call_isi (by rfl) (T.free 76) (by decide +kernel) (pa_cons (pv 1) (pa_cons (pe_bltn (v := .ty "tuple") (by rfl) (T.free 69) boot_tuple rfl) pa_nil))) (nomark _)) (pss_one (ps_ret pe_bl)) pss_nil) (pss_one (ps_ret (pe_and (pe_cmpR (op_eqD hr.units) (pe_callB call_len_seq (by rfl) (T.free 68) PySem.boot_len (pa_cons (pv 0) pa_nil)) (pe_callB call_len_seq (by rfl) (T.free 68) PySem.boot_len (pa_cons (pv 1) pa_nil)) (nomark _)) (pe_one (pe_callB (cr_all rfl) (by rfl) (T.free 80) (by decide +kernel) (pa_cons (pe_lc (own := [("_law_a_so", 2), ("_law_b_so", 3)]) rfl sc__law_same.nd (RZ.pi_zipA (by rfl) (T.free 73) (pa_cons (pv 0) (pa_cons (pv 1) pa_nil))) (blkOk_by (N := N__law_same) (sc := L2.defScope s__law_same) (by decide +kernel)) (fun _ _ _ _ _ => (pg_tup (n := 2) rfl (pgs_cons (pg_name (i := 2) sc__law_same.nd rfl (Or.inl rfl)) (pgs_cons (pg_name (i := 3) sc__law_same.nd rfl (Or.inl rfl)) pgs_nil)))) (fun _ _ _ _ _ => pts_nil) (fun _ _ _ _ _ => (pe_def c__law_same hr (by rfl) (T.glo 34) (pa_cons (pv 2) (pa_cons (pv 3) pa_nil))))) pa_nil)))))))) pss_nil) (pss_cons (ps_if (PW.pt (pw_or (pt_cmpR op_isN (pv 1) pe_non (nomark _)) (pw_or1 (pt_val (pe_callB call_isiT (by rfl) (T.free 76) (by decide +kernel) (pa_cons (pv 1) (pa_cons (pe_tup (pa_cons (pe_bltn (v := .ty "bool") (by rfl) (T.free 83) (by decide +kernel) rfl) (pa_cons (pe_bltn (v := .ty "str") (by rfl) (T.free 79) (by decide +kernel) rfl) pa_nil))) pa_nil))))))) (pss_one (ps_ret (pe_and (pe_cmpR (op_eqD hr.units) (pv 0) (pv 1) (nomark _)) (pe_and (pe_cmpR (op_eqD hr.units) (pe_callB call_isi (by rfl) (T.free 76) (by decide +kernel) (pa_cons (pv 0) (pa_cons (pe_bltn (v := .ty "bool") (by rfl) (T.free 83) (by decide +kernel) rfl) pa_nil))) (pe_callB call_isi (by rfl) (T.free 76) (by decide +kernel) (pa_cons (pv 1) (pa_cons (pe_bltn (v := .ty "bool") (by rfl) (T.free 83) (by decide +kernel) rfl) pa_nil))) (nomark _)) (pe_one (pe_cmpR (op_eqD hr.units) (pe_cmpR op_isN (pv 0) pe_non (nomark _)) (pe_cmpR op_isN (pv 1) pe_non (nomark _)) (nomark _))))))) pss_nil) (pss_one (ps_ret (pe_and (pe_callB call_isi (by rfl) (T.free 76) (by decide +kernel) (pa_cons (pv 0) (pa_cons (pe_bltn (v := .ty "int") (by rfl) (T.free 78) (by decide +kernel) rfl) pa_nil))) (pe_and (pe_not (pe_callB call_isi (by rfl) (T.free 76) (by decide +kernel) (pa_cons (pv 0) (pa_cons (pe_bltn (v := .ty "bool") (by rfl) (T.free 83) (by decide +kernel) rfl) pa_nil)))) (pe_one (pe_cmpR (op_eqD hr.units) (pv 0) (pv 1) (nomark _))))))))),
    (ss_seq (ss_if (st_B (se_isiT2 kLT se_var)) (ss_seq (ss_if (st_T (se_op s2_ne (se_isi1 kL se_var) (se_isi1 kL se_var))) (ss_ret se_bl) ss_next) (ss_seq (ss_if (st_T (se_op s2_ne (se_isi1 kT se_var) (se_isi1 kT se_var))) (ss_ret se_bl) ss_next) (ss_ret (se_andV (se_op s2_eq (se_cb sn_len (sa_cons se_var sa_nil)) (se_cb sn_len (sa_cons se_var sa_nil))) (se_cb sn_all (sa_cons (se_lc (si_zipA (sa_cons se_var (sa_cons se_var sa_nil))) (sg_tup (sgs_cons sg_nm (sgs_cons sg_nm sgs_nil))) (wg_tup (wgs_cons (wg_nm (by decide)) (wgs_cons (wg_nm (by decide)) wgs_nil))) st_yes' (se_call (sa_cons se_var (sa_cons se_var sa_nil)))) sa_nil)))))) ss_next) (ss_seq (ss_if (st_or (st_T (se_op s2_is se_var se_non)) (st_B (se_isiT2 kBS se_var))) (ss_ret (se_andV (se_op s2_eq se_var se_var) (se_andV (se_op s2_eq (se_isi1 kB se_var) (se_isi1 kB se_var)) (se_op s2_eq (se_op s2_is se_var se_non) (se_op s2_is se_var se_non))))) ss_next) (ss_ret (se_andV (se_isi1 kI se_var) (se_andV (se_notV (se_isi1 kB se_var)) (se_op s2_eq se_var se_var))))))⟩, fun xs M Qa h => ?body⟩)
  case len => exact hlen _ _ _ h
  case body =>
    obtain ⟨d, rfl, h, q⟩ := hR _ _ _ h
    refine ⟨_, rfl, _, rfl, _, rfl, iteB (fun c => ?_) (fun c => ?_)⟩
    · rcases h with h | ⟨ds, hd, hl, hx⟩
      · rw [leafB_lt h] at c; cases c
      · refine ⟨_, rfl, _, rfl, _, rfl, _, rfl, _, _, rfl, rfl, sh_bool _, sh_bool _, _, rfl, iteB (fun z => absurd z (by rw [eqv_bool]; decide)) (fun _ => ?_)⟩
        refine ⟨_, rfl, _, rfl, _, rfl, _, rfl, _, _, rfl, rfl, sh_bool _, sh_bool _, _, rfl, iteB (fun z => absurd z (by rw [eqv_bool]; decide)) (fun _ => ?_)⟩
        have fin : ∀ M', M' = M → (∃ bs, [Va.d (.list (ds.map fun _ => PyData.bool true))] = [.d (.list (boolsD bs))] ∧ ∃ M1, Sub M1 M' ∧ Qa (.d (.bool (bs.all id))) M1) := fun M' e => by
          subst e
          refine ⟨ds.map fun _ => true, by unfold boolsD; rw [List.map_map]; rfl, _, Sub.refl _, ?_⟩
          rw [show (ds.map fun _ => true).all id = true by simp]
          exact q
        have lc : ∀ {β : AA} {ρ : AEnv}, True := trivial
        rcases hd with rfl | rfl
        · refine ⟨_, rfl, .inl ⟨ds, rfl, _, rfl, .inl ⟨ds, rfl, _, _, rfl, rfl, sh_int _, sh_int _, _, rfl, iteB (fun _ => ?_) (fun z => absurd z (by rw [id, eqv_int]; simp))⟩⟩⟩
          refine ⟨_, rfl, _, rfl, ds, ds, .inl rfl, ?_⟩
          rw [zipD_self]
          refine lcS ds (fun x => .w [x, x]) (fun _ => .bool true) (by omega) (fun x hx2 p Z hZ => ?_) (fin _ rfl)
          exact ⟨_, rfl, rfl, _, _, rfl, _, _, rfl, rfl, _, rfl, _, rfl, hx x hx2 (p :: M) _ ⟨_, _, rfl, Sub.refl _, rfl, hZ⟩⟩
        · refine ⟨_, rfl, .inr (.inl ⟨ds, rfl, _, rfl, .inr (.inl ⟨ds, rfl, _, _, rfl, rfl, sh_int _, sh_int _, _, rfl, iteB (fun _ => ?_) (fun z => absurd z (by rw [id, eqv_int]; simp))⟩)⟩)⟩
          refine ⟨_, rfl, _, rfl, ds, ds, .inr rfl, ?_⟩
          rw [zipD_self]
          refine lcS ds (fun x => .w [x, x]) (fun _ => .bool true) (by omega) (fun x hx2 p Z hZ => ?_) (fin _ rfl)
          exact ⟨_, rfl, rfl, _, _, rfl, _, _, rfl, rfl, _, rfl, _, rfl, hx x hx2 (p :: M) _ ⟨_, _, rfl, Sub.refl _, rfl, hZ⟩⟩
    · have hb : LeafB d := by
        rcases h with h | ⟨ds, hd, _, _⟩
        · exact h
        · rcases hd with rfl | rfl <;> cases c
      have shd : SeqAt.shaped d = true := by
        rcases hb with h | ⟨b, rfl⟩
        · exact pl_shaped (n := 0) h
        · exact sh_bool b
      have eqd : PyData.eqv d d = true := by
        rcases hb with h | ⟨b, rfl⟩
        · exact (eqv_pl 0 0 d d h h).mpr rfl
        · exact eqv_bool b
      refine ⟨_, rfl, _, rfl, rfl, _, rfl, iteB (fun c1 => iteB (fun _ => ?_) (fun z => nomatch z)) (fun c1 => ⟨_, rfl, _, rfl, _, rfl, iteB (fun c2 => ?_) (fun c2 => ?_)⟩)⟩
      · refine ⟨_, rfl, _, rfl, _, _, rfl, rfl, shd, shd, _, rfl, iteB (fun _ => ?_) (fun z => absurd z (by rw [id, eqd]; decide))⟩
        refine ⟨_, rfl, _, rfl, _, rfl, _, rfl, _, _, rfl, rfl, sh_bool _, sh_bool _, _, rfl, iteB (fun _ => ?_) (fun z => absurd z (by rw [id, eqv_bool]; decide))⟩
        refine ⟨_, rfl, _, rfl, rfl, _, rfl, _, rfl, rfl, _, _, rfl, rfl, sh_bool _, sh_bool _, _, Sub.refl _, ?_⟩
        rw [id, eqv_bool]; exact q
      · refine ⟨_, rfl, _, rfl, _, _, rfl, rfl, shd, shd, _, rfl, iteB (fun _ => ?_) (fun z => absurd z (by rw [id, eqd]; decide))⟩
        refine ⟨_, rfl, _, rfl, _, rfl, _, rfl, _, _, rfl, rfl, sh_bool _, sh_bool _, _, rfl, iteB (fun _ => ?_) (fun z => absurd z (by rw [id, eqv_bool]; decide))⟩
        refine ⟨_, rfl, _, rfl, rfl, _, rfl, _, rfl, rfl, _, _, rfl, rfl, sh_bool _, sh_bool _, _, Sub.refl _, ?_⟩
        rw [id, eqv_bool]; exact q
      · have hi : ∃ i, d = .int i := by
          rcases hb with (h | ⟨i, h⟩ | ⟨x, h, _⟩) | ⟨b, h⟩
          · subst h; cases c1
          · exact ⟨i, h⟩
          · subst h; cases c2
          · subst h; cases c2
        obtain ⟨i, rfl⟩ := hi
        refine ⟨_, rfl, _, rfl, _, rfl, iteB (fun _ => ?_) (fun z => nomatch z)⟩
        refine ⟨_, rfl, _, rfl, _, rfl, _, rfl, iteB (fun _ => ?_) (fun z => nomatch z)⟩
        refine ⟨_, rfl, _, rfl, _, _, rfl, rfl, shd, shd, _, Sub.refl _, ?_⟩
        rw [id, eqd]; exact q

theorem kp_same_no (T : Tx K mg) : Kp P w K mg base 1 (He.ga K "_law_same") ["_law_got", "_law_due"] R_never := by
  obtain ⟨fd, Fn⟩ := T.def_ (K := K) (mg := mg) 48
  exact ⟨⟨fd, Fn.ok (N := N__law_same) sc__law_same (fun vs H Q E h => (by obtain ⟨_, _, _, _, _, _, z, _⟩ := h; exact z.elim)) (fun cdv A outer s H vs Q E hr h => (by obtain ⟨_, _, _, _, _, _, z, _⟩ := h; exact z.elim)),
    Fn.bindsN (fun _ _ _ _ _ _ us hl => match us, hl with | [_, _], _ => rfl)⟩, Fn.kp⟩
theorem kp_same (T : Tx K mg) : ∀ n : Nat, Kp P w K mg base (n + 2) (He.ga K "_law_same") ["_law_got", "_law_due"] (R_same n)
  | 0 => kp_same_step (R0 := R_never) (k := 1) (fun xs M Q h => by obtain ⟨d, rfl, _⟩ := h; rfl) (fun xs M Q h => by
      obtain ⟨d, e, h, q⟩ := h
      exact ⟨d, e, .inl h, q⟩) T (kp_same_no T)
  | n + 1 => kp_same_step (R0 := R_same n) (k := n + 2) (fun xs M Q h => by obtain ⟨d, rfl, _⟩ := h; rfl) (fun xs M Q h => by
      obtain ⟨d, e, h, q⟩ := h
      refine ⟨d, e, ?_, q⟩
      rcases h with h | ⟨ds, e2, hl, hx⟩
      · exact .inl h
      · exact .inr ⟨ds, e2, hl, fun x hx2 M Q q => ⟨x, rfl, hx x hx2, q⟩⟩) T (kp_same T n)
theorem sd_leaf {n : Nat} {d : PyData} (h : LeafB d) : SD n d := by
  cases n with
  | zero => exact h
  | succ n => exact .inl h
theorem sd_str {n : Nat} {x : Str} (h : StrOk x) : SD n (.str x) := sd_leaf (.inl (.inr (.inr ⟨x, rfl, h⟩)))
theorem sd_int {n : Nat} (i : Int) : SD n (.int i) := sd_leaf (.inl (.inr (.inl ⟨i, rfl⟩)))
theorem sd_bool {n : Nat} (b : Bool) : SD n (.bool b) := sd_leaf (.inr ⟨b, rfl⟩)
theorem sd_tup {n : Nat} {ds : List PyData} (hl : ds.length ≤ 100000) (h : ∀ x ∈ ds, SD n x) : SD (n + 1) (.tuple ds) := .inr ⟨_, .inr rfl, hl, h⟩
theorem sd_lst {n : Nat} {ds : List PyData} (hl : ds.length ≤ 100000) (h : ∀ x ∈ ds, SD n x) : SD (n + 1) (.list ds) := .inr ⟨_, .inl rfl, hl, h⟩
theorem sd_fr {n : Nat} (q : Rat) : SD (n + 1) (fr q) := sd_tup (show 2 ≤ 100000 by decide) fun x hx => by
  simp only [List.mem_cons, List.not_mem_nil, or_false] at hx
  rcases hx with e | e <;> subst e <;> exact sd_int _
theorem sd_shs {n : Nat} {s : Shs} (hl : s.length ≤ 100000) (h : s.Ok) : SD (n + 3) (shsD s) := sd_tup (by unfold itemsD; rw [List.length_map, List.length_map]; exact hl) fun x hx => by
  unfold itemsD at hx
  rw [List.map_map] at hx
  obtain ⟨p, hp, rfl⟩ := List.mem_map.mp hx
  refine sd_tup (show 2 ≤ 100000 by decide) fun y hy => ?_
  simp only [List.mem_cons, List.not_mem_nil, or_false] at hy
  rcases hy with e | e <;> subst e
  · exact sd_str (h p hp)
  · exact sd_fr _

end
end LN
namespace LN
open PySem PySem.Spec PyProof.Rows L2 SlX

def intsD (l : List Int) : List PyData := l.map .int
def intsV (l : List Int) : List Va := l.map fun i => Va.d (.int i)
theorem intsV_eq (l : List Int) : (intsD l).map Va.d = intsV l := by unfold intsD intsV; rw [List.map_map]; rfl
theorem cut_mid {α : Type} (xs : List α) (p q : Nat) : ∃ m, cutD xs (some (p : Int)) (some (q : Int)) = (xs.drop p).take m ∧ m ≤ q - p := by
  unfold cutD
  rw [sx_nat, sx_nat]
  by_cases h : p ≤ xs.length
  · exact ⟨_, by rw [Nat.min_eq_left h], by omega⟩
  · refine ⟨0, ?_, by omega⟩
    rw [Nat.min_eq_right (a := p) (by omega), List.drop_of_length_le (Nat.le_refl _), List.take_nil, List.take_zero]
theorem ix3 {n k : Nat} (h : k < n) : ixN n (k : Int) = some k := by
  unfold ixN
  rw [if_pos (show 0 ≤ (k : Int) by omega), if_pos (show (k : Int) < (n : Int) by omega), Int.toNat_natCast]
theorem intsV_get {l : List Int} {k : Nat} (h : k < l.length) : (intsV l)[k]? = some (.d (.int l[k])) := by
  unfold intsV
  rw [List.getElem?_map, List.getElem?_eq_getElem h]; rfl
theorem intsV_set (l : List Int) (k : Nat) (i : Int) : (intsV l).set k (.d (.int i)) = intsV (l.set k i) := by
  unfold intsV
  rw [List.map_set]
theorem intsV_len (l : List Int) : (intsV l).length = l.length := by unfold intsV; rw [List.length_map]

section
variable {P : Program} {w : World} {K : Frg} {mg : Str → Option Value} {base : Heap}

def R_cells : AN := fun xs M Q => ∃ l : List Int, xs = [.d (.list (intsD l)), .d (.int (3 : Int))] ∧ ∀ p c, 1 ≤ c.length → c.length ≤ 3 → Q (.m p) ((p, .lst (intsV c)) :: M)
abbrev N__law_cells : List Str := ["_law_script", "_law_top_so", "_law_cells_so", "_law_k", "_law_cell", "_law_at_so"]
theorem sc__law_cells : FnScope N__law_cells ["_law_script", "_law_top_so"] (L2.defScope s__law_cells) := ⟨rfl, rfl, rfl, by decide +kernel, rfl, by decide +kernel, by decide +kernel⟩
set_option maxHeartbeats 4000000 in
theorem kp__law_cells (T : Tx K mg) : Kp P w K mg base 1 (He.ga K "_law_cells") ["_law_script", "_law_top_so"] R_cells := by
  refine kp_n (k := 0) (T.def_ 46) sc__law_cells (fun _ _ _ _ _ _ us hl => match us, hl with | [_, _], _ => rfl) (fun xs M Q h => ?len) (fun cdv A outer s H E hr => ⟨_, _, ⟨
    (pss_cons (ps_set (i := 2) sc__law_cells.nd rfl (Or.inl rfl) (pe_orT (pe_callTy call_list_of (by rfl) (T.free 70) (by decide +kernel) (pa_cons (pe_slice (SlR.or sl_list sl_tupS) (pv 0) po_none (po_some (pv 1))) pa_nil)) (pe_one (pe_lst (pa_cons pe_int pa_nil))))) (pss_cons (ps_for PassesOwn.never rfl (pi_enum (by rfl) (T.free 74) (pa_cons (pe_slice (SlR.or sl_list sl_tupS) (pv 0) (po_some (pv 1)) (po_some pe_int)) pa_nil)) (pg_tup (n := 2) rfl (pgs_cons (pg_name (i := 3) sc__law_cells.nd rfl (Or.inl rfl)) (pgs_cons (pg_name (i := 4) sc__law_cells.nd rfl (Or.inl rfl)) pgs_nil))) (pss_cons (ps_set (i := 5) sc__law_cells.nd rfl (Or.inl rfl) (pe_op op_mod (pe_callTy call_int1 (by rfl) (T.free 78) (by decide +kernel) (pa_cons (pv 3) pa_nil)) (pv 1))) (pss_one (ps_asg (pe_op op_add (pe_ix ix_seq (pv 2) (pv 5) (fun _ _ => rfl)) (pe_op op_mul (pv 4) (pe_op op_add (pv 3) pe_int))) (pg_sub (pv 2) (pv 5) set_list))))) (pss_one (ps_ret (pv 2))))),
    (ss_seq (ss_asg (se_orT (se_cb sn_list (sa_cons (se_sl se_var so_none (so_some se_var)) sa_nil)) (se_lstM (sa_cons se_int sa_nil))) sg_nm) (ss_seq (ss_for (si_enum (sa_cons (se_sl se_var (so_some se_var) (so_some se_int)) sa_nil)) (sg_tup (sgs_cons sg_nm (sgs_cons sg_nm sgs_nil))) (ss_seq (ss_asg (se_op s2_I (se_cb sn_int (sa_cons se_var sa_nil)) se_var) sg_nm) (ss_asg (se_op s2_I0 (se_op s2_ixM se_var se_var) (se_op s2_I se_var (se_op s2_I0 se_var se_int))) (sg_ls se_var se_var)))) (ss_ret se_var)))⟩, fun xs M Qa h => ?body⟩)
  case len => obtain ⟨l, rfl, _⟩ := h; rfl
  case body =>
    obtain ⟨l, rfl, q⟩ := h
    have e3 : cutD (intsD l) none (some (3 : Int)) = intsD (l.take 3) := by
      rw [show (3 : Int) = ((3 : Nat) : Int) from rfl, cut_to]
      unfold intsD
      rw [List.map_take]
    refine ⟨_, rfl, _, rfl, _, rfl, .inr (.inl ⟨_, rfl, _, .inl rfl, fun p => ⟨p, _, [], M, rfl, rfl, iteB (fun z => ?_) (fun z => ?_)⟩⟩)⟩
    · have l0 : l = [] := by
        rw [e3] at z
        cases l with
        | nil => rfl
        | cons _ _ => cases z
      refine ⟨(show 1 ≤ 1000000 by decide), fun p2 => ?_⟩
      refine ⟨_, rfl, _, rfl, _, rfl, _, rfl, .inr (.inl ⟨_, rfl, _, rfl, ?_⟩)⟩
      obtain ⟨m, em, hm⟩ := cut_mid (intsD l) 3 63
      have em' : cutD (intsD l) (some (3 : Int)) (some (63 : Int)) = ((intsD l).drop 3).take m := em
      rw [em']
      have ex : ((intsD l).drop 3).take m = intsD ((l.drop 3).take m) := by unfold intsD; rw [List.map_take, List.map_drop]
      have hx : ((l.drop 3).take m).length ≤ 60 := by rw [List.length_take]; omega
      have hx3 : (l.drop 3).take m ≠ [] → 3 < l.length := fun z => by
        have z2 := List.length_pos_iff.mpr z
        rw [List.length_take, List.length_drop] at z2
        omega
      rw [ex]
      generalize (l.drop 3).take m = xs at hx hx3
      refine ⟨fun rest ρ M' => ∃ (j : Nat) (xs : List Int) (c : List Int) (u v y : Option Va), rest = enumD j (intsD xs) ∧ ρ = [some (.d (.list (intsD l))), some (.d (.int (3 : Int))), some (.m p2), u, v, y] ∧ M' = (p2, .lst (intsV c)) :: ((p, .lst _) :: M) ∧ 1 ≤ c.length ∧ c.length ≤ 3 ∧ (xs ≠ [] → c.length = 3) ∧ j + xs.length ≤ 60, ⟨0, xs, [0], none, none, none, rfl, rfl, rfl, by decide, by decide, fun z => absurd (hx3 z) (by rw [l0]; decide), by omega⟩, ?_, ?_⟩
      · rintro d r ρ M' ⟨j, xs, c, u, v, y, e1, rfl, rfl, hc1, hc2, hc3, hj⟩
        match xs, e1, hc3, hj with
        | i :: xs, e1, hc3, hj =>
          have e1' : d :: r = .w [.int (j : Int), .int i] :: enumD (j + 1) (intsD xs) := e1
          injection e1' with e4 e5
          subst e4
          have c3 : c.length = 3 := hc3 (by simp)
          have hk : j % 3 < c.length := by omega
          simp only [List.length_cons] at hj
          refine ⟨_, rfl, rfl, _, _, rfl, _, _, rfl, rfl, ?_⟩
          refine ⟨_, rfl, .inl ⟨_, rfl, _, rfl, _, _, rfl, rfl, (by decide : (0 : Int) < 3), ?_⟩⟩
          have ej : (j : Int) % 3 = ((j % 3 : Nat) : Int) := by omega
          have hat : atI (intsV c) ((j : Int) % 3) = some (.d (.int c[j % 3])) := by rw [ej]; exact atI_nat _ _ _ (intsV_get hk)
          refine ⟨_, rfl, _, rfl, p2, _, _, _, [], _, rfl, rfl, rfl, hat, _, rfl, _, rfl, _, _, rfl, rfl, _, _, rfl, rfl, .inr ⟨by omega, by omega⟩, _, _, rfl, rfl, _, rfl, _, rfl, p2, _, _, j % 3, [], _, rfl, rfl, rfl, by rw [intsV_len, ej]; exact ix3 hk, ?_⟩
          rw [intsV_set]
          exact ⟨j + 1, xs, _, _, _, _, e5, rfl, rfl, by rw [List.length_set]; exact hc1, by rw [List.length_set]; exact hc2, fun _ => by rw [List.length_set]; exact c3, by omega⟩
      · rintro ρ M' ⟨j, xs, c, u, v, y, e1, rfl, rfl, hc1, hc2, hc3, hj⟩
        exact ⟨_, rfl, _, ⟨[(p, _)], .swap _ _ _⟩, q p2 c hc1 hc2⟩
    · have l1 : 1 ≤ (l.take 3).length := by
        cases l with
        | nil => rw [e3] at z; cases z
        | cons _ _ => simp
      have l2 : (l.take 3).length ≤ 3 := by rw [List.length_take]; omega
      rw [e3, intsV_eq]
      refine ⟨_, rfl, _, rfl, _, rfl, _, rfl, .inr (.inl ⟨_, rfl, _, rfl, ?_⟩)⟩
      obtain ⟨m, em, hm⟩ := cut_mid (intsD l) 3 63
      have em' : cutD (intsD l) (some (3 : Int)) (some (63 : Int)) = ((intsD l).drop 3).take m := em
      rw [em']
      have ex : ((intsD l).drop 3).take m = intsD ((l.drop 3).take m) := by unfold intsD; rw [List.map_take, List.map_drop]
      have hx : ((l.drop 3).take m).length ≤ 60 := by rw [List.length_take]; omega
      have hx3 : (l.drop 3).take m ≠ [] → 3 < l.length := fun z => by
        have z2 := List.length_pos_iff.mpr z
        rw [List.length_take, List.length_drop] at z2
        omega
      rw [ex]
      generalize (l.drop 3).take m = xs at hx hx3
      refine ⟨fun rest ρ M' => ∃ (j : Nat) (xs : List Int) (c : List Int) (u v y : Option Va), rest = enumD j (intsD xs) ∧ ρ = [some (.d (.list (intsD l))), some (.d (.int (3 : Int))), some (.m p), u, v, y] ∧ M' = (p, .lst (intsV c)) :: (M) ∧ 1 ≤ c.length ∧ c.length ≤ 3 ∧ (xs ≠ [] → c.length = 3) ∧ j + xs.length ≤ 60, ⟨0, xs, l.take 3, none, none, none, rfl, rfl, rfl, l1, l2, fun z => by have := hx3 z; rw [List.length_take]; omega, by omega⟩, ?_, ?_⟩
      · rintro d r ρ M' ⟨j, xs, c, u, v, y, e1, rfl, rfl, hc1, hc2, hc3, hj⟩
        match xs, e1, hc3, hj with
        | i :: xs, e1, hc3, hj =>
          have e1' : d :: r = .w [.int (j : Int), .int i] :: enumD (j + 1) (intsD xs) := e1
          injection e1' with e4 e5
          subst e4
          have c3 : c.length = 3 := hc3 (by simp)
          have hk : j % 3 < c.length := by omega
          simp only [List.length_cons] at hj
          refine ⟨_, rfl, rfl, _, _, rfl, _, _, rfl, rfl, ?_⟩
          refine ⟨_, rfl, .inl ⟨_, rfl, _, rfl, _, _, rfl, rfl, (by decide : (0 : Int) < 3), ?_⟩⟩
          have ej : (j : Int) % 3 = ((j % 3 : Nat) : Int) := by omega
          have hat : atI (intsV c) ((j : Int) % 3) = some (.d (.int c[j % 3])) := by rw [ej]; exact atI_nat _ _ _ (intsV_get hk)
          refine ⟨_, rfl, _, rfl, p, _, _, _, [], _, rfl, rfl, rfl, hat, _, rfl, _, rfl, _, _, rfl, rfl, _, _, rfl, rfl, .inr ⟨by omega, by omega⟩, _, _, rfl, rfl, _, rfl, _, rfl, p, _, _, j % 3, [], _, rfl, rfl, rfl, by rw [intsV_len, ej]; exact ix3 hk, ?_⟩
          rw [intsV_set]
          exact ⟨j + 1, xs, _, _, _, _, e5, rfl, rfl, by rw [List.length_set]; exact hc1, by rw [List.length_set]; exact hc2, fun _ => by rw [List.length_set]; exact c3, by omega⟩
      · rintro ρ M' ⟨j, xs, c, u, v, y, e1, rfl, rfl, hc1, hc2, hc3, hj⟩
        exact ⟨_, rfl, _, .refl _, q p c hc1 hc2⟩

end
end LN
namespace LN
open PySem PySem.Spec PyProof.Rows L2 SlX
/-! ### a drawn net, part by part -/
/-- a limit that may still be raised by a half -/
def WL : Part → Prop
  | .weir _ q _ _ => q ≤ 10000
  | _ => True
structure Nc (found : List Part) (here spare : List Str) : Prop where
  val : Valid found
  nm : ∀ p ∈ found, ∀ n ∈ p.ins ++ p.outs, NmS n
  pg : ∀ p ∈ found, PG p
  perm : here.Perm (leftOf found)
  hn : ∀ n ∈ here, NmS n
  snd : spare.Nodup
  sm : ∀ n ∈ spare, n ∉ madeOf found ∧ NmS n
  lt : ∀ n ∈ madeOf found, n = "in" ∨ n.length = 1
  sl : ∀ n ∈ spare, n.length = 1
  wl : ∀ p ∈ found, WL p
theorem nc0 {spare : List Str} (h : spare.Nodup) (k : ∀ n ∈ spare, NmS n ∧ n ≠ "in") (k1 : ∀ n ∈ spare, n.length = 1) : Nc [] [("in" : Str)] spare :=
  ⟨valid_nil, by simp, by simp, .refl _, fun n hn => by rw [List.mem_singleton.mp hn]; exact ⟨by decide +kernel, by decide⟩, h, fun n hn => ⟨fun z => (k n hn).2 (List.mem_singleton.mp z), (k n hn).1⟩, fun n hn => .inl (List.mem_singleton.mp hn), k1, by simp⟩
theorem Nc.nice {found : List Part} {here spare : List Str} (h : Nc found here spare) (hl : found.length ≤ 8) : Nice found := ⟨h.val, h.nm, h.pg, hl⟩
/-- what _law_parts draws -/
structure Drawn (ps : List Part) : Prop where
  nice : Nice ps
  six : ps.length ≤ 6
  lt : ∀ n ∈ madeOf ps, n = "in" ∨ n.length = 1
  wl : ∀ p ∈ ps, WL p
theorem Nc.drawn {found : List Part} {here spare : List Str} (h : Nc found here spare) (hl : found.length ≤ 6) : Drawn found := ⟨h.nice (by omega), hl, h.lt, h.wl⟩
theorem Nc.ne {found : List Part} {here spare : List Str} (h : Nc found here spare) : here ≠ [] := fun e => by
  have hp := h.perm
  rw [e] at hp
  have e2 : leftOf found = [] := List.nil_perm.mp hp
  have hq : ∀ p ∈ found, QOk p := fun p hp => (h.pg p hp).q
  have hpos : 0 < (found.foldl takeS st0).es.length := List.length_pos_of_mem (asc_non (net_ok found h.val hq).1.asc)
  have := left_sum found h.val hq 0 hpos
  rw [e2] at this
  exact absurd (show (0 : Rat) = 1 from this) (by decide)
theorem Nc.own {found : List Part} {here spare : List Str} (h : Nc found here spare) {a : Str} (ha : a ∈ here) : a ∈ leftOf found ∧ a ∈ madeOf found ∧ a ∉ takenOf found := by
  have h1 := h.perm.mem_iff.mp ha
  exact ⟨h1, ((left_facts found h.val).2.1 a).mp h1⟩
theorem cons_erase {l : List Str} {i : Nat} (h : i < l.length) : (l[i] :: l.eraseIdx i).Perm l := by
  have e : l.take i ++ l[i] :: l.drop (i + 1) = l := by rw [← List.drop_eq_getElem_cons h, List.take_append_drop]
  rw [List.eraseIdx_eq_take_drop_succ]
  refine List.perm_middle.symm.trans ?_
  rw [e]
theorem erase_perm {l : List Str} {i : Nat} (h : i < l.length) : (l.eraseIdx i).Perm (l.erase l[i]) := by
  have h1 : (l[i] :: l.eraseIdx i).Perm l := cons_erase h
  have h2 := h1.erase l[i]
  rw [List.erase_cons_head] at h2
  exact h2
theorem nc_two {found : List Part} {here spare : List Str} {i : Nat} {t r : Str} {p : Part} (h : Nc found here (t :: r :: spare)) (hi : i < here.length) (e1 : p.ins = [here[i]]) (e2 : p.outs = [t, r]) (e3 : leftStep (leftOf found) p = (leftOf found).erase here[i] ++ [t, r]) (hp : PG p) (hw : WL p) : Nc (found ++ [p]) (here.eraseIdx i ++ [t, r]) spare := by
  have ha := List.getElem_mem hi
  obtain ⟨a1, a2, a3⟩ := h.own ha
  have ht := h.sm t List.mem_cons_self
  have hr := h.sm r (List.mem_cons_of_mem _ List.mem_cons_self)
  have nd := h.snd
  rw [List.nodup_cons, List.nodup_cons] at nd
  have htr : t ≠ r := fun z => nd.1 (by rw [z]; exact List.mem_cons_self)
  have mem : ∀ {X : Part → Prop}, (∀ p ∈ found, X p) → X p → ∀ q ∈ found ++ [p], X q := fun h1 h2 q hq => by
    rcases List.mem_append.mp hq with z | z
    · exact h1 q z
    · rw [List.mem_singleton.mp z]; exact h2
  have two : ∀ n, n ∈ [t, r] → n = t ∨ n = r := fun n hn => by simpa using hn
  have mm : madeOf (found ++ [p]) = madeOf found ++ [t, r] := by rw [made_snoc, e2]
  refine ⟨valid_of_snoc h.val ⟨by rw [e1]; simp, by rw [e2]; simpa using htr, fun n hn => ?_, fun n hn => ?_, fun n hn => ?_⟩, mem h.nm fun n hn => ?_, mem h.pg hp, ?_, fun n hn => ?_, nd.2.2, fun n hn => ?_, fun n hn => ?_, fun n hn => h.sl n (List.mem_cons_of_mem _ (List.mem_cons_of_mem _ hn)), mem h.wl hw⟩
  · rw [e1, List.mem_singleton] at hn
    rw [hn]; exact a2
  · rw [e1, List.mem_singleton] at hn
    rw [hn]; exact a3
  · rw [e2] at hn
    rcases two n hn with z | z <;> rw [z]
    · exact ht.1
    · exact hr.1
  · rw [e1, e2] at hn
    rcases List.mem_cons.mp hn with z | z
    · rw [z]; exact h.hn _ ha
    · rcases two n z with z | z <;> rw [z]
      · exact ht.2
      · exact hr.2
  · unfold leftOf
    rw [fold_snoc]
    show (here.eraseIdx i ++ [t, r]).Perm (leftStep (leftOf found) p)
    rw [e3]
    exact (((erase_perm hi).trans (h.perm.erase _))).append_right [t, r]
  · rcases List.mem_append.mp hn with z | z
    · exact h.hn n (List.mem_of_mem_eraseIdx z)
    · rcases two n z with z | z <;> rw [z]
      · exact ht.2
      · exact hr.2
  · have := h.sm n (List.mem_cons_of_mem _ (List.mem_cons_of_mem _ hn))
    refine ⟨?_, this.2⟩
    rw [mm, List.mem_append]
    rintro (z | z)
    · exact this.1 z
    · rcases two n z with z | z
      · exact nd.1 (by rw [← z]; exact List.mem_cons_of_mem _ hn)
      · exact nd.2.1 (by rw [← z]; exact hn)
  · rw [mm, List.mem_append] at hn
    rcases hn with z | z
    · exact h.lt n z
    · rcases two n z with z | z <;> rw [z]
      · exact .inr (h.sl t List.mem_cons_self)
      · exact .inr (h.sl r (List.mem_cons_of_mem _ List.mem_cons_self))
theorem nc_join {found : List Part} {here spare : List Str} {i j : Nat} {t : Str} (h : Nc found here (t :: spare)) (hi : i < here.length) (hj : j < (here.eraseIdx i).length) : Nc (found ++ [.join here[i] (here.eraseIdx i)[j] t]) ((here.eraseIdx i).eraseIdx j ++ [t]) spare := by
  have ha := List.getElem_mem hi
  have hb0 := List.getElem_mem hj
  have hb : (here.eraseIdx i)[j] ∈ here := List.mem_of_mem_eraseIdx hb0
  obtain ⟨a1, a2, a3⟩ := h.own ha
  obtain ⟨b1, b2, b3⟩ := h.own hb
  have hnd : here.Nodup := h.perm.nodup_iff.mpr (left_facts found h.val).1
  have hab : here[i] ≠ (here.eraseIdx i)[j] := fun z => by
    have h2 := (cons_erase hi).nodup_iff.mpr hnd
    rw [List.nodup_cons] at h2
    exact h2.1 (by rw [z]; exact hb0)
  generalize hbe : (here.eraseIdx i)[j] = b at *
  have ht := h.sm t List.mem_cons_self
  have nd := h.snd
  rw [List.nodup_cons] at nd
  have mem : ∀ {X : Part → Prop} {p : Part}, (∀ p ∈ found, X p) → X p → ∀ q ∈ found ++ [p], X q := fun h1 h2 q hq => by
    rcases List.mem_append.mp hq with z | z
    · exact h1 q z
    · rw [List.mem_singleton.mp z]; exact h2
  have mm : madeOf (found ++ [.join here[i] b t]) = madeOf found ++ [t] := made_snoc _ _
  refine ⟨valid_of_snoc h.val ⟨by simpa [Part.ins] using hab, by simp [Part.outs], fun n hn => ?_, fun n hn => ?_, fun n hn => ?_⟩, mem h.nm fun n hn => ?_, mem h.pg trivial, ?_, fun n hn => ?_, nd.2, fun n hn => ?_, fun n hn => ?_, fun n hn => h.sl n (List.mem_cons_of_mem _ hn), mem h.wl trivial⟩
  · simp only [Part.ins, List.mem_cons, List.not_mem_nil, or_false] at hn
    rcases hn with z | z <;> rw [z] <;> assumption
  · simp only [Part.ins, List.mem_cons, List.not_mem_nil, or_false] at hn
    rcases hn with z | z <;> rw [z] <;> assumption
  · rw [List.mem_singleton.mp hn]; exact ht.1
  · simp only [Part.ins, Part.outs, List.cons_append, List.nil_append, List.mem_cons, List.not_mem_nil, or_false] at hn
    rcases hn with z | z | z <;> rw [z]
    · exact h.hn _ ha
    · exact h.hn _ hb
    · exact ht.2
  · unfold leftOf
    rw [fold_snoc]
    show ((here.eraseIdx i).eraseIdx j ++ [t]).Perm (((leftOf found).erase here[i]).erase b ++ [t])
    refine List.Perm.append_right [t] ?_
    have e1 := erase_perm hj
    rw [hbe] at e1
    exact e1.trans (((erase_perm hi).trans (h.perm.erase _)).erase b)
  · rcases List.mem_append.mp hn with z | z
    · exact h.hn n (List.mem_of_mem_eraseIdx (List.mem_of_mem_eraseIdx z))
    · rw [List.mem_singleton.mp z]; exact ht.2
  · have := h.sm n (List.mem_cons_of_mem _ hn)
    refine ⟨?_, this.2⟩
    rw [mm, List.mem_append, List.mem_singleton]
    rintro (z | z)
    · exact this.1 z
    · exact nd.1 (by rw [← z]; exact hn)
  · rw [mm, List.mem_append, List.mem_singleton] at hn
    rcases hn with z | z
    · exact h.lt n z
    · rw [z]; exact .inr (h.sl t List.mem_cons_self)
theorem letters_nd : letters.Nodup := by decide +kernel
theorem letters_nm : ∀ n ∈ letters, NmS n ∧ n ≠ "in" := by decide +kernel
theorem letters_l1 : ∀ n ∈ letters, n.length = 1 := by decide +kernel
/-- a drawn limit, a drawn share -/
theorem wl_limit {t b : Nat} (ht : t < 10001) (hb : b = 1 ∨ b = 2 ∨ b = 3) : mkRat (t : Int) b ≤ 10000 := by
  have e : mkRat (t : Int) b = (t : Rat) / (b : Rat) := Rat.mkRat_eq_div _ _
  have t0 : (0 : Rat) ≤ (t : Rat) := Rat.natCast_nonneg
  have t1 : (t : Rat) ≤ ((10000 : Nat) : Rat) := Rat.natCast_le_natCast.mpr (by omega)
  rw [e]
  rcases hb with rfl | rfl | rfl <;> grind
theorem pg_limit {t b : Nat} (ht : t < 10001) (hb : b = 1 ∨ b = 2 ∨ b = 3) : G 6 10001 (mkRat (t : Int) b) := by
  have e : mkRat (t : Int) b = (t : Rat) / (b : Rat) := Rat.mkRat_eq_div _ _
  have t0 : (0 : Rat) ≤ (t : Rat) := Rat.natCast_nonneg
  have t1 : (t : Rat) ≤ ((10001 : Nat) : Rat) := Rat.natCast_le_natCast.mpr (by omega)
  rw [e]
  rcases hb with rfl | rfl | rfl
  · refine ⟨by grind, by grind, t * 6, ?_⟩
    rw [cast_mul]; grind
  · refine ⟨by grind, by grind, t * 3, ?_⟩
    rw [cast_mul]; grind
  · refine ⟨by grind, by grind, t * 2, ?_⟩
    rw [cast_mul]; grind
theorem pg_share {t b : Nat} (ht : t ≤ b) (h1 : 1 ≤ b) (hb : b ≤ 4) : G 12 1 (mkRat (t : Int) b) := by
  have e : mkRat (t : Int) b = (t : Rat) / (b : Rat) := Rat.mkRat_eq_div _ _
  have t0 : (0 : Rat) ≤ (t : Rat) := Rat.natCast_nonneg
  have t1 : (t : Rat) ≤ (b : Rat) := Rat.natCast_le_natCast.mpr ht
  have hb : b = 1 ∨ b = 2 ∨ b = 3 ∨ b = 4 := by omega
  rw [e]
  rcases hb with rfl | rfl | rfl | rfl
  · refine ⟨by grind, by grind, t * 12, ?_⟩
    rw [cast_mul]; grind
  · refine ⟨by grind, by grind, t * 6, ?_⟩
    rw [cast_mul]; grind
  · refine ⟨by grind, by grind, t * 4, ?_⟩
    rw [cast_mul]; grind
  · refine ⟨by grind, by grind, t * 3, ?_⟩
    rw [cast_mul]; grind
end LN
namespace LN
open PySem PySem.Spec PyProof.Rows L2 SlX

section
variable {K : Frg}
/-- what is not needed is dropped -/
def sKeep (a : AS) : AS := fun D ρ M => ∃ M', Sub M' M ∧ a D ρ M'
theorem ss_keep {t : TS} {a : AS} (h : SS K t a) : SS K t (sKeep a) := by
  intro ρ M Da σ F H D ok ⟨M', sb, qa⟩ k1 k2 k3 k4
  exact h ρ M' Da σ F H D (ok.sub sb) qa k1 k2 k3 k4
/-- two lists, both new, held apart by != -/
def RNeM : A2 := fun x y M Q => ∃ a xs b ys ds es, x = .m a ∧ y = .m b ∧ (a, MO.lst xs) ∈ M ∧ (b, MO.lst ys) ∈ M ∧ dats xs = some ds ∧ dats ys = some es ∧ SeqAt.shaped (.list ds) = true ∧ SeqAt.shaped (.list es) = true ∧ Q (.d (.bool (not (PyData.eqv (.list ds) (.list es))))) M
theorem s2_neM : S2 K (rNeD K) RNeM := by
  intro x y M Qa v w F H Q ok rx ry ⟨a, xs, b, ys, ds, es, ex, ey, ma, mb, hd, he, sd, se, q⟩ k
  subst ex; subst ey
  have e1 : v = .ref a := rx
  have e2 : w = .ref b := ry
  subst e1; subst e2
  obtain ⟨us, g1, g2⟩ := ok.at_ _ ma
  obtain ⟨ws, k1, k2⟩ := ok.at_ _ mb
  have d1 := dss_dp ds us (dps_mono ok.same ds us (dats_rep hd g2))
  have d2 := dss_dp es ws (dps_mono ok.same es ws (dats_rep he k2))
  exact ⟨.list ds, .list es, .lst (.inl (.inl g1)) d1, .lst (.inl (.inl k1)) d2, sd, se, k _ M _ F H q (Same.refl _) ok (.bl _)⟩
end
theorem txV_get {l : List Str} {i : Nat} (h : i < l.length) : (txV l)[i]? = some (.d (.str l[i])) := by
  unfold txV strsD
  rw [List.getElem?_map, List.getElem?_map, List.getElem?_eq_getElem h]; rfl
theorem txV_cut (l : List Str) (i : Nat) : (txV l).eraseIdx i = txV (l.eraseIdx i) := by
  unfold txV strsD
  rw [List.map_map, List.map_map]
  induction l generalizing i with
  | nil => rfl
  | cons a l ih =>
    cases i with
    | zero => rfl
    | succ i => rw [List.map_cons, List.eraseIdx_cons_succ, List.eraseIdx_cons_succ, List.map_cons, ih]
theorem txV_dats (l : List Str) : dats (txV l) = some (strsD l) := dats_map _
theorem sh_strL {l : List Str} (hl : ∀ x ∈ l, StrOk x) : SeqAt.shaped (.list (strsD l)) = true := pl_shaped (n := 1) (pl_list fun z hz => by
  obtain ⟨x, hx, rfl⟩ := List.mem_map.mp hz
  exact pl_str (hl x hx))
theorem eqv_nil {l : List Str} (hl : ∀ x ∈ l, StrOk x) : PyData.eqv (.list (strsD l)) (.list []) = decide (l = []) := by
  have h := eqv_pl 1 1 (.list (strsD l)) (.list []) (pl_list fun z hz => by
    obtain ⟨x, hx, rfl⟩ := List.mem_map.mp hz
    exact pl_str (hl x hx)) (pl_list fun z hz => by simp at hz)
  have e : (PyData.list (strsD l) = .list []) ↔ l = [] := by
    cases l with
    | nil => simp [strsD]
    | cons a r => simp [strsD]
  by_cases c : l = []
  · rw [decide_eq_true c]; exact h.mpr (e.mpr c)
  · rw [decide_eq_false c]
    cases z : PyData.eqv (.list (strsD l)) (.list []) with
    | false => rfl
    | true => exact absurd (e.mp (h.mp z)) c
theorem mdV_len (l : List Part) : (mdV l).length = l.length := by unfold mdV; rw [List.length_map]
theorem mdV_snoc (l : List Part) (p : Part) : mdV l ++ [.d (partD p)] = mdV (l ++ [p]) := by unfold mdV; rw [List.map_append]; rfl
theorem mdV_dats (l : List Part) : dats (mdV l) = some (l.map partD) := by
  have : mdV l = (l.map partD).map Va.d := by unfold mdV; rw [List.map_map]; rfl
  rw [this, dats_map]
/-- the store of _law_parts, in order -/
abbrev pSt (hp sp fp a : Addr) (here spare : List Str) (found : List Part) (x y c : Nat) (M1 M2 : Sto) : Sto := (hp, .lst (txV here)) :: (sp, .lst (txV spare)) :: (fp, .lst (mdV found)) :: (M1 ++ bxM a x y c :: M2)

section
variable {P : Program} {w : World} {K : Frg} {mg : Str → Option Value} {base : Heap}

def R_lprt : AN := fun xs M Q => ∃ (a : Addr) (x y c high : Nat) (M1 M2 : Sto), xs = [.m a, .d (.int (6 : Int)), .d (.int (high : Int))] ∧ M = M1 ++ bxM a x y c :: M2 ∧ 0 < high ∧ high ≤ 10000 ∧ y < 2 ^ 64 ∧ c < 2 ^ 60 ∧ ∀ (ps : List Part) (x' c' : Nat), Drawn ps → x' ≤ x → c' ≤ c + 100 → Q (.d (partsD ps)) (M1 ++ bxM a x' y c' :: M2)
abbrev N__law_parts : List Str := ["_law_box_here", "_law_most_so", "_law_high_so", "_law_here", "_law_found", "_law_spare_so", "_law_turn", "_law_way_so", "_law_own", "_law_its", "_law_tall_so", "_law_low_so", "_law_to_so", "_law_rest_so"]
theorem sc__law_parts : FnScope N__law_parts ["_law_box_here", "_law_most_so", "_law_high_so"] (L2.defScope s__law_parts) := ⟨rfl, rfl, rfl, by decide +kernel, rfl, by decide +kernel, by decide +kernel⟩
set_option maxHeartbeats 4000000 in
theorem kp__law_parts (T : Tx K mg) (c__law_take : Kp P w K mg base 1 (He.ga K "_law_take") ["_law_box_here", "_law_size_so"] R_draw) (c__law_amount : Kp P w K mg base 3 (He.ga K "_law_amount") ["_law_box_here", "_law_high_so"] R_lamt) (c__law_of : Kp P w K mg base 2 (He.ga K "_law_of") ["_law_box_here", "_law_goods_so"] R_pick) (c__law_frac : Kp P w K mg base 1 (He.ga K "_law_frac") ["_law_top_so", "_law_low_so"] R_lfrac) : Kp P w K mg base 4 (He.ga K "_law_parts") ["_law_box_here", "_law_most_so", "_law_high_so"] R_lprt := by
  refine kp_n (k := 3) (T.def_ 55) sc__law_parts (fun _ _ _ _ _ _ us hl => match us, hl with | [_, _, _], _ => rfl) (fun xs M Q h => ?len) (fun cdv A outer s H E hr => ⟨_, _, ⟨
    (pss_cons (ps_par3 (i := 3) (j := 4) (l := 5) rfl sc__law_parts.nd rfl rfl rfl (by decide) (by decide) (by decide) rfl rfl rfl (pa_cons (pe_lst (pa_cons pe_str pa_nil)) (pa_cons (pe_lst pa_nil) (pa_cons (pe_callTy (call_listS rfl) (by rfl) (T.free 70) (by decide +kernel) (pa_cons pe_str pa_nil)) pa_nil))) rfl) (pss_cons (ps_for PassesOwn.never rfl (pi_range1 (by rfl) (T.free 75) (pa_cons (pe_def c__law_take (hr.mono (by decide)) (by rfl) (T.glo 31) (pa_cons (pv 0) (pa_cons (pe_op op_add (pv 1) pe_int) pa_nil))) pa_nil)) (pg_name (i := 6) sc__law_parts.nd rfl (Or.inl rfl)) (pss_cons (ps_set (i := 7) sc__law_parts.nd rfl (Or.inl rfl) (pe_def c__law_take (hr.mono (by decide)) (by rfl) (T.glo 31) (pa_cons (pv 0) (pa_cons pe_int pa_nil)))) (pss_cons (ps_set (i := 8) sc__law_parts.nd rfl (Or.inl rfl) (pe_bm PySem.F.plainAttrs_list PySem.F.slot_list_pop PySem.F.type_list_pop mt_popAt (pv 3) (pa_cons (pe_def c__law_take (hr.mono (by decide)) (by rfl) (T.glo 31) (pa_cons (pv 0) (pa_cons (pe_callB call_len_seq (by rfl) (T.free 68) PySem.boot_len (pa_cons (pv 3) pa_nil)) pa_nil))) pa_nil))) (pss_one (ps_if (PW.pt (pw_and (pt_cmpR (op_eqD hr.units) (pv 7) pe_int (nomark _)) (pw_and1 (pt_cmpR (op_neD hr.units) (pv 3) (pe_lst pa_nil) (nomark _))))) (pss_cons (ps_set (i := 9) sc__law_parts.nd rfl (Or.inl rfl) (pe_bm PySem.F.plainAttrs_list PySem.F.slot_list_pop PySem.F.type_list_pop mt_popAt (pv 3) (pa_cons (pe_def c__law_take (hr.mono (by decide)) (by rfl) (T.glo 31) (pa_cons (pv 0) (pa_cons (pe_callB call_len_seq (by rfl) (T.free 68) PySem.boot_len (pa_cons (pv 3) pa_nil)) pa_nil))) pa_nil))) (pss_cons (ps_expr (pe_bm PySem.F.plainAttrs_list PySem.F.slot_list_append PySem.F.type_list_append mt_append (pv 4) (pa_cons (pe_tupS (pa_cons pe_str (pa_cons (pv 8) (pa_cons (pv 9) (pa_cons (pe_ix ix_seq (pv 5) pe_int (fun _ _ => rfl)) pa_nil))))) pa_nil))) (pss_one (ps_expr (pe_bm PySem.F.plainAttrs_list PySem.F.slot_list_append PySem.F.type_list_append mt_append (pv 3) (pa_cons (pe_bm PySem.F.plainAttrs_list PySem.F.slot_list_pop PySem.F.type_list_pop mt_popAt (pv 5) (pa_cons pe_int pa_nil)) pa_nil)))))) (pss_cons (ps_set (i := 10) sc__law_parts.nd rfl (Or.inl rfl) (pe_def c__law_amount (hr.mono (by decide)) (by rfl) (T.glo 40) (pa_cons (pv 0) (pa_cons (pv 2) pa_nil)))) (pss_cons (ps_if (pt_cmpR op_gt (pv 7) pe_int (nomark _)) (pss_cons (ps_set (i := 11) sc__law_parts.nd rfl (Or.inl rfl) (pe_def c__law_of (hr.mono (by decide)) (by rfl) (T.glo 33) (pa_cons (pv 0) (pa_cons (pe_lst (pa_cons pe_int (pa_cons pe_int (pa_cons pe_int (pa_cons pe_int pa_nil))))) pa_nil)))) (pss_one (ps_set (i := 10) sc__law_parts.nd rfl (Or.inl rfl) (pe_def c__law_frac (hr.mono (by decide)) (by rfl) (T.glo 35) (pa_cons (pe_def c__law_take (hr.mono (by decide)) (by rfl) (T.glo 31) (pa_cons (pv 0) (pa_cons (pe_op op_add (pv 11) pe_int) pa_nil))) (pa_cons (pv 11) pa_nil)))))) pss_nil) (pss_cons (ps_par (i := 12) (j := 13) rfl sc__law_parts.nd rfl rfl (by decide) rfl rfl (pa_cons (pe_bm PySem.F.plainAttrs_list PySem.F.slot_list_pop PySem.F.type_list_pop mt_popAt (pv 5) (pa_cons pe_int pa_nil)) (pa_cons (pe_bm PySem.F.plainAttrs_list PySem.F.slot_list_pop PySem.F.type_list_pop mt_popAt (pv 5) (pa_cons pe_int pa_nil)) pa_nil)) rfl) (pss_cons (ps_expr (pe_bm PySem.F.plainAttrs_list PySem.F.slot_list_append PySem.F.type_list_append mt_append (pv 4) (pa_cons (pe_tupS (pa_cons (pe_ifExp (pt_cmpR op_gt (pv 7) pe_int (nomark _)) pe_str pe_str) (pa_cons (pv 8) (pa_cons (pv 10) (pa_cons (pv 12) (pa_cons (pv 13) pa_nil)))))) pa_nil))) (pss_one (ps_set (i := 3) sc__law_parts.nd rfl (Or.inl rfl) (pe_op op_catL (pv 3) (pe_lst (pa_cons (pv 12) (pa_cons (pv 13) pa_nil))))))))))))))) (pss_one (ps_ret (pe_callTy call_tupleS (by rfl) (T.free 69) boot_tuple (pa_cons (pv 4) pa_nil)))))),
    (ss_seq (ss_par3 (sa_cons (se_lstM (sa_cons se_str sa_nil)) (sa_cons (se_lstM sa_nil) (sa_cons (se_cb sn_listS (sa_cons se_str sa_nil)) sa_nil)))) (ss_seq (ss_for (si_range (sa_cons (se_call (sa_cons se_var (sa_cons (se_op s2_I0 se_var se_int) sa_nil))) sa_nil)) sg_nm (ss_keep (ss_seq (ss_asg (se_call (sa_cons se_var (sa_cons se_int sa_nil))) sg_nm) (ss_seq (ss_asg (se_bml sm_popAt se_var (sa_cons (se_call (sa_cons se_var (sa_cons (se_cb sn_len (sa_cons se_var sa_nil)) sa_nil))) sa_nil)) sg_nm) (ss_if (st_and (st_T (se_op s2_eq se_var se_int)) (st_T (se_op s2_neM se_var (se_lstM sa_nil)))) (ss_keep (ss_seq (ss_asg (se_bml sm_popAt se_var (sa_cons (se_call (sa_cons se_var (sa_cons (se_cb sn_len (sa_cons se_var sa_nil)) sa_nil))) sa_nil)) sg_nm) (ss_seq (ss_drop (se_bml sm_append se_var (sa_cons (se_tup (sa_cons se_str (sa_cons se_var (sa_cons se_var (sa_cons (se_op s2_ixM se_var se_int) sa_nil))))) sa_nil))) (ss_drop (se_bml sm_append se_var (sa_cons (se_bml sm_popAt se_var (sa_cons se_int sa_nil)) sa_nil)))))) (ss_keep (ss_seq (ss_asg (se_call (sa_cons se_var (sa_cons se_var sa_nil))) sg_nm) (ss_seq (ss_if (st_T (se_op s2_B0 se_var se_int)) (ss_seq (ss_asg (se_call (sa_cons se_var (sa_cons (se_lst (sa_cons se_int (sa_cons se_int (sa_cons se_int (sa_cons se_int sa_nil))))) sa_nil))) sg_nm) (ss_asg (se_call (sa_cons (se_call (sa_cons se_var (sa_cons (se_op s2_I0 se_var se_int) sa_nil))) (sa_cons se_var sa_nil))) sg_nm)) ss_next) (ss_seq (ss_par (sa_cons (se_bml sm_popAt se_var (sa_cons se_int sa_nil)) (sa_cons (se_bml sm_popAt se_var (sa_cons se_int sa_nil)) sa_nil))) (ss_seq (ss_drop (se_bml sm_append se_var (sa_cons (se_tup (sa_cons (se_if (st_T (se_op s2_B0 se_var se_int)) se_str se_str) (sa_cons se_var (sa_cons se_var (sa_cons se_var (sa_cons se_var sa_nil)))))) sa_nil))) (ss_asg (se_op s2_catM se_var (se_lst (sa_cons se_var (sa_cons se_var sa_nil)))) sg_nm))))))))))) (ss_keep (ss_ret (se_cb sn_tuple (sa_cons se_var sa_nil))))))⟩, fun xs M Qa h => ?body⟩)
  case len => obtain ⟨a, x, y, c, high, M1, M2, rfl, _⟩ := h; rfl
  case body =>
    obtain ⟨a, x, y, c, high, M1, M2, rfl, rfl, h0, h1, y1, c1, qq⟩ := h
    refine ⟨(show 1 ≤ 1000000 by decide), fun p1 => ⟨(show 0 ≤ 1000000 by decide), fun p2 => ⟨_, rfl, (by decide +kernel), fun p3 => ⟨_, _, _, rfl, ?_⟩⟩⟩⟩
    refine ⟨_, rfl, _, rfl, _, _, rfl, rfl, a, x, y, c, 7, _ :: _ :: _ :: M1, M2, rfl, rfl, by decide, by decide, y1, by omega, fun d0 x0 c0 hd0 hx0 hc0 => ?_⟩
    refine ⟨d0, rfl, by omega, fun rest ρ M' => ∃ (found : List Part) (here spare : List Str) (hp sp fp : Addr) (x' c' : Nat) (t1 t2 t3 t4 t5 t6 t7 t8 : Option Va), ρ = [some (.m a), some (.d (.int (6 : Int))), some (.d (.int (high : Int))), some (.m hp), some (.m fp), some (.m sp), t1, t2, t3, t4, t5, t6, t7, t8] ∧
      Sub (pSt hp sp fp a here spare found x' y c' M1 M2) M' ∧ Nc found here spare ∧ rest.length + found.length ≤ 6 ∧ 26 ≤ spare.length + 2 * found.length ∧ x' ≤ x ∧ c' + 8 * rest.length ≤ c + 60, ?_, ?_, ?_⟩
    · refine ⟨[], ["in"], letters, p1, p3, p2, x0, c0, _, _, _, _, _, _, _, _, rfl, ⟨[], ?_⟩, nc0 letters_nd letters_nm letters_l1, ?_, ?_, by omega, ?_⟩
      · rw [chars_letters]
        exact List.perm_middle (l₁ := [_, _])
      · unfold rangeD; rw [List.length_map, List.length_range]
        show d0 + 0 ≤ 6
        omega
      · rw [letters_len]; decide
      · unfold rangeD; rw [List.length_map, List.length_range]; omega
    · rintro d r ρ M' ⟨found, here, spare, hp, sp, fp, x1, c1', t1, t2, t3, t4, t5, t6, t7, t8, rfl, sb, nc, hl, hsl, hx1, hc1⟩
      simp only [List.length_cons] at hl hc1
      have hne := List.length_pos_iff.mpr nc.ne
      have hl17 : here.length ≤ 7 := by
        have := nc.perm.length_eq
        have := left_len2 found nc.val
        omega
      refine ⟨_, sb, ?_⟩
      refine ⟨_, rfl, a, x1, y, c1', 3, _ :: _ :: _ :: M1, M2, rfl, rfl, by decide, by decide, y1, by omega, fun way x2 c2 hway hx2 hc2 => ?_⟩
      refine ⟨_, rfl, hp, _, [], _, rfl, rfl, _, rfl, _, rfl, .inr (.inr ⟨hp, _, [], _, rfl, rfl, a, x2, y, c2, (txV here).length, _ :: _ :: _ :: M1, M2, rfl, rfl, by rw [txV_len]; exact hne, by rw [txV_len]; omega, y1, by omega, fun i x3 c3 hi hx3 hc3 => ?_⟩)⟩
      have hi' : i < here.length := by rw [txV_len] at hi; exact hi
      refine ⟨hp, _, i, _, [], _, rfl, rfl, rfl, by omega, txV_get hi', ?_⟩
      have br2 : ∀ M', Sub (pSt hp sp fp a (here.eraseIdx i) spare found x3 y c3 M1 M2) M' → True := fun _ _ => trivial
      have nmE : ∀ n ∈ here.eraseIdx i, StrOk n := fun n hn => (nc.hn n (List.mem_of_mem_eraseIdx hn)).1
      refine ⟨_, rfl, _, _, rfl, rfl, sh_int _, sh_int _, _, rfl, iteB (fun w2 => ?_) (fun w2 => iteB (fun z => nomatch z) (fun _ => ?_))⟩
      · rw [id, eqv_int] at w2
        have w2' : way = 2 := by
          have : (way : Int) = 2 := by simpa using w2
          omega
        refine ⟨_, rfl, (show 0 ≤ 1000000 by decide), fun pz => ⟨hp, (txV here).eraseIdx i, pz, [], strsD (here.eraseIdx i), [], rfl, rfl, List.mem_cons_of_mem _ List.mem_cons_self, List.mem_cons_self, by rw [txV_cut]; exact txV_dats _, rfl, sh_strL nmE, by decide +kernel, _, rfl, ?_⟩⟩
        rw [eqv_nil nmE]
        refine iteB (fun hn => ?_) (fun hn => ?_)
        · have hne2 : here.eraseIdx i ≠ [] := fun z => by rw [decide_eq_true z] at hn; cases hn
          have hj0 := List.length_pos_iff.mpr hne2
          have hj7 : (here.eraseIdx i).length ≤ here.length := List.length_eraseIdx_le here i
          refine ⟨pSt hp sp fp a (here.eraseIdx i) spare found x3 y c3 M1 M2, ⟨[(pz, _)], by rw [txV_cut]; exact .refl _⟩, ?_⟩
          refine ⟨_, rfl, hp, _, [], _, rfl, rfl, _, rfl, _, rfl, .inr (.inr ⟨hp, _, [], _, rfl, rfl, a, x3, y, c3, (txV (here.eraseIdx i)).length, _ :: _ :: _ :: M1, M2, rfl, rfl, by rw [txV_len]; exact hj0, by rw [txV_len]; omega, y1, by omega, fun j x4 c4 hj hx4 hc4 => ?_⟩)⟩
          have hj' : j < (here.eraseIdx i).length := by rw [txV_len] at hj; exact hj
          obtain ⟨t0, spare', hsp⟩ : ∃ t0 spare', spare = t0 :: spare' := by
            match spare, (show 1 ≤ spare.length by omega) with
            | t0 :: spare', _ => exact ⟨t0, spare', rfl⟩
          subst hsp
          refine ⟨hp, _, j, _, [], _, rfl, rfl, rfl, by omega, txV_get hj', ?_⟩
          refine ⟨_, rfl, fp, _, [_, _], _, rfl, rfl, _, rfl, _, rfl, _, rfl, sp, _, 0, .d (.str t0), [_], _, rfl, rfl, rfl, atI_nat _ 0 _ rfl, _, rfl, (show 4 ≤ 1000000 by decide), fp, _, _, [_, _], _, rfl, rfl, rfl, by rw [mdV_len]; omega, ?_⟩
          refine ⟨_, rfl, hp, _, [], _, rfl, rfl, _, rfl, sp, _, [_], _, rfl, rfl, sp, _, 0, _, [_], _, rfl, rfl, rfl, by omega, rfl, hp, _, _, [], _, rfl, rfl, rfl, by rw [txV_cut, txV_len]; have := List.length_eraseIdx_le (here.eraseIdx i) j; omega, ?_⟩
          have nc2 := nc_join nc hi' hj'
          refine ⟨_, _, spare', hp, sp, fp, x4, c4, _, _, _, _, _, _, _, _, rfl, ⟨[], ?_⟩, nc2, by rw [List.length_append, List.length_singleton]; omega, by rw [List.length_append, List.length_singleton]; simp only [List.length_cons] at hsl; omega, by omega, by omega⟩
          unfold pSt
          rw [txV_cut, ← mdV_snoc, ← txV_app]
          exact .refl _
        · have he : here.eraseIdx i = [] := Classical.byContradiction fun z => by rw [decide_eq_false z] at hn; cases hn
          have hj7 : (here.eraseIdx i).length ≤ here.length := List.length_eraseIdx_le here i
          refine ⟨pSt hp sp fp a (here.eraseIdx i) spare found x3 y c3 M1 M2, ⟨[(pz, _)], by rw [txV_cut]; exact .refl _⟩, ?_⟩
          refine ⟨_, rfl, _, rfl, a, x3, y, c3, high, _ :: _ :: _ :: M1, M2, rfl, rfl, h0, by omega, y1, by omega, fun t b x4 c4 ht hb hx4 hc4 => ?_⟩
          refine ⟨_, rfl, _, _, rfl, rfl, _, rfl, iteB (fun wp => ?_) (fun wp => ?_)⟩
          · refine ⟨_, rfl, _, rfl, (show 4 ≤ 1000000 by decide), a, x4, y, c4, _ :: _ :: _ :: M1, M2, _, rfl, rfl, by simp, (show 4 ≤ 1000000 by decide), y1, by omega, fun dl hdl x5 c5 hx5 hc5 => ?_⟩
            obtain ⟨low, rfl, hlo1, hlo4⟩ : ∃ low : Nat, dl = .int (low : Int) ∧ 1 ≤ low ∧ low ≤ 4 := by
              simp only [List.mem_cons, List.not_mem_nil, or_false] at hdl
              rcases hdl with e | e | e | e <;> subst e
              · exact ⟨1, rfl, by omega, by omega⟩
              · exact ⟨2, rfl, by omega, by omega⟩
              · exact ⟨3, rfl, by omega, by omega⟩
              · exact ⟨4, rfl, by omega, by omega⟩
            refine ⟨_, rfl, _, rfl, _, _, rfl, rfl, a, x5, y, c5, low + 1, _ :: _ :: _ :: M1, M2, rfl, rfl, by omega, by omega, y1, by omega, fun t2 x6 c6 ht2 hx6 hc6 => ?_⟩
            refine ⟨_, rfl, t2, low, rfl, by omega, Nat.lt_of_le_of_lt hlo4 (by decide +kernel), Nat.lt_of_le_of_lt (show t2 ≤ 4 by omega) (by decide +kernel), ?_⟩
            obtain ⟨t0, r0, spare', hsp⟩ : ∃ t0 r0 spare', spare = t0 :: r0 :: spare' := by
              match spare, (show 2 ≤ spare.length by omega) with
              | t0 :: r0 :: spare', _ => exact ⟨t0, r0, spare', rfl⟩
            subst hsp
            refine ⟨_, rfl, sp, _, [_], _, rfl, rfl, sp, _, 0, _, [_], _, rfl, rfl, rfl, by omega, rfl, _, rfl, sp, _, [_], _, rfl, rfl, sp, _, 0, _, [_], _, rfl, rfl, rfl, by omega, rfl, _, _, rfl, ?_⟩
            refine ⟨_, rfl, fp, _, [_, _], _, rfl, rfl, _, rfl, _, _, rfl, rfl, _, rfl, iteB (fun _ => ?_) (fun z => absurd (wp.symm.trans z) (by decide))⟩
            refine ⟨_, rfl, _, rfl, _, rfl, _, rfl, _, rfl, (show 5 ≤ 1000000 by decide), fp, _, _, [_, _], _, rfl, rfl, rfl, by rw [mdV_len]; omega, ?_⟩
            refine ⟨_, rfl, _, rfl, _, rfl, _, rfl, (show 2 ≤ 1000000 by decide), hp, _, _, [], _, rfl, rfl, rfl, by rw [txV_len]; simp only [List.length_cons, List.length_nil]; omega, fun h2 => ?_⟩
            have nc2 := nc_two (p := .div here[i] (mkRat (t2 : Int) low) t0 r0) nc hi' rfl rfl rfl (pg_share (by omega) hlo1 hlo4) trivial
            refine ⟨found ++ [.div here[i] (mkRat (t2 : Int) low) t0 r0], here.eraseIdx i ++ [t0, r0], spare', h2, sp, fp, x6, c6, _, _, _, _, _, _, _, _, rfl, ⟨[(hp, .lst (txV (here.eraseIdx i)))], ?_⟩, nc2, by rw [List.length_append, List.length_singleton]; omega, by rw [List.length_append, List.length_singleton]; simp only [List.length_cons] at hsl; omega, by omega, by omega⟩
            unfold pSt
            rw [← mdV_snoc, show txV (here.eraseIdx i ++ [t0, r0]) = txV (here.eraseIdx i) ++ [.d (.str t0), .d (.str r0)] from by unfold txV strsD; rw [List.map_append, List.map_append]; rfl]
            exact .swap _ _ _
          · refine (id : _ → _) ?_
            obtain ⟨t0, r0, spare', hsp⟩ : ∃ t0 r0 spare', spare = t0 :: r0 :: spare' := by
              match spare, (show 2 ≤ spare.length by omega) with
              | t0 :: r0 :: spare', _ => exact ⟨t0, r0, spare', rfl⟩
            subst hsp
            refine ⟨_, rfl, sp, _, [_], _, rfl, rfl, sp, _, 0, _, [_], _, rfl, rfl, rfl, by omega, rfl, _, rfl, sp, _, [_], _, rfl, rfl, sp, _, 0, _, [_], _, rfl, rfl, rfl, by omega, rfl, _, _, rfl, ?_⟩
            refine ⟨_, rfl, fp, _, [_, _], _, rfl, rfl, _, rfl, _, _, rfl, rfl, _, rfl, iteB (fun z => absurd (z.symm.trans wp) (by decide)) (fun _ => ?_)⟩
            refine ⟨_, rfl, _, rfl, _, rfl, _, rfl, _, rfl, (show 5 ≤ 1000000 by decide), fp, _, _, [_, _], _, rfl, rfl, rfl, by rw [mdV_len]; omega, ?_⟩
            refine ⟨_, rfl, _, rfl, _, rfl, _, rfl, (show 2 ≤ 1000000 by decide), hp, _, _, [], _, rfl, rfl, rfl, by rw [txV_len]; simp only [List.length_cons, List.length_nil]; omega, fun h2 => ?_⟩
            have nc2 := nc_two (p := .weir here[i] (mkRat (t : Int) b) t0 r0) nc hi' rfl rfl rfl (pg_limit (by omega) hb) (wl_limit (by omega) hb)
            refine ⟨found ++ [.weir here[i] (mkRat (t : Int) b) t0 r0], here.eraseIdx i ++ [t0, r0], spare', h2, sp, fp, x4, c4, _, _, _, _, _, _, _, _, rfl, ⟨[(hp, .lst (txV (here.eraseIdx i)))], ?_⟩, nc2, by rw [List.length_append, List.length_singleton]; omega, by rw [List.length_append, List.length_singleton]; simp only [List.length_cons] at hsl; omega, by omega, by omega⟩
            unfold pSt
            rw [← mdV_snoc, show txV (here.eraseIdx i ++ [t0, r0]) = txV (here.eraseIdx i) ++ [.d (.str t0), .d (.str r0)] from by unfold txV strsD; rw [List.map_append, List.map_append]; rfl]
            exact .swap _ _ _
      · have hz := 0
        have hj7 : (here.eraseIdx i).length ≤ here.length := List.length_eraseIdx_le here i
        refine ⟨pSt hp sp fp a (here.eraseIdx i) spare found x3 y c3 M1 M2, ⟨[], by rw [txV_cut]; exact .refl _⟩, ?_⟩
        refine ⟨_, rfl, _, rfl, a, x3, y, c3, high, _ :: _ :: _ :: M1, M2, rfl, rfl, h0, by omega, y1, by omega, fun t b x4 c4 ht hb hx4 hc4 => ?_⟩
        refine ⟨_, rfl, _, _, rfl, rfl, _, rfl, iteB (fun wp => ?_) (fun wp => ?_)⟩
        · refine ⟨_, rfl, _, rfl, (show 4 ≤ 1000000 by decide), a, x4, y, c4, _ :: _ :: _ :: M1, M2, _, rfl, rfl, by simp, (show 4 ≤ 1000000 by decide), y1, by omega, fun dl hdl x5 c5 hx5 hc5 => ?_⟩
          obtain ⟨low, rfl, hlo1, hlo4⟩ : ∃ low : Nat, dl = .int (low : Int) ∧ 1 ≤ low ∧ low ≤ 4 := by
            simp only [List.mem_cons, List.not_mem_nil, or_false] at hdl
            rcases hdl with e | e | e | e <;> subst e
            · exact ⟨1, rfl, by omega, by omega⟩
            · exact ⟨2, rfl, by omega, by omega⟩
            · exact ⟨3, rfl, by omega, by omega⟩
            · exact ⟨4, rfl, by omega, by omega⟩
          refine ⟨_, rfl, _, rfl, _, _, rfl, rfl, a, x5, y, c5, low + 1, _ :: _ :: _ :: M1, M2, rfl, rfl, by omega, by omega, y1, by omega, fun t2 x6 c6 ht2 hx6 hc6 => ?_⟩
          refine ⟨_, rfl, t2, low, rfl, by omega, Nat.lt_of_le_of_lt hlo4 (by decide +kernel), Nat.lt_of_le_of_lt (show t2 ≤ 4 by omega) (by decide +kernel), ?_⟩
          obtain ⟨t0, r0, spare', hsp⟩ : ∃ t0 r0 spare', spare = t0 :: r0 :: spare' := by
            match spare, (show 2 ≤ spare.length by omega) with
            | t0 :: r0 :: spare', _ => exact ⟨t0, r0, spare', rfl⟩
          subst hsp
          refine ⟨_, rfl, sp, _, [_], _, rfl, rfl, sp, _, 0, _, [_], _, rfl, rfl, rfl, by omega, rfl, _, rfl, sp, _, [_], _, rfl, rfl, sp, _, 0, _, [_], _, rfl, rfl, rfl, by omega, rfl, _, _, rfl, ?_⟩
          refine ⟨_, rfl, fp, _, [_, _], _, rfl, rfl, _, rfl, _, _, rfl, rfl, _, rfl, iteB (fun _ => ?_) (fun z => absurd (wp.symm.trans z) (by decide))⟩
          refine ⟨_, rfl, _, rfl, _, rfl, _, rfl, _, rfl, (show 5 ≤ 1000000 by decide), fp, _, _, [_, _], _, rfl, rfl, rfl, by rw [mdV_len]; omega, ?_⟩
          refine ⟨_, rfl, _, rfl, _, rfl, _, rfl, (show 2 ≤ 1000000 by decide), hp, _, _, [], _, rfl, rfl, rfl, by rw [txV_len]; simp only [List.length_cons, List.length_nil]; omega, fun h2 => ?_⟩
          have nc2 := nc_two (p := .div here[i] (mkRat (t2 : Int) low) t0 r0) nc hi' rfl rfl rfl (pg_share (by omega) hlo1 hlo4) trivial
          refine ⟨found ++ [.div here[i] (mkRat (t2 : Int) low) t0 r0], here.eraseIdx i ++ [t0, r0], spare', h2, sp, fp, x6, c6, _, _, _, _, _, _, _, _, rfl, ⟨[(hp, .lst (txV (here.eraseIdx i)))], ?_⟩, nc2, by rw [List.length_append, List.length_singleton]; omega, by rw [List.length_append, List.length_singleton]; simp only [List.length_cons] at hsl; omega, by omega, by omega⟩
          unfold pSt
          rw [← mdV_snoc, show txV (here.eraseIdx i ++ [t0, r0]) = txV (here.eraseIdx i) ++ [.d (.str t0), .d (.str r0)] from by unfold txV strsD; rw [List.map_append, List.map_append]; rfl]
          exact .swap _ _ _
        · refine (id : _ → _) ?_
          obtain ⟨t0, r0, spare', hsp⟩ : ∃ t0 r0 spare', spare = t0 :: r0 :: spare' := by
            match spare, (show 2 ≤ spare.length by omega) with
            | t0 :: r0 :: spare', _ => exact ⟨t0, r0, spare', rfl⟩
          subst hsp
          refine ⟨_, rfl, sp, _, [_], _, rfl, rfl, sp, _, 0, _, [_], _, rfl, rfl, rfl, by omega, rfl, _, rfl, sp, _, [_], _, rfl, rfl, sp, _, 0, _, [_], _, rfl, rfl, rfl, by omega, rfl, _, _, rfl, ?_⟩
          refine ⟨_, rfl, fp, _, [_, _], _, rfl, rfl, _, rfl, _, _, rfl, rfl, _, rfl, iteB (fun z => absurd (z.symm.trans wp) (by decide)) (fun _ => ?_)⟩
          refine ⟨_, rfl, _, rfl, _, rfl, _, rfl, _, rfl, (show 5 ≤ 1000000 by decide), fp, _, _, [_, _], _, rfl, rfl, rfl, by rw [mdV_len]; omega, ?_⟩
          refine ⟨_, rfl, _, rfl, _, rfl, _, rfl, (show 2 ≤ 1000000 by decide), hp, _, _, [], _, rfl, rfl, rfl, by rw [txV_len]; simp only [List.length_cons, List.length_nil]; omega, fun h2 => ?_⟩
          have nc2 := nc_two (p := .weir here[i] (mkRat (t : Int) b) t0 r0) nc hi' rfl rfl rfl (pg_limit (by omega) hb) (wl_limit (by omega) hb)
          refine ⟨found ++ [.weir here[i] (mkRat (t : Int) b) t0 r0], here.eraseIdx i ++ [t0, r0], spare', h2, sp, fp, x4, c4, _, _, _, _, _, _, _, _, rfl, ⟨[(hp, .lst (txV (here.eraseIdx i)))], ?_⟩, nc2, by rw [List.length_append, List.length_singleton]; omega, by rw [List.length_append, List.length_singleton]; simp only [List.length_cons] at hsl; omega, by omega, by omega⟩
          unfold pSt
          rw [← mdV_snoc, show txV (here.eraseIdx i ++ [t0, r0]) = txV (here.eraseIdx i) ++ [.d (.str t0), .d (.str r0)] from by unfold txV strsD; rw [List.map_append, List.map_append]; rfl]
          exact .swap _ _ _
    · rintro ρ M' ⟨found, here, spare, hp, sp, fp, x1, c1', t1, t2, t3, t4, t5, t6, t7, t8, rfl, sb, nc, hl, hsl, hx1, hc1⟩
      refine ⟨_, sb, _, rfl, .inr (.inr ⟨fp, _, _, [_, _], _, rfl, rfl, mdV_dats _, ?_⟩)⟩
      exact ⟨_, ⟨[_, _, _], .refl _⟩, qq found x1 c1' (nc.drawn (by omega)) hx1 (by omega)⟩

end
end LN
namespace LN
open PySem PySem.Spec PyProof.Rows L2 SlX
/-! ### borders -/
theorem asc_shape : ∀ {es : List (Option Rat)} {b : Rat}, Asc b es → ∃ bs : List Rat, es = bs.map some ++ [none] ∧ ∀ e ∈ bs, b < e
  | [], _, h => h.elim
  | none :: es, b, h => by
    have h2 : es = [] := h
    exact ⟨[], by rw [h2]; rfl, by simp⟩
  | some e :: es, b, h => by
    obtain ⟨bs, h1, h2⟩ := asc_shape h.2
    have hb := h.1
    refine ⟨e :: bs, by rw [h1]; rfl, fun x hx => ?_⟩
    rcases List.mem_cons.mp hx with z | z
    · rw [z]; exact hb
    · have := h2 x z
      grind
theorem bord_shape {T : Tab} {b : Rat} (h : AscT b T) : ∃ bs : List Rat, bordM T = bs.map some ∧ T.map (·.1) = bs.map some ++ [none] ∧ ∀ e ∈ bs, b < e := by
  obtain ⟨bs, h1, h2⟩ := asc_shape h
  refine ⟨bs, ?_, h1, h2⟩
  unfold bordM
  have e : (T.map (·.1)).dropLast = bs.map some := by rw [h1, List.dropLast_concat]
  rw [← e, List.map_dropLast]
theorem far_of : ∀ bs : List Rat, ∃ far : Rat, 0 < far ∧ (∀ e ∈ bs, e < far) ∧ (bs = [] → far = 1000000000) ∧ (bs ≠ [] → ∃ e ∈ bs, far = e + 1/9 ∨ e + 1/9 ≤ 0)
  | [] => ⟨1000000000, by decide, by simp, fun _ => rfl, fun h => absurd rfl h⟩
  | e :: bs => by
    obtain ⟨f, f0, f1, f2, f3⟩ := far_of bs
    by_cases c : e + 1/9 ≤ 0
    · by_cases d : bs = []
      · refine ⟨1, by decide, fun x hx => ?_, fun z => by simp at z, fun _ => ⟨e, List.mem_cons_self, .inr c⟩⟩
        rw [d] at hx
        rw [List.mem_singleton.mp hx]; grind
      · refine ⟨f, f0, fun x hx => ?_, fun z => by simp at z, fun _ => ⟨e, List.mem_cons_self, .inr c⟩⟩
        rcases List.mem_cons.mp hx with z | z
        · rw [z]; grind
        · exact f1 x z
    · by_cases d : bs = []
      · refine ⟨e + 1/9, by grind, fun x hx => ?_, fun z => by simp at z, fun _ => ⟨e, List.mem_cons_self, .inl rfl⟩⟩
        rw [d] at hx
        rw [List.mem_singleton.mp hx]; grind
      · by_cases k : e < f
        · refine ⟨f, f0, fun x hx => ?_, fun z => by simp at z, fun _ => ?_⟩
          · rcases List.mem_cons.mp hx with z | z
            · rw [z]; exact k
            · exact f1 x z
          · obtain ⟨x, hx, h⟩ := f3 d
            exact ⟨x, List.mem_cons_of_mem _ hx, h⟩
        · refine ⟨e + 1/9, by grind, fun x hx => ?_, fun z => by simp at z, fun _ => ⟨e, List.mem_cons_self, .inl rfl⟩⟩
          rcases List.mem_cons.mp hx with z | z
          · rw [z]; grind
          · have := f1 x z
            grind
/-- past all borders, at one of the law's own spots -/
theorem far_spot {bs : List Rat} (h : ∀ e ∈ bs, 0 < e) (am : Rat) : ∃ far : Rat, 0 < far ∧ (∀ e ∈ bs, e < far) ∧ far ∈ spotsM am bs := by
  obtain ⟨f, f0, f1, f2, f3⟩ := far_of bs
  refine ⟨f, f0, f1, ?_⟩
  unfold spotsM
  by_cases c : bs = []
  · rw [f2 c]
    exact List.mem_append_left _ (by simp)
  · obtain ⟨e, he, z⟩ := f3 c
    have := h e he
    rcases z with z | z
    · refine List.mem_append_right _ (List.mem_flatMap.mpr ⟨e, he, ?_⟩)
      rw [z]; simp [spot3]
    · exact absurd z (by grind)
theorem bord_spot {bs : List Rat} {e : Rat} (h : e ∈ bs) (am : Rat) : e ∈ spotsM am bs := List.mem_append_right _ (List.mem_flatMap.mpr ⟨e, h, by simp [spot3]⟩)
/-! ### a spot's size -/
def XOk (x : Rat) : Prop := ∃ N : Nat, 0 < N ∧ 6 ∣ N ∧ N < 2 ^ 700 ∧ G N (2 ^ 60) x
theorem XOk.nn {x : Rat} (h : XOk x) : 0 ≤ x := by obtain ⟨N, _, _, _, g⟩ := h; exact g.1
theorem XOk.fit {x : Rat} (h : XOk x) : Fit x := by
  obtain ⟨N, h0, _, h1, g⟩ := h
  exact g.fit h0 (plt h1 (by omega)) (plt (i := 61) (by decide) (by omega))
def EOk (e : Rat) : Prop := ∃ E : Nat, 0 < E ∧ E < 2 ^ 560 ∧ G E (2 ^ 50) e
theorem EOk.fit {x : Rat} (h : EOk x) : Fit x := by
  obtain ⟨N, h0, h1, g⟩ := h
  exact g.fit h0 (plt h1 (by omega)) (plt (i := 61) (by decide) (by omega))
theorem spots_ok {t b : Nat} (ht : t < 10000) (hb : b = 1 ∨ b = 2 ∨ b = 3) {es : List Rat} (he : ∀ e ∈ es, EOk e) : ∀ x ∈ spotsM (mkRat (t : Int) b) es, XOk x := fun x hx => by
  unfold spotsM at hx
  rcases List.mem_append.mp hx with z | z
  · simp only [List.mem_cons, List.not_mem_nil, or_false] at z
    have six : ∀ {y : Rat}, G 6 (2 ^ 60) y → XOk y := fun g => ⟨6, by decide, by decide, plt (i := 60) (by decide) (by omega), g⟩
    rcases z with z | z | z
    · rw [z]; exact six (G.zero _ _)
    · rw [z]; exact six ((pg_limit (by omega) hb).mono (by decide))
    · rw [z]
      exact six ⟨by decide, by decide, 6000000000, by decide +kernel⟩
  · obtain ⟨e, he2, z⟩ := List.mem_flatMap.mp z
    obtain ⟨E, e0, e1, g⟩ := he e he2
    have n0 : 0 < 54 * E := Nat.mul_pos (by decide) e0
    have n6 : 6 ∣ 54 * E := ⟨9 * E, by omega⟩
    have n1 : 54 * E < 2 ^ 700 := plt (mlt (i := 6) (by decide) e1) (by omega)
    simp only [spot3, List.mem_cons, List.not_mem_nil, or_false] at z
    have ninth : G 9 1 (1/9) := ⟨by decide +kernel, by decide +kernel, 1, by decide +kernel⟩
    have eight : G 9 1 (8/9) := ⟨by decide +kernel, by decide +kernel, 8, by decide +kernel⟩
    rcases z with z | z | z
    · rw [z]; exact ⟨_, n0, n6, n1, (g.dvd ⟨54, by omega⟩).mono (by decide)⟩
    · rw [z]; exact ⟨_, n0, n6, n1, ((g.dvd ⟨54, by omega⟩).add (ninth.dvd ⟨6 * E, by omega⟩)).mono (by decide)⟩
    · rw [z]
      have := g.mul eight
      exact ⟨_, n0, n6, n1, (this.dvd ⟨6, by omega⟩).mono (by decide)⟩
/-! ### the law's own walk -/
theorem walkok_snoc : ∀ {ps : List Part} {l : Fl} {left : List Str} {p : Part}, WalkOk l left ps → WStep (ps.foldl stepP l) (ps.foldl leftStep left) p → WalkOk l left (ps ++ [p])
  | [], l, left, p, h, k => ⟨k, trivial⟩
  | q :: ps, l, left, p, h, k => ⟨h.1, walkok_snoc h.2 k⟩
theorem flowok_split : ∀ {ps : List Part} {l : Fl} {p : Part}, FlowOk l (ps ++ [p]) → FlowOk l ps ∧ FStep (ps.foldl stepP l) p
  | [], l, p, h => ⟨trivial, h.1⟩
  | q :: ps, l, p, h => ⟨⟨h.1, (flowok_split h.2).1⟩, (flowok_split h.2).2⟩
theorem walk_ok {x : Rat} : ∀ ps : List Part, Valid ps → FlowOk (run0 x) ps → WalkOk (run0 x) ["in"] ps := by
  refine snoc_ind (fun _ _ => trivial) ?_
  intro ps p ih hv hf
  obtain ⟨v1, v2⟩ := valid_snoc hv
  obtain ⟨f1, f2⟩ := flowok_split hf
  obtain ⟨l1, l2, _⟩ := left_facts ps v1
  have inl : ∀ n ∈ p.ins, n ∈ ps.foldl leftStep ["in"] := fun n hn => (l2 n).mpr ⟨v2.im n hn, v2.it n hn⟩
  refine walkok_snoc (ih v1 f1) ?_
  cases p with
  | weir a q t r => exact ⟨inl a List.mem_cons_self, f2⟩
  | div a q t r => exact ⟨inl a List.mem_cons_self, f2⟩
  | join a b t =>
    have ab : a ≠ b := by
      have := v2.ni
      simpa [Part.ins] using this
    exact ⟨inl a List.mem_cons_self, (List.Nodup.mem_erase_iff l1).mpr ⟨ab.symm, inl b (List.mem_cons_of_mem _ List.mem_cons_self)⟩, f2⟩
theorem Nice.flow {ps : List Part} (h : Nice ps) {x : Rat} (hx : XOk x) : FlowOk (run0 x) ps := by
  obtain ⟨N, h0, h6, h1, g⟩ := hx
  exact (flow_sizes h0 h6 h1 (plt (i := 61) (by decide) (by omega)) (by decide) g ps h.val h.pg h.len).2
theorem Nice.walk {ps : List Part} (h : Nice ps) {x : Rat} (hx : XOk x) : WalkOk (run0 x) ["in"] ps := walk_ok ps h.val (h.flow hx)
theorem Nice.q {ps : List Part} (h : Nice ps) : ∀ p ∈ ps, QOk p := fun p hp => (h.pg p hp).q
/-! ### amounts -/
theorem G.fitB {N B : Nat} {q : Rat} (h : G N B q) (hN : 0 < N) (h1 : N < 2 ^ 1900) (h2 : B < 2 ^ 1900) : Fit q := by
  obtain ⟨g1, g2⟩ := h.num hN
  exact ⟨h.1, Nat.lt_of_le_of_lt g1 (plt (mlt h2 h1) (by omega)), Nat.lt_of_le_of_lt g2 (plt h1 (by omega))⟩
theorem G.mn {N B : Nat} {a b : Rat} (h : G N B a) (k : G N B b) : G N B (mn a b) := by unfold LN.mn; split <;> assumption
theorem amt_ok {P : Nat} {x : Rat} {o : Str} (hP : 0 < P) (bP : P < 2 ^ 1300) (gx : G P (2 ^ 60) x) : ∀ {T : Tab} {fd b b0 : Rat} {j : Nat}, AscT b0 T → b = mn x b0 → (∀ e, some e ∈ T.map (·.1) → G P (2 ^ 60) e) → (∀ r ∈ T, ShG r.2 ∧ ∀ p ∈ r.2, G (12 ^ 8) 1 p.2) → G P (2 ^ 60) b →
    G (12 ^ 8 * P) (j * 2 ^ 60) fd → j + T.length ≤ 100 → AmtOk o x fd b T := by
  have bN : 12 ^ 8 * P < 2 ^ (60 + 1300) := mlt (by decide) bP
  have pN : 0 < 12 ^ 8 * P := Nat.mul_pos (by decide) hP
  have fP : ∀ {q : Rat}, G P (2 ^ 60) q → Fit q := fun h => h.fitB hP (plt bP (by omega)) (plt (i := 61) (by decide) (by omega))
  have fF : ∀ {q : Rat} {j : Nat}, j ≤ 100 → G (12 ^ 8 * P) (j * 2 ^ 60) q → Fit q := fun hj h => h.fitB pN (plt bN (by omega)) (plt (i := 68) (Nat.lt_of_le_of_lt (Nat.mul_le_mul_right _ hj) (by decide)) (by omega))
  intro T
  induction T with
  | nil => intro fd b b0 j h; exact h.elim
  | cons r T ih =>
    obtain ⟨u, s⟩ := r
    intro fd b b0 j h hb he hs gb gf hj
    simp only [List.length_cons] at hj
    obtain ⟨s1, s2⟩ := hs _ List.mem_cons_self
    have nd : (s.map (·.1)).Nodup := s1.1.imp fun {a b} hab e => by rw [e, ltS_irr] at hab; cases hab
    have gs : G (12 ^ 8) 1 (gS s o) := by
      rcases gS_mem (s := s) (o := o) with z | ⟨q, hq, _, z⟩
      · rw [z]; exact G.zero _ _
      · rw [z]; exact s2 q hq
    have gl : G P (2 ^ 60) (loE x u) := by
      cases u with
      | none => exact gx
      | some e => exact gx.mn (he e List.mem_cons_self)
    have gd : b < loE x u → G P (2 ^ 60) (loE x u - b) := fun z => gl.sub gb (Rat.le_of_lt z)
    have gm : b < loE x u → G (12 ^ 8 * P) (2 ^ 60) (gS s o * (loE x u - b)) := fun z => by
      have := gs.mul (gd z)
      rw [Nat.one_mul] at this
      exact this
    have gm1 : b < loE x u → G (12 ^ 8 * P) ((j + 1) * 2 ^ 60) (fd + gS s o * (loE x u - b)) := fun z => by
      rw [show (j + 1) * 2 ^ 60 = j * 2 ^ 60 + 2 ^ 60 from Nat.succ_mul _ _]
      exact gf.add (gm z)
    refine ⟨fF (j := j) (by omega) gf, fP gb, fun e z => fP (he e (by rw [z]; exact List.mem_cons_self)), nd, fit12 gs, fun z => ⟨fP (gd z), fF (j := 1) (by omega) (by rw [Nat.one_mul]; exact gm z), ?_⟩, fun z => ?_⟩
    · cases u with
      | none =>
        have e2 : T = [] := List.map_eq_nil_iff.mp (show T.map (·.1) = [] from h)
        subst e2
        exact ⟨fF (j := j + 1) (by omega) (gm1 z), fP gl⟩
      | some e => exact ih (b0 := e) h.2 rfl (fun y hy => he y (List.mem_cons_of_mem _ hy)) (fun r hr => hs r (List.mem_cons_of_mem _ hr)) gl (gm1 z) (by omega)
    · cases u with
      | none =>
        have e2 : T = [] := List.map_eq_nil_iff.mp (show T.map (·.1) = [] from h)
        subst e2
        exact ⟨fF (j := j) (by omega) gf, fP gb⟩
      | some e =>
        have h1 : b0 < e := h.1
        have eq : b = LN.mn x e := by
          have z2 : ¬ b < LN.mn x e := z
          rw [hb] at z2 ⊢
          unfold LN.mn at *; grind
        exact ih (b0 := e) (j := j) h.2 eq (fun y hy => he y (List.mem_cons_of_mem _ hy)) (fun r hr => hs r (List.mem_cons_of_mem _ hr)) gb gf (by omega)
theorem Bt.amt {T : Tab} (h : Bt T) {x : Rat} (hx : XOk x) (o : Str) : AmtOk o x 0 0 T := by
  obtain ⟨N, n0, _, n1, g⟩ := hx
  obtain ⟨E, e0, e1, he⟩ := h.gr
  have hP : N * E < 2 ^ 1300 := plt (mlt n1 e1) (by omega)
  refine amt_ok (P := N * E) (Nat.mul_pos n0 e0) hP (g.dvd ⟨E, rfl⟩) (j := 0) (b0 := 0) h.can.asc (mn_of_ge g.1).symm (fun e z => ((he e z).dvd ⟨N, Nat.mul_comm _ _⟩).mono (by decide)) (fun r hr => ⟨h.can.sh r hr, h.sg r hr⟩) (G.zero _ _) (G.zero _ _) (by have := h.tl; omega)
theorem Bt.ends {T : Tab} (h : Bt T) : ∃ bs : List Rat, bordM T = bs.map some ∧ T.map (·.1) = bs.map some ++ [none] ∧ (∀ e ∈ bs, 0 < e ∧ EOk e) ∧ bs.length ≤ 6 := by
  obtain ⟨bs, h1, h2, h3⟩ := bord_shape h.can.asc
  obtain ⟨E, e0, e1, he⟩ := h.gr
  refine ⟨bs, h1, h2, fun e z => ⟨h3 e z, E, e0, e1, he e ?_⟩, ?_⟩
  · rw [h2]; exact List.mem_append_left _ (List.mem_map.mpr ⟨e, z, rfl⟩)
  · have := congrArg List.length h2
    rw [List.length_map, List.length_append, List.length_map, List.length_singleton] at this
    have := h.tl
    omega
theorem Bt.okT {T : Tab} (h : Bt T) : T.Ok := fun r hr p hp => (h.nm r hr p hp).1
theorem Bt.few {T : Tab} (h : Bt T) : T.length ≤ 1000 ∧ (∀ r ∈ T, r.2.length ≤ 1000) ∧ (namesOf T).length < 64 := by
  have := names_le h.tl h.rl
  exact ⟨by have := h.tl; omega, fun r hr => by have := h.rl r hr; omega, by omega⟩
/-! ### two nets with the same outlets -/
theorem same_table {ps qs : List Part} (h : Nice ps) (k : Nice qs) {bs cs : List Rat} (hb : (tableM ps).map (·.1) = bs.map some ++ [none]) (hc : (tableM qs).map (·.1) = cs.map some ++ [none]) (pb : ∀ e ∈ bs, 0 < e) (pc : ∀ e ∈ cs, 0 < e) (am : Rat)
    (heq : ∀ x ∈ spotsM am (bs ++ cs), ∀ o, amtM (tableM ps) o x = amtM (tableM qs) o x) : tableM ps = tableM qs := by
  have p2 : ∀ e ∈ bs ++ cs, 0 < e := fun e he => by
    rcases List.mem_append.mp he with z | z
    · exact pb e z
    · exact pc e z
  obtain ⟨far, f0, f1, f2⟩ := far_spot p2 am
  have cT := table_can h.val h.q
  have cU := table_can k.val k.q
  have mem : ∀ {e : Rat} {l : List Rat}, some e ∈ l.map some ++ [none] → e ∈ l := fun hz => by
    rcases List.mem_append.mp hz with z | z
    · obtain ⟨x, hx, e⟩ := List.mem_map.mp z
      injection e with e
      rw [← e]; exact hx
    · simp at z
  have inn : ∀ e, (some e ∈ (tableM ps).map (·.1) ∨ some e ∈ (tableM qs).map (·.1)) → e ∈ bs ++ cs := fun e z => by
    rw [hb, hc] at z
    rcases z with z | z
    · exact List.mem_append_left _ (mem z)
    · exact List.mem_append_right _ (mem z)
  refine table_uniq (far := far) cT cU f0 (fun e z => f1 e (inn e z)) fun o x hp => ?_
  have key : ∀ x, 0 ≤ x → x ∈ spotsM am (bs ++ cs) → tarea x 0 (tableM ps) o = tarea x 0 (tableM qs) o := fun x hx hm => by
    rw [← amtM_eq cT.asc hx, ← amtM_eq cU.asc hx]
    exact heq x hm o
  rcases hp with z | z | z
  · have := inn x (.inl z)
    exact key x (Rat.le_of_lt (p2 x this)) (bord_spot this am)
  · have := inn x (.inr z)
    exact key x (Rat.le_of_lt (p2 x this)) (bord_spot this am)
  · rw [z]; exact key far (Rat.le_of_lt f0) f2
end LN
namespace LN
open PySem PySem.Spec PyProof.Rows L2 SlX
/-! ### a net that is changed so that nothing changes -/
theorem sw_in : swN "in" = "zc" := if_pos rfl
theorem sw_ne {n : Str} (h : n ≠ "in") : swN n = n := if_neg h
theorem len_ne {n : Str} {z : Str} (h : n.length = 1) (k : z.length = 2) : n ≠ z := fun e => by rw [e, k] at h; cases h
theorem sw_inj {n m : Str} (hn : n = "in" ∨ n.length = 1) (hm : m = "in" ∨ m.length = 1) (h : swN n = swN m) : n = m := by
  rcases hn with rfl | hn <;> rcases hm with rfl | hm
  · rfl
  · rw [sw_in, sw_ne (len_ne hm (by decide))] at h
    exact absurd h.symm (len_ne hm (by decide))
  · rw [sw_in, sw_ne (len_ne hn (by decide))] at h
    exact absurd h (len_ne hn (by decide))
  · rw [sw_ne (len_ne hn (by decide)), sw_ne (len_ne hm (by decide))] at h
    exact h
theorem nodup_map {f : Str → Str} : ∀ {l : List Str}, l.Nodup → (∀ a ∈ l, ∀ b ∈ l, f a = f b → a = b) → (l.map f).Nodup
  | [], _, _ => List.nodup_nil
  | x :: l, h, k => by
    rw [List.nodup_cons] at h
    rw [List.map_cons, List.nodup_cons]
    refine ⟨fun z => ?_, nodup_map h.2 fun a ha b hb => k a (List.mem_cons_of_mem _ ha) b (List.mem_cons_of_mem _ hb)⟩
    obtain ⟨y, hy, e⟩ := List.mem_map.mp z
    exact h.1 (by rw [← k y (List.mem_cons_of_mem _ hy) x List.mem_cons_self e]; exact hy)
theorem turn_ins (p : Part) : (turnP p).ins = p.ins.map swN := by cases p <;> rfl
theorem turn_outs (p : Part) : (turnP p).outs = p.outs.map swN := by cases p <;> rfl
theorem turn_pg {p : Part} (h : PG p) : PG (turnP p) := by cases p <;> exact h
theorem first_facts {f : Part} (h : firstOk f) : f.ins = [("in" : Str)] ∧ f.outs = [("za" : Str), ("zb" : Str)] ∧ PG f := by
  rcases h with rfl | rfl
  · exact ⟨rfl, rfl, ⟨by decide, by decide, 12, by decide +kernel⟩⟩
  · exact ⟨rfl, rfl, ⟨by decide +kernel, by decide +kernel, 4, by decide +kernel⟩⟩
theorem map_sw {l : List Str} (h : ∀ n ∈ l, n ≠ "in") : l.map swN = l := by
  induction l with
  | nil => rfl
  | cons a l ih => rw [List.map_cons, sw_ne (h a List.mem_cons_self), ih fun n hn => h n (List.mem_cons_of_mem _ hn)]
theorem outs_ni {ps : List Part} {p : Part} (h : PartOk (takenOf ps) (madeOf ps) p) : ∀ n ∈ p.outs, n ≠ "in" := fun n hn e => h.om n hn (by rw [e]; exact List.mem_cons_self)
theorem chg_snoc (f : Part) (ps : List Part) (p : Part) : chgM f (ps ++ [p]) = chgM f ps ++ [turnP p] := by
  unfold chgM
  rw [List.map_append, ← List.append_assoc]; rfl
theorem chg_nil (f : Part) : chgM f [] = [f] ++ [.join "zb" "za" "zc"] := rfl
structure Chg (f : Part) (ps : List Part) : Prop where
  val : Valid (chgM f ps)
  made : ∀ n, n ∈ madeOf (chgM f ps) ↔ n = "za" ∨ n = "zb" ∨ n = "zc" ∨ n ∈ madeOf ps
  taken : ∀ n, n ∈ takenOf (chgM f ps) ↔ n = "in" ∨ n = "zb" ∨ n = "za" ∨ ∃ m ∈ takenOf ps, n = swN m
  run : ∀ x, 0 ≤ x → ∀ n ∈ madeOf ps, getP (runM (chgM f ps) x) (swN n) = getP (runM ps x) n
theorem chg_ok {f : Part} (hf : firstOk f) : ∀ ps : List Part, Valid ps → (∀ n ∈ madeOf ps, n = "in" ∨ n.length = 1) → Chg f ps := by
  obtain ⟨f1, f2, f3⟩ := first_facts hf
  refine snoc_ind ?_ ?_
  · intro _ _
    have m1 : madeOf [f] = [("in" : Str), ("za" : Str), ("zb" : Str)] := by
      show ("in" : Str) :: ([f].flatMap Part.outs) = _
      rw [List.flatMap_cons, f2]; rfl
    have t1 : takenOf [f] = [("in" : Str)] := by
      show [f].flatMap Part.ins = _
      rw [List.flatMap_cons, f1]; rfl
    have v1 : Valid ([] ++ [f]) := valid_of_snoc valid_nil ⟨by rw [f1]; simp, by rw [f2]; decide, by rw [f1]; simp [madeOf], by simp [takenOf], by rw [f2]; intro n hn; simp only [List.mem_cons, List.not_mem_nil, or_false] at hn; rcases hn with z | z <;> rw [z] <;> decide⟩
    have v2 : Valid ([f] ++ [.join "zb" "za" "zc"]) := valid_of_snoc v1 ⟨by decide, by decide, fun n hn => by
      rw [m1]
      simp only [Part.ins, List.mem_cons, List.not_mem_nil, or_false] at hn ⊢
      rcases hn with z | z
      · exact .inr (.inr z)
      · exact .inr (.inl z), fun n hn => by
      rw [t1]
      simp only [Part.ins, List.mem_cons, List.not_mem_nil, or_false] at hn
      rcases hn with z | z <;> rw [z] <;> decide, fun n hn => by
      rw [m1]
      rw [List.mem_singleton.mp hn]; decide⟩
    refine ⟨v2, fun n => ?_, fun n => ?_, fun x hx n hn => ?_⟩
    · rw [chg_nil, made_snoc, m1]
      simp only [Part.outs, madeOf, List.flatMap_nil, List.cons_append, List.nil_append, List.mem_cons, List.not_mem_nil, or_false]
      constructor
      · rintro (z | z | z | z)
        · exact .inr (.inr (.inr z))
        · exact .inl z
        · exact .inr (.inl z)
        · exact .inr (.inr (.inl z))
      · rintro (z | z | z | z)
        · exact .inr (.inl z)
        · exact .inr (.inr (.inl z))
        · exact .inr (.inr (.inr z))
        · exact .inl z
    · rw [chg_nil, taken_snoc, t1]
      simp only [Part.ins, takenOf, List.flatMap_nil, List.cons_append, List.nil_append, List.mem_cons, List.not_mem_nil, or_false, false_and, exists_false]
    · have e : n = "in" := by simpa [madeOf] using hn
      subst e
      rw [sw_in]
      show getP (runM ([f] ++ [.join "zb" "za" "zc"]) x) "zc" = some x
      unfold runM
      rw [fold_snoc]
      show getP (putP _ "zc" (gS _ "zb" + gS _ "za")) "zc" = some x
      rw [getP_put, if_pos rfl]
      congr 1
      show gS (stepP (run0 x) f) "zb" + gS (stepP (run0 x) f) "za" = x
      have g0 : gS (run0 x) "in" = x := rfl
      have gz : ∀ (u v : Rat), gS (putP (putP (run0 x) "za" u) "zb" v) "zb" = v ∧ gS (putP (putP (run0 x) "za" u) "zb" v) "za" = u := fun u v => by
        unfold gS
        rw [getP_put, if_pos rfl, getP_put, if_neg (by decide), getP_put, if_pos rfl]
        exact ⟨rfl, rfl⟩
      rcases hf with rfl | rfl
      · show gS (putP (putP (run0 x) "za" (mn (gS (run0 x) "in") 2)) "zb" (gS (run0 x) "in" - mn (gS (run0 x) "in") 2)) "zb" + gS (putP (putP (run0 x) "za" (mn (gS (run0 x) "in") 2)) "zb" (gS (run0 x) "in" - mn (gS (run0 x) "in") 2)) "za" = x
        rw [(gz _ _).1, (gz _ _).2, g0]; grind
      · show gS (putP (putP (run0 x) "za" (gS (run0 x) "in" * (1/3))) "zb" (gS (run0 x) "in" - gS (run0 x) "in" * (1/3))) "zb" + gS (putP (putP (run0 x) "za" (gS (run0 x) "in" * (1/3))) "zb" (gS (run0 x) "in" - gS (run0 x) "in" * (1/3))) "za" = x
        rw [(gz _ _).1, (gz _ _).2, g0]; grind
  · intro ps p ih hv hlt
    obtain ⟨v1, v2⟩ := valid_snoc hv
    have hlt1 : ∀ n ∈ madeOf ps, n = "in" ∨ n.length = 1 := fun n hn => hlt n (by rw [made_snoc]; exact List.mem_append_left _ hn)
    have ho : ∀ n ∈ p.outs, n ≠ "in" ∧ n.length = 1 := fun n hn => by
      have h1 := outs_ni v2 n hn
      exact ⟨h1, (hlt n (by rw [made_snoc]; exact List.mem_append_right _ hn)).resolve_left h1⟩
    have i := ih v1 hlt1
    have eo : (turnP p).outs = p.outs := by rw [turn_outs, map_sw fun n hn => (ho n hn).1]
    have tkm := (left_facts ps v1).2.2
    have z2 : ("za" : Str).length = 2 ∧ ("zb" : Str).length = 2 ∧ ("zc" : Str).length = 2 ∧ ("in" : Str).length = 2 := by decide
    have swl : ∀ {n : Str}, n = "in" ∨ n.length = 1 → swN n ≠ "in" ∧ swN n ≠ "zb" ∧ swN n ≠ "za" := fun {n} h => by
      rcases h with rfl | h
      · rw [sw_in]; decide
      · rw [sw_ne (len_ne h z2.2.2.2)]
        exact ⟨len_ne h z2.2.2.2, len_ne h z2.2.1, len_ne h z2.1⟩
    have po : PartOk (takenOf (chgM f ps)) (madeOf (chgM f ps)) (turnP p) := by
      refine ⟨?_, by rw [eo]; exact v2.no, fun n hn => ?_, fun n hn => ?_, fun n hn => ?_⟩
      · rw [turn_ins]
        exact nodup_map v2.ni fun a ha b hb e => sw_inj (hlt1 a (v2.im a ha)) (hlt1 b (v2.im b hb)) e
      · rw [turn_ins] at hn
        obtain ⟨m, hm, rfl⟩ := List.mem_map.mp hn
        rw [i.made]
        rcases hlt1 m (v2.im m hm) with z | z
        · rw [z, sw_in]; exact .inr (.inr (.inl rfl))
        · rw [sw_ne (len_ne z z2.2.2.2)]; exact .inr (.inr (.inr (v2.im m hm)))
      · rw [turn_ins] at hn
        obtain ⟨m, hm, rfl⟩ := List.mem_map.mp hn
        rw [i.taken]
        have hm1 := hlt1 m (v2.im m hm)
        obtain ⟨s1, s2, s3⟩ := swl hm1
        rintro (z | z | z | ⟨k, hk, z⟩)
        · exact s1 z
        · exact s2 z
        · exact s3 z
        · exact v2.it m hm (by rw [sw_inj hm1 (hlt1 k (tkm k hk)) z]; exact hk)
      · rw [eo] at hn
        rw [i.made]
        rintro (z | z | z | z)
        · exact len_ne (ho n hn).2 z2.1 z
        · exact len_ne (ho n hn).2 z2.2.1 z
        · exact len_ne (ho n hn).2 z2.2.2.1 z
        · exact v2.om n hn z
    refine ⟨by rw [chg_snoc]; exact valid_of_snoc i.val po, fun n => ?_, fun n => ?_, fun x hx n hn => ?_⟩
    · rw [chg_snoc, made_snoc, List.mem_append, i.made, made_snoc, List.mem_append, eo]
      constructor
      · rintro ((z | z | z | z) | z)
        · exact .inl z
        · exact .inr (.inl z)
        · exact .inr (.inr (.inl z))
        · exact .inr (.inr (.inr (.inl z)))
        · exact .inr (.inr (.inr (.inr z)))
      · rintro (z | z | z | z | z)
        · exact .inl (.inl z)
        · exact .inl (.inr (.inl z))
        · exact .inl (.inr (.inr (.inl z)))
        · exact .inl (.inr (.inr (.inr z)))
        · exact .inr z
    · rw [chg_snoc, taken_snoc, List.mem_append, i.taken, taken_snoc, turn_ins, List.mem_map]
      constructor
      · rintro ((z | z | z | ⟨m, hm, z⟩) | ⟨m, hm, z⟩)
        · exact .inl z
        · exact .inr (.inl z)
        · exact .inr (.inr (.inl z))
        · exact .inr (.inr (.inr ⟨m, List.mem_append_left _ hm, z⟩))
        · exact .inr (.inr (.inr ⟨m, List.mem_append_right _ hm, z.symm⟩))
      · rintro (z | z | z | ⟨m, hm, z⟩)
        · exact .inl (.inl z)
        · exact .inl (.inr (.inl z))
        · exact .inl (.inr (.inr (.inl z)))
        · rcases List.mem_append.mp hm with y | y
          · exact .inl (.inr (.inr (.inr ⟨m, y, z⟩)))
          · exact .inr ⟨m, y, z.symm⟩
    · have hr := i.run x hx
      unfold runM at hr ⊢
      rw [chg_snoc, fold_snoc, fold_snoc]
      generalize (chgM f ps).foldl stepP (run0 x) = l' at hr ⊢
      generalize ps.foldl stepP (run0 x) = l at hr ⊢
      have hg : ∀ a ∈ p.ins, gS l' (swN a) = gS l a := fun a ha => by
        unfold gS
        rw [hr a (v2.im a ha)]
      have hn1 := hlt n hn
      rw [made_snoc] at hn
      have swo : ∀ {t : Str}, t ∈ p.outs → swN t = t ∧ (swN n = t ↔ n = t) := fun {t} ht => by
        have h1 := ho t ht
        refine ⟨sw_ne h1.1, fun z => ?_, fun z => by rw [z]; exact sw_ne h1.1⟩
        refine sw_inj hn1 (.inr h1.2) ?_
        rw [z, sw_ne h1.1]
      have base : n ∉ p.outs → getP l' (swN n) = getP l n := fun h => hr n ((List.mem_append.mp hn).resolve_right h)
      cases p with
      | weir a q t r =>
        have h1 := swo (t := t) (by simp [Part.outs])
        have h2 := swo (t := r) (by simp [Part.outs])
        show getP (putP (putP l' (swN t) (mn (gS l' (swN a)) q)) (swN r) (gS l' (swN a) - mn (gS l' (swN a)) q)) (swN n) = getP (putP (putP l t (mn (gS l a) q)) r (gS l a - mn (gS l a) q)) n
        rw [hg a (by simp [Part.ins]), h1.1, h2.1, getP_put, getP_put, getP_put, getP_put]
        by_cases c : n = r
        · rw [if_pos c, if_pos (h2.2.mpr c)]
        · rw [if_neg c, if_neg fun z => c (h2.2.mp z)]
          by_cases d : n = t
          · rw [if_pos d, if_pos (h1.2.mpr d)]
          · rw [if_neg d, if_neg fun z => d (h1.2.mp z)]
            exact base (by simp [Part.outs, c, d])
      | div a q t r =>
        have h1 := swo (t := t) (by simp [Part.outs])
        have h2 := swo (t := r) (by simp [Part.outs])
        show getP (putP (putP l' (swN t) (gS l' (swN a) * q)) (swN r) (gS l' (swN a) - gS l' (swN a) * q)) (swN n) = getP (putP (putP l t (gS l a * q)) r (gS l a - gS l a * q)) n
        rw [hg a (by simp [Part.ins]), h1.1, h2.1, getP_put, getP_put, getP_put, getP_put]
        by_cases c : n = r
        · rw [if_pos c, if_pos (h2.2.mpr c)]
        · rw [if_neg c, if_neg fun z => c (h2.2.mp z)]
          by_cases d : n = t
          · rw [if_pos d, if_pos (h1.2.mpr d)]
          · rw [if_neg d, if_neg fun z => d (h1.2.mp z)]
            exact base (by simp [Part.outs, c, d])
      | join a b t =>
        have h1 := swo (t := t) (by simp [Part.outs])
        show getP (putP l' (swN t) (gS l' (swN a) + gS l' (swN b))) (swN n) = getP (putP l t (gS l a + gS l b)) n
        rw [hg a (by simp [Part.ins]), hg b (by simp [Part.ins]), h1.1, getP_put, getP_put]
        by_cases d : n = t
        · rw [if_pos d, if_pos (h1.2.mpr d)]
        · rw [if_neg d, if_neg fun z => d (h1.2.mp z)]
          exact base (by simp [Part.outs, d])
theorem outs_eq {ps qs : List Part} (h : ∀ n, (n ∈ madeOf ps ∧ n ∉ takenOf ps) ↔ (n ∈ madeOf qs ∧ n ∉ takenOf qs)) : outsOf ps = outsOf qs :=
  sorted_uniq (perm_of (setS_nodup _) (setS_nodup _) fun n => by
    show n ∈ outsOf ps ↔ n ∈ outsOf qs
    rw [outs_mem, outs_mem]; exact h n) (isortS_sorted _) (isortS_sorted _)
theorem chg_table {f : Part} {ps : List Part} (hf : firstOk f) (h : Drawn ps) (hne : ps ≠ []) : Nice (chgM f ps) ∧ tableM (chgM f ps) = tableM ps := by
  have c := chg_ok hf ps h.nice.val h.lt
  obtain ⟨f1, f2, f3⟩ := first_facts hf
  have nsw : ∀ n, NmS n → NmS (swN n) := fun n hn => by
    by_cases c : n = "in"
    · rw [c, sw_in]; exact ⟨by decide +kernel, by decide⟩
    · rw [sw_ne c]; exact hn
  have nice : Nice (chgM f ps) := by
    refine ⟨c.val, fun p hp n hn => ?_, fun p hp => ?_, ?_⟩
    · unfold chgM at hp
      rcases List.mem_append.mp hp with z | z
      · simp only [List.mem_cons, List.not_mem_nil, or_false] at z
        rcases z with z | z
        · rw [z, f1, f2] at hn
          simp only [List.cons_append, List.nil_append, List.mem_cons, List.not_mem_nil, or_false] at hn
          rcases hn with y | y | y <;> rw [y] <;> exact ⟨by decide +kernel, by decide⟩
        · rw [z] at hn
          simp only [Part.ins, Part.outs, List.cons_append, List.nil_append, List.mem_cons, List.not_mem_nil, or_false] at hn
          rcases hn with y | y | y <;> rw [y] <;> exact ⟨by decide +kernel, by decide⟩
      · obtain ⟨q, hq, rfl⟩ := List.mem_map.mp z
        rw [turn_ins, turn_outs, ← List.map_append] at hn
        obtain ⟨m, hm, rfl⟩ := List.mem_map.mp hn
        exact nsw m (h.nice.nm q hq m hm)
    · unfold chgM at hp
      rcases List.mem_append.mp hp with z | z
      · simp only [List.mem_cons, List.not_mem_nil, or_false] at z
        rcases z with z | z
        · rw [z]; exact f3
        · rw [z]; trivial
      · obtain ⟨q, hq, rfl⟩ := List.mem_map.mp z
        exact turn_pg (h.nice.pg q hq)
    · unfold chgM
      rw [List.length_append, List.length_map]
      have := h.six
      show 2 + ps.length ≤ 8
      omega
  refine ⟨nice, ?_⟩
  have hin := in_taken ps h.nice.val hne
  have tkm := (left_facts ps h.nice.val).2.2
  have z2 : ("za" : Str).length = 2 ∧ ("zb" : Str).length = 2 ∧ ("zc" : Str).length = 2 ∧ ("in" : Str).length = 2 := by decide
  have l1 : ∀ n ∈ madeOf ps, n ∉ takenOf ps → n ≠ "in" ∧ n.length = 1 := fun n hn ht => by
    have : n ≠ "in" := fun z => ht (by rw [z]; exact hin)
    exact ⟨this, (h.lt n hn).resolve_left this⟩
  have eo : outsOf (chgM f ps) = outsOf ps := outs_eq fun n => by
    rw [c.made, c.taken]
    constructor
    · rintro ⟨h1, h2⟩
      have hm : n ∈ madeOf ps := by
        rcases h1 with z | z | z | z
        · exact absurd (.inr (.inr (.inl z))) h2
        · exact absurd (.inr (.inl z)) h2
        · exact absurd (.inr (.inr (.inr ⟨"in", hin, by rw [sw_in]; exact z⟩))) h2
        · exact z
      refine ⟨hm, fun ht => ?_⟩
      by_cases e : n = "in"
      · exact h2 (.inl e)
      · exact h2 (.inr (.inr (.inr ⟨n, ht, (sw_ne e).symm⟩)))
    · rintro ⟨h1, h2⟩
      obtain ⟨k1, k2⟩ := l1 n h1 h2
      refine ⟨.inr (.inr (.inr h1)), ?_⟩
      rintro (z | z | z | ⟨m, hm, z⟩)
      · exact k1 z
      · exact len_ne k2 z2.2.1 z
      · exact len_ne k2 z2.1 z
      · rcases h.lt m (tkm m hm) with y | y
        · rw [y, sw_in] at z
          exact len_ne k2 z2.2.2.1 z
        · rw [sw_ne (len_ne y z2.2.2.2)] at z
          exact h2 (by rw [z]; exact hm)
  obtain ⟨bs, b1, b2, b3⟩ := bord_shape (table_can nice.val nice.q).asc
  obtain ⟨cs, c1, c2, c3⟩ := bord_shape (table_can h.nice.val h.nice.q).asc
  refine same_table nice h.nice b2 c2 b3 c3 0 fun x hx o => ?_
  have x0 : 0 ≤ x := by
    unfold spotsM at hx
    rcases List.mem_append.mp hx with z | z
    · simp only [List.mem_cons, List.not_mem_nil, or_false] at z
      rcases z with z | z | z <;> rw [z] <;> decide
    · obtain ⟨e, he, z⟩ := List.mem_flatMap.mp z
      have e0 : 0 < e := by
        rcases List.mem_append.mp he with y | y
        · exact b3 e y
        · exact c3 e y
      simp only [spot3, List.mem_cons, List.not_mem_nil, or_false] at z
      rcases z with z | z | z <;> rw [z] <;> grind
  rw [amt_flow nice.val nice.q x0, amt_flow h.nice.val h.nice.q x0, eo]
  by_cases d : o ∈ outsOf ps
  · rw [if_pos d, if_pos d]
    have hm := (outs_mem ps o).mp d
    have := c.run x x0 o hm.1
    rw [sw_ne (l1 o hm.1 hm.2).1] at this
    unfold gS
    rw [this]
  · rw [if_neg d, if_neg d]
/-! ### a net with one limit raised -/
def sk (p : Part) : List Str × List Str := (p.ins, p.outs)
theorem sk_made {ps qs : List Part} (h : ps.map sk = qs.map sk) : madeOf ps = madeOf qs ∧ takenOf ps = takenOf qs := by
  have e1 : ∀ l : List Part, l.flatMap Part.outs = (l.map sk).flatMap (·.2) := fun l => by
    induction l with
    | nil => rfl
    | cons a l ih => rw [List.flatMap_cons, List.map_cons, List.flatMap_cons, ih]; rfl
  have e2 : ∀ l : List Part, l.flatMap Part.ins = (l.map sk).flatMap (·.1) := fun l => by
    induction l with
    | nil => rfl
    | cons a l ih => rw [List.flatMap_cons, List.map_cons, List.flatMap_cons, ih]; rfl
  unfold madeOf takenOf
  rw [e1, e1, e2, e2, h]
  exact ⟨rfl, rfl⟩
theorem sk_valid {ps qs : List Part} (h : ps.map sk = qs.map sk) (hv : Valid ps) : Valid qs := fun d p t e => by
  rw [e, List.map_append, List.map_cons] at h
  obtain ⟨d', r', e1, e2, e3⟩ := List.map_eq_append_iff.mp h
  obtain ⟨p', t', e4, e5, e6⟩ := List.map_eq_cons_iff.mp e3
  have k := hv d' p' t' (by rw [e1, e4])
  obtain ⟨m1, m2⟩ := sk_made e2
  rw [m1, m2] at k
  have i1 : p'.ins = p.ins := congrArg Prod.fst e5
  have i2 : p'.outs = p.outs := congrArg Prod.snd e5
  exact ⟨by rw [← i1]; exact k.ni, by rw [← i2]; exact k.no, by rw [← i1]; exact k.im, by rw [← i1]; exact k.it, by rw [← i2]; exact k.om⟩
theorem bent_ok {A B : List Part} {a t r : Str} {q : Rat} (h : Drawn (A ++ .weir a q t r :: B)) : Nice (A ++ .weir a (q + 1/2) t r :: B) ∧ outsOf (A ++ .weir a (q + 1/2) t r :: B) = outsOf (A ++ .weir a q t r :: B) := by
  have hs : (A ++ .weir a q t r :: B).map sk = (A ++ .weir a (q + 1/2) t r :: B).map sk := by
    rw [List.map_append, List.map_append, List.map_cons, List.map_cons]; rfl
  obtain ⟨m1, m2⟩ := sk_made hs
  have me : (.weir a q t r : Part) ∈ A ++ .weir a q t r :: B := List.mem_append_right _ List.mem_cons_self
  have gq : G 6 10001 q := h.nice.pg _ me
  have wq : q ≤ 10000 := h.wl _ me
  have cs : ∀ {X : Part → Prop}, (∀ p ∈ A ++ .weir a q t r :: B, X p) → X (.weir a (q + 1/2) t r) → ∀ p ∈ A ++ .weir a (q + 1/2) t r :: B, X p := fun h1 h2 p hp => by
    rcases List.mem_append.mp hp with z | z
    · exact h1 p (List.mem_append_left _ z)
    · rcases List.mem_cons.mp z with z | z
      · rw [z]; exact h2
      · exact h1 p (List.mem_append_right _ (List.mem_cons_of_mem _ z))
  refine ⟨⟨sk_valid hs h.nice.val, cs h.nice.nm (h.nice.nm (.weir a q t r) me), cs h.nice.pg ?_, ?_⟩, by unfold outsOf; rw [m1, m2]⟩
  · have half : G 6 1 (1/2) := ⟨by decide +kernel, by decide +kernel, 3, by decide +kernel⟩
    have := gq.add half
    refine this.le ?_
    show q + 1/2 ≤ ((10001 : Nat) : Rat)
    have e : ((10001 : Nat) : Rat) = 10001 := rfl
    rw [e]; grind
  · have := h.nice.len
    rw [List.length_append, List.length_cons] at this ⊢
    exact this
/-- the two nets have one table exactly if the flows are the same at the spots -/
theorem bent_iff {ps qs : List Part} (h : Nice ps) (k : Nice qs) (ho : outsOf qs = outsOf ps) {bs cs : List Rat} (hb : (tableM ps).map (·.1) = bs.map some ++ [none]) (hc : (tableM qs).map (·.1) = cs.map some ++ [none]) (pb : ∀ e ∈ bs, 0 < e) (pc : ∀ e ∈ cs, 0 < e) {am : Rat}
    (h0 : ∀ x ∈ spotsM am (bs ++ cs), 0 ≤ x) : (tableM qs = tableM ps) ↔ ∀ x ∈ spotsM am (bs ++ cs), ∀ o ∈ outsOf ps, gS (runM ps x) o = gS (runM qs x) o := by
  constructor
  · intro e x hx o ho2
    have x0 := h0 x hx
    have e1 := amt_flow h.val h.q x0 o
    have e2 := amt_flow k.val k.q x0 o
    rw [if_pos ho2] at e1
    rw [ho, if_pos ho2, e] at e2
    rw [← e1, e2]
  · intro he
    refine (same_table h k hb hc pb pc am fun x hx o => ?_).symm
    have x0 := h0 x hx
    rw [amt_flow h.val h.q x0 o, amt_flow k.val k.q x0 o, ho]
    by_cases d : o ∈ outsOf ps
    · rw [if_pos d, if_pos d, he x hx o d]
    · rw [if_neg d, if_neg d]
end LN
namespace LN
open PySem PySem.Spec PyProof.Rows L2 SlX

/-! ### one limit raised -/
def wd : Part → Str
  | .weir _ _ _ _ => "weir"
  | .div _ _ _ _ => "divide"
  | .join _ _ _ => "join"
theorem bits_hd (p : Part) : (bits p)[0]? = some (.str (wd p)) := by cases p <;> rfl
theorem wd_ok : ∀ p : Part, StrOk (wd p)
  | .weir _ _ _ _ => (by decide +kernel : StrOk "weir")
  | .div _ _ _ _ => (by decide +kernel : StrOk "divide")
  | .join _ _ _ => (by decide +kernel : StrOk "join")
def isW (p : Part) : Bool := decide (wd p = "weir")
theorem isW_of {p : Part} (h : isW p = true) : ∃ a q t r, p = .weir a q t r := by
  cases p with
  | weir a q t r => exact ⟨a, q, t, r, rfl⟩
  | div a q t r => exact absurd (of_decide_eq_true h) (by show ¬ ("divide" : Str) = "weir"; decide)
  | join a b t => exact absurd (of_decide_eq_true h) (by show ¬ ("join" : Str) = "weir"; decide)
def keepW (ps : List Part) (i : Nat) : Bool := match ps[i]? with
  | some p => isW p
  | none => false
def wix (ps : List Part) : List Nat := (List.range ps.length).filter (keepW ps)
def natsD (l : List Nat) : List PyData := l.map fun (i : Nat) => .int (i : Int)
theorem pl_nats (l : List Nat) : Pl 1 (.list (natsD l)) := pl_list fun z hz => by
  obtain ⟨x, hx, rfl⟩ := List.mem_map.mp hz
  exact pl_int
theorem eqv_nnil (l : List Nat) : PyData.eqv (.list (natsD l)) (.list []) = decide (l = []) := eqv_dec (pl_nats l) (m := 1) (pl_list fun z hz => by simp at hz) (by
  cases l with
  | nil => simp [natsD]
  | cons a r => simp [natsD])
theorem fr_12 : PyData.tuple [.int 1, .int 2] = fr (1/2) := fr_lit (d := 2) (by decide +kernel) (by decide +kernel)
theorem fit_12 : Fit (1/2) := ⟨by decide +kernel, by decide +kernel, by decide +kernel⟩
theorem eqv_bools (a b : Bool) : PyData.eqv (.bool a) (.bool b) = (a == b) := by cases a <;> cases b <;> simp [PyData.eqv]
/-- how many outlets are told apart at x -/
def keepU (ps qs : List Part) (x : Rat) (o : Str) : Bool := decide (gS (runM ps x) o ≠ gS (runM qs x) o)
def unl (ps qs : List Part) (x : Rat) : Nat := ((outsOf ps).filter (keepU ps qs x)).length
theorem unl_zero (ps qs : List Part) (x : Rat) : unl ps qs x = 0 ↔ ∀ o ∈ outsOf ps, gS (runM ps x) o = gS (runM qs x) o := by
  unfold unl
  rw [List.length_eq_zero_iff, List.filter_eq_nil_iff]
  refine ⟨fun h o ho => ?_, fun h o ho => ?_⟩
  · have := h o ho
    unfold keepU at this
    simpa using this
  · unfold keepU
    simpa using h o ho
theorem sum_zero {f : Rat → Nat} : ∀ l : List Rat, (l.map f).sum = 0 ↔ ∀ x ∈ l, f x = 0
  | [] => by simp
  | x :: l => by
    rw [List.map_cons, List.sum_cons]
    have := sum_zero (f := f) l
    constructor
    · intro h y hy
      rcases List.mem_cons.mp hy with z | z
      · rw [z]; omega
      · exact this.mp (by omega) y z
    · intro h
      have h1 := h x List.mem_cons_self
      have h2 := this.mpr fun y hy => h y (List.mem_cons_of_mem _ hy)
      omega
theorem at_mid (A B : List Part) (p : Part) : ((A ++ p :: B).map partD)[A.length]? = some (partD p) := by
  rw [List.getElem?_map, List.getElem?_append_right (Nat.le_refl _), Nat.sub_self]; rfl
theorem cut_A (A B : List Part) (p : Part) : cutD ((A ++ p :: B).map partD) none (some ((A.length : Nat) : Int)) = A.map partD := by
  rw [cut_to, ← List.map_take]
  simp
theorem cut_B (A B : List Part) (p : Part) : cutD ((A ++ p :: B).map partD) (some ((A.length : Nat) + 1 : Int)) none = B.map partD := by
  have := cut_from ((A ++ p :: B).map partD) (A.length + 1)
  rw [show ((A.length : Nat) + 1 : Int) = ((A.length + 1 : Nat) : Int) from rfl, this, ← List.map_drop]
  simp
theorem wix_mem {ps : List Part} {i : Nat} (h : i ∈ wix ps) : ∃ A a q t r B, ps = A ++ Part.weir a q t r :: B ∧ i = A.length := by
  obtain ⟨h1, h2⟩ := List.mem_filter.mp h
  have hi := List.mem_range.mp h1
  unfold keepW at h2
  rw [List.getElem?_eq_getElem hi] at h2
  obtain ⟨a, q, t, r, e⟩ := isW_of h2
  refine ⟨ps.take i, a, q, t, r, ps.drop (i + 1), ?_, by rw [List.length_take]; omega⟩
  rw [← e, ← List.drop_eq_getElem_cons hi, List.take_append_drop]

section
variable {P : Program} {w : World} {K : Frg} {mg : Str → Option Value} {base : Heap}

def R_bent (C : Addr) : AN := fun xs M Q => ∃ (a : Addr) (x y c : Nat) (M1 M2 : Sto) (ps : List Part) (txt : Str), xs = [.m a, .d (partsD ps), netV C ps txt, .d (tabD (tableM ps))] ∧ M = M1 ++ bxM a x y c :: M2 ∧ Drawn ps ∧ y < 2 ^ 64 ∧ c < 2 ^ 61 ∧ ∀ (x' c' : Nat), x' ≤ x → c' ≤ c + 10 → Q (.d (.bool true)) (M1 ++ bxM a x' y c' :: M2)
abbrev N__law_bent_right : List Str := ["_law_box_here", "_law_parts_so", "_law_net_so", "_law_told", "_law_weirs_so", "_law_k", "_law_own", "_law_wide", "_law_bent", "_law_soon", "_law_unlike_so", "_law_far", "_law_mine", "_law_left", "_law_its", "_law_bit"]
theorem sc__law_bent_right : FnScope N__law_bent_right ["_law_box_here", "_law_parts_so", "_law_net_so", "_law_told"] (L2.defScope s__law_bent_right) := ⟨rfl, rfl, rfl, by decide +kernel, rfl, by decide +kernel, by decide +kernel⟩
set_option maxHeartbeats 4000000 in
theorem kp__law_bent_right (T : Tx K mg) (c__law_of : Kp P w K mg base 2 (He.ga K "_law_of") ["_law_box_here", "_law_goods_so"] R_pick) (c__law_plus : Kp P w K mg base 2 (He.ga K "_law_plus") ["_law_a_so", "_law_b_so"] R_lplus) (c_Net___init__ : Kp P w K mg base 6 (He.ma K (He.ga K "Net") "__init__") ["self", "parts"] (R_net (He.ga K "Net"))) (c_table_of : Kp P w K mg base 8 (He.ga K "table_of") ["net"] (R_tabl (He.ga K "Net"))) (c_alike : Kp P w K mg base 9 (He.ga K "alike") ["one", "other"] (R_alk (He.ga K "Net"))) (c__law_same : Kp P w K mg base 8 (He.ga K "_law_same") ["_law_got", "_law_due"] (R_same 6)) (c_borders : Kp P w K mg base 1 (He.ga K "borders") ["table"] R_borders) (c__law_spots : Kp P w K mg base 4 (He.ga K "_law_spots") ["_law_box_here", "_law_ends_so"] R_spots) (c__law_walk : Kp P w K mg base 3 (He.ga K "_law_walk") ["_law_parts_so", "_law_inflow_so"] R_walk) : Kp P w K mg base 10 (He.ga K "_law_bent_right") ["_law_box_here", "_law_parts_so", "_law_net_so", "_law_told"] (R_bent (He.ga K "Net")) := by
  refine kp_n (k := 9) (T.def_ 60) sc__law_bent_right (fun _ _ _ _ _ _ us hl => match us, hl with | [_, _, _, _], _ => rfl) (fun xs M Q h => ?len) (fun cdv A outer s H E hr => ⟨_, _, ⟨
    (pss_cons (ps_setLc (i := 4) (own := [("_law_k", 5)]) rfl sc__law_bent_right.nd rfl rfl (sw_true rfl rfl rfl (by decide +kernel)) (pi_range1 (by rfl) (T.free 75) (pa_cons (pe_callB call_len_seq (by rfl) (T.free 68) PySem.boot_len (pa_cons (pv 1) pa_nil)) pa_nil)) (blkOk_by (N := N__law_bent_right) (sc := L2.defScope s__law_bent_right) (by decide +kernel)) (fun _ _ _ _ _ => (pg_name (i := 5) sc__law_bent_right.nd rfl (Or.inl rfl))) (fun _ _ _ _ _ => pts_one (pt_cmpR (op_eqD hr.units) (pe_ix ix_seq (pe_ix ix_seq (pv 1) (pv 5) (fun _ _ => rfl)) pe_int (fun _ _ => rfl)) pe_str (nomark _))) (fun _ _ _ _ _ => (pv 5))) (pss_cons (ps_if (pt_cmpR (op_eqD hr.units) (pv 4) (pe_lst pa_nil) (nomark _)) (pss_one (ps_ret pe_bl)) pss_nil) (pss_cons (ps_set (i := 5) sc__law_bent_right.nd rfl (Or.inl rfl) (pe_def c__law_of (hr.mono (by decide)) (by rfl) (T.glo 33) (pa_cons (pv 0) (pa_cons (pv 4) pa_nil)))) (pss_cons (ps_set (i := 6) sc__law_bent_right.nd rfl (Or.inl rfl) (pe_ix ix_seq (pv 1) (pv 5) (fun _ _ => rfl))) (pss_cons (ps_set (i := 7) sc__law_bent_right.nd rfl (Or.inl rfl) (pe_tupS (pa_cons (pe_ix ix_seq (pv 6) pe_int (fun _ _ => rfl)) (pa_cons (pe_ix ix_seq (pv 6) pe_int (fun _ _ => rfl)) (pa_cons (pe_def c__law_plus (hr.mono (by decide)) (by rfl) (T.glo 36) (pa_cons (pe_ix ix_seq (pv 6) pe_int (fun _ _ => rfl)) (pa_cons (pe_tupS (pa_cons pe_int (pa_cons pe_int pa_nil))) pa_nil))) (pa_cons (pe_ix ix_seq (pv 6) pe_int (fun _ _ => rfl)) (pa_cons (pe_ix ix_seq (pv 6) pe_int (fun _ _ => rfl)) pa_nil))))))) (pss_cons (ps_set (i := 8) sc__law_bent_right.nd rfl (Or.inl rfl) (pe_op op_catS (pe_op op_catS (pe_slice (SlR.or sl_list sl_tupS) (pv 1) po_none (po_some (pv 5))) (pe_tupS (pa_cons (pv 7) pa_nil))) (pe_slice (SlR.or sl_list sl_tupS) (pv 1) (po_some (pe_op op_add (pv 5) pe_int)) po_none))) (pss_cons (ps_set (i := 9) sc__law_bent_right.nd rfl (Or.inl rfl) (pe_def c_table_of (hr.mono (by decide)) (by rfl) (T.glo 14) (pa_cons (pe_mk (T.mk_Net) c_Net___init__ (hr.mono (by decide)) (by rfl) (T.glo 67) (pa_cons (pv 8) pa_nil)) pa_nil))) (pss_cons (ps_if (pt_not (pt_val (pe_def c__law_same (hr.mono (by decide)) (by rfl) (T.glo 34) (pa_cons (pe_def c_alike (hr.mono (by decide)) (by rfl) (T.glo 19) (pa_cons (pv 2) (pa_cons (pe_mk (T.mk_Net) c_Net___init__ (hr.mono (by decide)) (by rfl) (T.glo 67) (pa_cons (pv 8) pa_nil)) pa_nil))) (pa_cons (pe_cmpR (op_eqD hr.units) (pv 9) (pv 3) (nomark _)) pa_nil))))) (pss_one (ps_ret pe_bl)) pss_nil) (pss_cons (ps_set (i := 10) sc__law_bent_right.nd rfl (Or.inl rfl) pe_int) (pss_cons (ps_for PassesOwn.never rfl (pi_list (pe_def c__law_spots (hr.mono (by decide)) (by rfl) (T.glo 44) (pa_cons (pv 0) (pa_cons (pe_op op_catL (pe_def c_borders (hr.mono (by decide)) (by rfl) (T.glo 15) (pa_cons (pv 3) pa_nil)) (pe_def c_borders (hr.mono (by decide)) (by rfl) (T.glo 15) (pa_cons (pv 9) pa_nil))) pa_nil)))) (pg_name (i := 11) sc__law_bent_right.nd rfl (Or.inl rfl)) (pss_cons (ps_asg (pe_def c__law_walk (hr.mono (by decide)) (by rfl) (T.glo 42) (pa_cons (pv 1) (pa_cons (pv 11) pa_nil))) (pg_tup (n := 2) rfl (pgs_cons (pg_name (i := 12) sc__law_bent_right.nd rfl (Or.inr rfl)) (pgs_cons (pg_name (i := 13) sc__law_bent_right.nd rfl (Or.inl rfl)) pgs_nil)))) (pss_cons (ps_asg (pe_def c__law_walk (hr.mono (by decide)) (by rfl) (T.glo 42) (pa_cons (pv 8) (pa_cons (pv 11) pa_nil))) (pg_tup (n := 2) rfl (pgs_cons (pg_name (i := 14) sc__law_bent_right.nd rfl (Or.inr rfl)) (pgs_cons (pg_name (i := 13) sc__law_bent_right.nd rfl (Or.inl rfl)) pgs_nil)))) (pss_one (ps_set (i := 10) sc__law_bent_right.nd rfl (Or.inl rfl) (pe_op op_add (pv 10) (pe_callB call_len_seq (by rfl) (T.free 68) PySem.boot_len (pa_cons (pe_lc (own := [("_law_bit", 15)]) rfl sc__law_bent_right.nd (pi_list (pv 13)) (blkOk_by (N := N__law_bent_right) (sc := L2.defScope s__law_bent_right) (by decide +kernel)) (fun _ _ _ _ _ => (pg_name (i := 15) sc__law_bent_right.nd rfl (Or.inl rfl))) (fun _ _ _ _ _ => pts_one (pt_cmpR (op_neD hr.units) (pe_dget (hu_of hr) (pv 12) (pv 15) (fun _ _ => rfl)) (pe_dget (hu_of hr) (pv 14) (pv 15) (fun _ _ => rfl)) (nomark _))) (fun _ _ _ _ _ => (pv 15))) pa_nil)))))))) (pss_one (ps_ret (pe_cmpR (op_eqD hr.units) (pe_cmpR (op_eqD hr.units) (pv 10) pe_int (nomark _)) (pe_cmpR (op_eqD hr.units) (pv 9) (pv 3) (nomark _)) (nomark _)))))))))))))),
    (ss_seq (ss_asg (se_lc (si_range (sa_cons (se_cb sn_len (sa_cons se_var sa_nil)) sa_nil)) sg_nm (wg_nm (by decide)) (st_T (se_op s2_eq (se_op s2_ix (se_op s2_ix se_var se_var) se_int) se_str)) se_var) sg_nm) (ss_seq (ss_if (st_T (se_op s2_eq se_var (se_lst sa_nil))) (ss_keep (ss_ret se_bl)) ss_next) (ss_seq (ss_asg (se_call (sa_cons se_var (sa_cons se_var sa_nil))) sg_nm) (ss_seq (ss_asg (se_op s2_ix se_var se_var) sg_nm) (ss_seq (ss_asg (se_tup (sa_cons (se_op s2_ix se_var se_int) (sa_cons (se_op s2_ix se_var se_int) (sa_cons (se_call (sa_cons (se_op s2_ix se_var se_int) (sa_cons (se_tup (sa_cons se_int (sa_cons se_int sa_nil))) sa_nil))) (sa_cons (se_op s2_ix se_var se_int) (sa_cons (se_op s2_ix se_var se_int) sa_nil)))))) sg_nm) (ss_seq (ss_asg (se_op s2_catT (se_op s2_catT (se_sl se_var so_none (so_some se_var)) (se_tup (sa_cons se_var sa_nil))) (se_sl se_var (so_some (se_op s2_I0 se_var se_int)) so_none)) sg_nm) (ss_seq (ss_asg (se_call (sa_cons (se_makeSl (sa_cons se_var sa_nil)) sa_nil)) sg_nm) (ss_seq (ss_if (st_not (st_B (se_call (sa_cons (se_call (sa_cons se_var (sa_cons (se_makeSl (sa_cons se_var sa_nil)) sa_nil))) (sa_cons (se_op s2_eq se_var se_var) sa_nil))))) (ss_keep (ss_ret se_bl)) ss_next) (ss_seq (ss_asg se_int sg_nm) (ss_seq (ss_for (si_lst (se_call (sa_cons se_var (sa_cons (se_op s2_catL (se_call (sa_cons se_var sa_nil)) (se_call (sa_cons se_var sa_nil))) sa_nil)))) sg_nm (ss_keep (ss_seq (ss_asg (se_call (sa_cons se_var (sa_cons se_var sa_nil))) (sg_tupP (sgs_cons sg_nm (sgs_cons sg_nm sgs_nil)))) (ss_seq (ss_asg (se_call (sa_cons se_var (sa_cons se_var sa_nil))) (sg_tupP (sgs_cons sg_nm (sgs_cons sg_nm sgs_nil)))) (ss_asg (se_op s2_I0 se_var (se_cb sn_len (sa_cons (se_lc (si_lst se_var) sg_nm (wg_nm (by decide)) (st_T (se_op s2_ne (se_dget se_var se_var) (se_dget se_var se_var))) se_var) sa_nil))) sg_nm))))) (ss_keep (ss_ret (se_op s2_eq (se_op s2_eq se_var se_int) (se_op s2_eq se_var se_var))))))))))))))⟩, fun xs M Qa h => ?body⟩)
  case len => obtain ⟨a, x, y, c, M1, M2, ps, txt, rfl, _⟩ := h; rfl
  case body =>
    obtain ⟨a, x, y, c, M1, M2, ps, txt, rfl, rfl, dr, y1, c1, qq⟩ := h
    have l6 := dr.six
    have nmp := fun p (hp : p ∈ ps) => (dr.nice.parts p hp).1
    refine ⟨_, rfl, .inr (.inl ⟨_, rfl, ps.length, by rw [List.length_map], by omega, ?_⟩)⟩
    refine lcF (List.range ps.length) (fun (i : Nat) => .d (.int (i : Int))) (keepW ps) (fun (i : Nat) => .int (i : Int)) (by rw [List.length_range]; omega) (fun i hi p Z Y hZ hY => ?_) ?_
    · have hi := List.mem_range.mp hi
      have e0 : keepW ps i = isW ps[i] := by unfold keepW; rw [List.getElem?_eq_getElem hi]
      refine ⟨_, rfl, _, rfl, ps.map partD, (i : Int), partD ps[i], .inl rfl, rfl, atI_nat _ _ _ (by rw [List.getElem?_map, List.getElem?_eq_getElem hi]; rfl), bits ps[i], 0, .str (wd ps[i]), .inl (by rw [partD_bits]), rfl, atI_nat _ 0 _ (bits_hd _), _, _, rfl, rfl, sh_str (wd_ok _), sh_str (by decide +kernel), _, rfl, iteB (fun z => ?_) (fun z => ?_)⟩
      · refine ⟨_, rfl, _, _, rfl, Sub.refl _, rfl, hZ ?_⟩
        rw [id, eqv_strs] at z
        rw [e0]
        exact decide_eq_true (by simpa using z)
      · refine ⟨_, Sub.refl _, rfl, hY ?_⟩
        rw [id, eqv_strs] at z
        rw [e0]
        exact decide_eq_false (by simpa using z)
    · refine ⟨_, rfl, _, rfl, (show 0 ≤ 1000000 by decide), _, _, rfl, rfl, pl_shaped (pl_nats (wix ps)), by decide +kernel, _, rfl, ?_⟩
      show if PyData.eqv (.list (natsD (wix ps))) (.list []) = true then _ else _
      rw [eqv_nnil]
      refine iteB (fun _ => ⟨_, Sub.refl _, _, Sub.refl _, qq x c (Nat.le_refl _) (by omega)⟩) (fun hw => ?_)
      have hw : wix ps ≠ [] := of_decide_eq_false hw
      have wl : (wix ps).length ≤ 6 := by
        unfold wix
        have := List.length_filter_le (keepW ps) (List.range ps.length)
        rw [List.length_range] at this
        omega
      refine ⟨_, rfl, _, rfl, a, x, y, c, M1, M2, natsD (wix ps), rfl, rfl, fun z => hw (List.map_eq_nil_iff.mp z), by unfold natsD; rw [List.length_map]; omega, y1, by omega, fun d hd x2 c2 hx2 hc2 => ?_⟩
      obtain ⟨i, hi, rfl⟩ := List.mem_map.mp hd
      obtain ⟨A, b, q, t, r, B, rfl, rfl⟩ := wix_mem hi
      obtain ⟨nb, ho⟩ := bent_ok dr
      have me : (.weir b q t r : Part) ∈ A ++ .weir b q t r :: B := List.mem_append_right _ List.mem_cons_self
      have fq : Fit q := G10 (dr.nice.pg _ me)
      have lb : (A ++ Part.weir b (q + 1/2) t r :: B).length ≤ 6 := by
        rw [List.length_append, List.length_cons] at l6 ⊢
        exact l6
      generalize hqs : A ++ Part.weir b (q + 1/2) t r :: B = qs at nb ho lb
      have bt1 := dr.nice.bt l6
      have bt2 := nb.bt lb
      refine ⟨_, rfl, _, rfl, _, _, _, .inl rfl, rfl, atI_nat _ _ _ (at_mid A B _), ?_⟩
      refine ⟨_, rfl, _, 0, _, .inl rfl, rfl, atI_nat _ 0 _ rfl, _, rfl, _, 1, _, .inl rfl, rfl, atI_nat _ 1 _ rfl, _, rfl, _, 2, _, .inl rfl, rfl, atI_nat _ 2 _ rfl, _, rfl, (show 2 ≤ 1000000 by decide), q, 1/2, by rw [← fr_12], fq, fit_12, _, rfl, _, 3, _, .inl rfl, rfl, atI_nat _ 3 _ rfl, _, rfl, _, 4, _, .inl rfl, rfl, atI_nat _ 4 _ rfl, _, rfl, (show 5 ≤ 1000000 by decide), ?_⟩
      have lA : A.length + (B.length + 1) ≤ 6 := by rw [List.length_append, List.length_cons] at l6; exact l6
      refine ⟨_, rfl, _, rfl, _, rfl, .inl ⟨_, rfl, ?_⟩⟩
      rw [cut_A]
      refine ⟨_, rfl, _, rfl, (show 1 ≤ 1000000 by decide), _, _, rfl, rfl, by rw [List.length_map]; show _ + 1 ≤ _; omega, _, rfl, _, rfl, _, _, rfl, rfl, _, rfl, .inl ⟨_, rfl, ?_⟩⟩
      rw [cut_B]
      refine ⟨_, _, rfl, rfl, by rw [List.length_append, List.length_map, List.length_map]; show _ + 1 + _ ≤ _; omega, ?_⟩
      have eb : PyData.tuple ((A.map partD ++ [.tuple [.str "weir", .str b, fr (q + 1/2), .str t, .str r]]) ++ B.map partD) = partsD qs := by
        rw [← hqs]
        unfold partsD
        rw [List.map_append, List.map_cons, List.append_assoc]; rfl
      refine sub_v (G := fun v M => gNm 8 v _ M _) (.d (partsD qs)) ?_ ?_
      · exact congrArg Va.d eb
      have mkn : ∀ (x dx : Addr) (t' : Str), True := fun _ _ _ => trivial
      refine ⟨_, rfl, fun x0 dx0 => ⟨x0, dx0, qs, _, rfl, rfl, nb.val, nb.parts, by omega, fun tx => ⟨rfl, _, _, rfl, by simp, qs, tx, rfl, nb.tab, ?_⟩⟩⟩
      have shq := pl_shaped (pl_tab (n := 0) bt2.okT)
      have shp := pl_shaped (pl_tab (n := 0) bt1.okT)
      have eqt : PyData.eqv (tabD (tableM qs)) (tabD (tableM (A ++ .weir b q t r :: B))) = decide (tableM qs = tableM (A ++ .weir b q t r :: B)) := eqv_dec (pl_tab (n := 0) bt2.okT) (pl_tab (n := 0) bt1.okT) tabD_inj
      refine ⟨_, rfl, _, rfl, fun x1 dx1 => ⟨x1, dx1, qs, _, rfl, rfl, nb.val, nb.parts, by omega, fun ty => ⟨rfl, _, _, rfl, by simp, _, txt, qs, ty, rfl, dr.nice.tab, nb.tab, bt1.okT, bt2.okT, _, rfl, _, rfl, _, _, rfl, rfl, shq, shp, .bool (decide (tableM qs = tableM (A ++ .weir b q t r :: B))), ?_, sd_bool _, _, rfl, iteB (fun z => nomatch z) (fun _ => ?_)⟩⟩⟩
      · rw [id, eqt]
        congr 3
        exact decide_eq_decide.mpr eq_comm
      · obtain ⟨bs, b1, b2, b3, b4⟩ := bt1.ends
        obtain ⟨cs, c1', c2', c3, c4⟩ := bt2.ends
        have eok : ∀ e ∈ bs ++ cs, EOk e := fun e he => by
          rcases List.mem_append.mp he with z | z
          · exact (b3 e z).2
          · exact (c3 e z).2
        refine ⟨_, rfl, _, rfl, _, bs, rfl, by have := bt1.tl; omega, b1, _, rfl, _, cs, rfl, by have := bt2.tl; omega, c1', _, _, rfl, rfl, by rw [List.length_map, List.length_map]; omega, a, x2, y, c2, M1, M2, bs ++ cs, by unfold rowD; rw [List.map_append], rfl, y1, by omega, fun e he => (eok e he).fit, by rw [List.length_append]; omega, fun tt bb x3 c3' htt hbb hx3 hc3 => ?_⟩
        have xok := spots_ok htt hbb eok
        have iff := bent_iff dr.nice nb ho b2 c2' (fun e he => (b3 e he).1) (fun e he => (c3 e he).1) (am := mkRat (tt : Int) bb) (fun x hx => (xok x hx).nn)
        generalize spotsM (mkRat (tt : Int) bb) (bs ++ cs) = spots at xok iff
        generalize hPs : A ++ Part.weir b q t r :: B = P at *
        refine ⟨_, rfl, fun rest ρ M' => ∃ (todo : List Rat) (v : Int) (w4 w5 w6 w7 u1 u2 u3 u4 u5 : Option Va), rest = (todo.map fr).map .d ∧ ρ = [some (.m a), some (.d (partsD P)), some (netV (He.ga K "Net") P txt), some (.d (tabD (tableM P))), w4, w5, w6, w7, some (.d (partsD qs)), some (.d (tabD (tableM qs))), some (.d (.int v)), u1, u2, u3, u4, u5] ∧
          Sub (M1 ++ bxM a x3 y c3' :: M2) M' ∧ (∀ x ∈ todo, XOk x) ∧ v + (((todo.map (unl P qs)).sum : Nat) : Int) = (((spots.map (unl P qs)).sum : Nat) : Int), ⟨spots, 0, _, _, _, _, none, none, none, none, none, rfl, rfl, Sub.refl _, xok, by omega⟩, ?_, ?_⟩
        · rintro d r ρ M' ⟨todo, v, w4, w5, w6, w7, u1, u2, u3, u4, u5, e1, rfl, sb, hx, hv⟩
          match todo, e1, hx, hv with
          | x0 :: todo, e1, hx, hv =>
            injection e1 with e3 e4
            subst e3
            have hx0 := hx x0 List.mem_cons_self
            refine ⟨_, sb, ?_⟩
            refine ⟨_, rfl, _, rfl, P, x0, rfl, by omega, dr.nice.walk hx0, fun f1 z1 hz1 hs1 => ⟨_, rfl, rfl, _, _, rfl, _, _, rfl, rfl, ?_⟩⟩
            refine ⟨_, rfl, _, rfl, qs, x0, rfl, by omega, nb.walk hx0, fun f2 z2 hz2 hs2 => ⟨_, rfl, rfl, _, _, rfl, _, _, rfl, rfl, ?_⟩⟩
            have ez : z2 = outsOf P := (left_outs nb.val hz2 hs2).trans ho
            subst ez
            refine ⟨_, rfl, _, rfl, _, rfl, ?_⟩
            have e5 : (strsD (outsOf P)).map Va.d = (outsOf P).map (fun o => Va.d (.str o)) := by unfold strsD; rw [List.map_map]; rfl
            rw [e5]
            have ol := outs_len dr.nice.val
            refine lcF (outsOf P) (fun o => .d (.str o)) (keepU P qs x0) (fun o => .str o) (by omega) (fun o ho2 p Z Y hZ hY => ?_) ?_
            · obtain ⟨r1, hr1⟩ := run_keys P x0 o (out_made ho2)
              obtain ⟨r2, hr2⟩ := run_keys qs x0 o (out_made (by rw [ho]; exact ho2))
              have ek : keepU P qs x0 o = decide (r1 ≠ r2) := by unfold keepU; rw [gS_of hr1, gS_of hr2]
              refine ⟨_, rfl, _, rfl, f1, _, o, _, [p, (f2, _)], _, rfl, rfl, rfl, dK_get hr1, _, rfl, _, rfl, f2, _, o, _, [p], _, rfl, rfl, rfl, dK_get hr2, _, _, rfl, rfl, sh_fr _, sh_fr _, _, rfl, iteB (fun z => ?_) (fun z => ?_)⟩
              · refine ⟨_, rfl, _, _, rfl, Sub.refl _, rfl, hZ ?_⟩
                rw [eqv_fr] at z
                rw [ek]
                simpa using z
              · refine ⟨_, Sub.refl _, rfl, hY ?_⟩
                rw [eqv_fr] at z
                rw [ek]
                simpa using z
            · refine .inl ⟨_, rfl, _, _, rfl, rfl, todo, _, _, _, _, _, _, _, _, _, _, e4, rfl, ⟨[(f2, _), (f1, _)], .refl _⟩, fun x hx2 => hx x (List.mem_cons_of_mem _ hx2), ?_⟩
              rw [List.map_cons, List.sum_cons] at hv
              rw [List.length_map]
              have e6 : ((outsOf P).filter (keepU P qs x0)).length = unl P qs x0 := rfl
              rw [e6]
              omega
        · rintro ρ M' ⟨todo, v, w4, w5, w6, w7, u1, u2, u3, u4, u5, e1, rfl, sb, hx, hv⟩
          match todo, e1, hv with
          | [], _, hv =>
            have hv2 : v = (((spots.map (unl P qs)).sum : Nat) : Int) := by
              rw [← hv]; simp
            refine ⟨_, sb, _, rfl, _, _, rfl, rfl, sh_int _, sh_int _, _, rfl, _, rfl, _, _, rfl, rfl, shq, shp, _, _, rfl, rfl, sh_bool _, sh_bool _, _, Sub.refl _, ?_⟩
            have key : PyData.eqv (.bool (id (PyData.eqv (.int v) (.int 0)))) (.bool (id (PyData.eqv (tabD (tableM qs)) (tabD (tableM P))))) = true := by
              rw [id, id, eqt, eqv_int, eqv_bools]
              have h1 : (v = 0) ↔ tableM qs = tableM P := by
                rw [iff, hv2]
                refine Iff.trans ?_ ((sum_zero (f := unl P qs) spots).trans (forall_congr' fun x => imp_congr_right fun _ => unl_zero P qs x))
                omega
              by_cases c : v = 0
              · rw [c, decide_eq_true (h1.mp c)]; rfl
              · rw [decide_eq_false fun z => c (h1.mpr z)]
                simp [c]
            rw [id, key]
            exact qq x3 c3' (by omega) (by omega)

end
end LN
namespace LN
open PySem PySem.Spec PyProof.Rows L2 SlX

theorem shsD_eq (s : Shs) : shsD s = .tuple (s.map fun p => .tuple [.str p.1, fr p.2]) := by
  unfold shsD itemsD
  rw [List.map_map]; rfl
theorem flow_eq (ps : List Part) (x : Rat) : PyData.tuple ((outsOf ps).map fun o => .tuple [.str o, fr (gS (runM ps x) o)]) = shsD (flowM ps x) := by
  rw [shsD_eq]
  unfold flowM
  rw [List.map_map]; rfl
theorem flow_okS {ps : List Part} (h : Nice ps) (x : Rat) : Shs.Ok (flowM ps x) := fun p hp => by
  unfold flowM at hp
  obtain ⟨o, ho, rfl⟩ := List.mem_map.mp hp
  exact (made_nm ps h.nm).1 o (out_made ho)
theorem flow_len (ps : List Part) (x : Rat) : (flowM ps x).length = (outsOf ps).length := by unfold flowM; rw [List.length_map]
theorem flow_has (ps : List Part) (x : Rat) : ∀ o ∈ outsOf ps, ∃ c, getP (runM ps x) o = some c := fun o ho => run_keys ps x o (out_made ho)
theorem pl_item {n : Nat} {o : Str} {q : Rat} (h : StrOk o) : Pl (n + 2) (.tuple [.str o, fr q]) := pl_tuple fun y hy => by
  simp only [List.mem_cons, List.not_mem_nil, or_false] at hy
  rcases hy with e | e <;> subst e
  · exact pl_str h
  · exact pl_fr _
theorem pl_partD {n : Nat} : ∀ {p : Part}, p.NmOk → Pl (n + 2) (partD p)
  | .weir a q t r, ⟨h1, h2, h3⟩ => pl_tuple fun x hx => by
    simp only [List.mem_cons, List.not_mem_nil, or_false] at hx
    rcases hx with e | e | e | e | e <;> subst e
    · exact pl_str (by decide +kernel)
    · exact pl_str h1
    · exact pl_fr q
    · exact pl_str h2
    · exact pl_str h3
  | .div a q t r, ⟨h1, h2, h3⟩ => pl_tuple fun x hx => by
    simp only [List.mem_cons, List.not_mem_nil, or_false] at hx
    rcases hx with e | e | e | e | e <;> subst e
    · exact pl_str (by decide +kernel)
    · exact pl_str h1
    · exact pl_fr q
    · exact pl_str h2
    · exact pl_str h3
  | .join a b t, ⟨h1, h2, h3⟩ => pl_tuple fun x hx => by
    simp only [List.mem_cons, List.not_mem_nil, or_false] at hx
    rcases hx with e | e | e | e <;> subst e
    · exact pl_str (by decide +kernel)
    · exact pl_str h1
    · exact pl_str h2
    · exact pl_str h3
theorem pl_parts {n : Nat} {ps : List Part} (h : ∀ p ∈ ps, p.NmOk) : Pl (n + 3) (partsD ps) := pl_tuple fun x hx => by
  obtain ⟨p, hp, rfl⟩ := List.mem_map.mp hx
  exact pl_partD (h p hp)
theorem eqv_pnil {ps : List Part} (h : ∀ p ∈ ps, p.NmOk) : PyData.eqv (partsD ps) (.tuple []) = decide (ps = []) := eqv_dec (n := 3) (m := 1) (pl_parts h) (pl_tuple fun z hz => by simp at hz) (by
  cases ps with
  | nil => simp [partsD]
  | cons a r => simp [partsD])
/-- what flows is an amount, or nothing -/
theorem flow_amt {ps : List Part} (h : Nice ps) {x : Rat} (hx : 0 ≤ x) {p : Str × Rat} (hp : p ∈ flowM ps x) : p ∈ amtsM (tableM ps) x ∨ p.2 = 0 := by
  unfold flowM at hp
  obtain ⟨o, ho, rfl⟩ := List.mem_map.mp hp
  have e := amt_flow h.val h.q hx o
  rw [if_pos ho] at e
  by_cases c : o ∈ outsT (tableM ps)
  · left
    unfold amtsM
    refine List.mem_map.mpr ⟨o, c, ?_⟩
    rw [e]
  · right
    show gS (runM ps x) o = 0
    rw [← e]
    have hn : ∀ r ∈ tableM ps, gS r.2 o = 0 := fun r hr => gS_zero fun z => c ((setS_mem _ _).mpr (List.mem_flatMap.mpr ⟨r, hr, z⟩))
    have key : ∀ (T : Tab) (fd b : Rat), (∀ r ∈ T, gS r.2 o = 0) → amtGo o x fd b T = fd := by
      intro T
      induction T with
      | nil => intro fd b _; rfl
      | cons r T ih =>
        intro fd b hr
        obtain ⟨u, s⟩ := r
        have h0 := hr _ List.mem_cons_self
        have ht := fun r (hr2 : r ∈ T) => hr r (List.mem_cons_of_mem _ hr2)
        unfold amtGo
        split
        · rw [ih _ _ ht]
          show fd + gS s o * _ = fd
          rw [show gS s o = 0 from h0]; grind
        · exact ih _ _ ht
    exact key _ _ _ hn

section
variable {P : Program} {w : World} {K : Frg} {mg : Str → Option Value} {base : Heap}

def R_case : AN := fun xs M Q => ∃ (a : Addr) (x y c : Nat) (M1 M2 : Sto) (ps : List Part), xs = [.m a, .d (partsD ps)] ∧ M = M1 ++ bxM a x y c :: M2 ∧ Drawn ps ∧ y < 2 ^ 64 ∧ c < 2 ^ 60 ∧ ∀ (x' c' : Nat), x' ≤ x → c' ≤ c + 20 → Q (.d (.bool true)) (M1 ++ bxM a x' y c' :: M2)
abbrev N__law_case_right : List Str := ["_law_box_here", "_law_parts_so", "_law_net_so", "_law_told", "_law_own", "_law_runs_so", "_law_left", "_law_due", "_law_bit", "_law_got", "_law_far_so"]
theorem sc__law_case_right : FnScope N__law_case_right ["_law_box_here", "_law_parts_so"] (L2.defScope s__law_case_right) := ⟨rfl, rfl, rfl, by decide +kernel, rfl, by decide +kernel, by decide +kernel⟩
set_option maxHeartbeats 4000000 in
theorem kp__law_case_right (T : Tx K mg) (c_Net___init__ : Kp P w K mg base 6 (He.ma K (He.ga K "Net") "__init__") ["self", "parts"] (R_net (He.ga K "Net"))) (c_table_of : Kp P w K mg base 8 (He.ga K "table_of") ["net"] (R_tabl (He.ga K "Net"))) (c_borders : Kp P w K mg base 1 (He.ga K "borders") ["table"] R_borders) (c__law_spots : Kp P w K mg base 4 (He.ga K "_law_spots") ["_law_box_here", "_law_ends_so"] R_spots) (c__law_walk : Kp P w K mg base 3 (He.ga K "_law_walk") ["_law_parts_so", "_law_inflow_so"] R_walk) (c_flow : Kp P w K mg base 5 (He.ga K "flow") ["net", "inflow"] (R_floww (He.ga K "Net"))) (c_amounts : Kp P w K mg base 5 (He.ga K "amounts") ["table", "inflow"] R_amounts) (c__law_same : Kp P w K mg base 8 (He.ga K "_law_same") ["_law_got", "_law_due"] (R_same 6)) (c__law_changed : Kp P w K mg base 3 (He.ga K "_law_changed") ["_law_box_here", "_law_parts_so"] R_chg) (c_leanest : Kp P w K mg base 9 (He.ga K "leanest") ["net"] (R_lean (He.ga K "Net"))) (c_alike : Kp P w K mg base 9 (He.ga K "alike") ["one", "other"] (R_alk (He.ga K "Net"))) (c__law_bent_right : Kp P w K mg base 10 (He.ga K "_law_bent_right") ["_law_box_here", "_law_parts_so", "_law_net_so", "_law_told"] (R_bent (He.ga K "Net"))) : Kp P w K mg base 11 (He.ga K "_law_case_right") ["_law_box_here", "_law_parts_so"] R_case := by
  refine kp_n (k := 10) (T.def_ 61) sc__law_case_right (fun _ _ _ _ _ _ us hl => match us, hl with | [_, _], _ => rfl) (fun xs M Q h => ?len) (fun cdv A outer s H E hr => ⟨_, _, ⟨
    (pss_cons (ps_set (i := 2) sc__law_case_right.nd rfl (Or.inl rfl) (pe_mk (T.mk_Net) c_Net___init__ (hr.mono (by decide)) (by rfl) (T.glo 67) (pa_cons (pv 1) pa_nil))) (pss_cons (ps_set (i := 3) sc__law_case_right.nd rfl (Or.inr rfl) (pe_def c_table_of (hr.mono (by decide)) (by rfl) (T.glo 14) (pa_cons (pv 2) pa_nil))) (pss_cons (ps_for PassesOwn.never rfl (pi_list (pe_def c__law_spots (hr.mono (by decide)) (by rfl) (T.glo 44) (pa_cons (pv 0) (pa_cons (pe_def c_borders (hr.mono (by decide)) (by rfl) (T.glo 15) (pa_cons (pv 3) pa_nil)) pa_nil)))) (pg_name (i := 4) sc__law_case_right.nd rfl (Or.inr rfl)) (pss_cons (ps_asg (pe_def c__law_walk (hr.mono (by decide)) (by rfl) (T.glo 42) (pa_cons (pv 1) (pa_cons (pv 4) pa_nil))) (pg_tup (n := 2) rfl (pgs_cons (pg_name (i := 5) sc__law_case_right.nd rfl (Or.inr rfl)) (pgs_cons (pg_name (i := 6) sc__law_case_right.nd rfl (Or.inl rfl)) pgs_nil)))) (pss_cons (ps_set (i := 7) sc__law_case_right.nd rfl (Or.inl rfl) (pe_callTy call_tupleS (by rfl) (T.free 69) boot_tuple (pa_cons (pe_lc (own := [("_law_bit", 8)]) rfl sc__law_case_right.nd (pi_list (pv 6)) (blkOk_by (N := N__law_case_right) (sc := L2.defScope s__law_case_right) (by decide +kernel)) (fun _ _ _ _ _ => (pg_name (i := 8) sc__law_case_right.nd rfl (Or.inl rfl))) (fun _ _ _ _ _ => pts_nil) (fun _ _ _ _ _ => (pe_tupS (pa_cons (pv 8) (pa_cons (pe_dget (hu_of hr) (pv 5) (pv 8) (fun _ _ => rfl)) pa_nil))))) pa_nil))) (pss_cons (ps_setLc (i := 9) (own := [("_law_bit", 8)]) rfl sc__law_case_right.nd rfl rfl (sw_true rfl rfl rfl (by decide +kernel)) (pi_tup (pe_def c_flow (hr.mono (by decide)) (by rfl) (T.glo 29) (pa_cons (pv 2) (pa_cons (pv 4) pa_nil)))) (blkOk_by (N := N__law_case_right) (sc := L2.defScope s__law_case_right) (by decide +kernel)) (fun _ _ _ _ _ => (pg_name (i := 8) sc__law_case_right.nd rfl (Or.inl rfl))) (fun _ _ _ _ _ => pts_one (PW.pt (pw_or (pt_cmpR (op_inDT (u65 hr)) (pv 8) (pe_def c_amounts (hr.mono (by decide)) (by rfl) (T.glo 18) (pa_cons (pv 3) (pa_cons (pv 4) pa_nil))) rfl) (pw_or1 (pt_cmpR (op_eqD hr.units) (pe_ix ix_seq (pv 8) pe_int (fun _ _ => rfl)) (pe_tupS (pa_cons pe_int (pa_cons pe_int pa_nil))) (nomark _)))))) (fun _ _ _ _ _ => (pv 8))) (pss_one (ps_if (pt_not (pt_val (pe_def c__law_same (hr.mono (by decide)) (by rfl) (T.glo 34) (pa_cons (pe_lst (pa_cons (pe_def c_flow (hr.mono (by decide)) (by rfl) (T.glo 29) (pa_cons (pv 2) (pa_cons (pv 4) pa_nil))) (pa_cons (pe_callTy call_tupleS (by rfl) (T.free 69) boot_tuple (pa_cons (pv 9) pa_nil)) pa_nil))) (pa_cons (pe_lst (pa_cons (pv 7) (pa_cons (pv 7) pa_nil))) pa_nil))))) (pss_one (ps_ret pe_bl)) pss_nil)))))) (pss_cons (ps_if (pt_cmpR (op_neD hr.units) (pv 1) (pe_tupS pa_nil) (nomark _)) (pss_cons (ps_set (i := 10) sc__law_case_right.nd rfl (Or.inl rfl) (pe_mk (T.mk_Net) c_Net___init__ (hr.mono (by decide)) (by rfl) (T.glo 67) (pa_cons (pe_def c__law_changed (hr.mono (by decide)) (by rfl) (T.glo 45) (pa_cons (pv 0) (pa_cons (pv 1) pa_nil))) pa_nil))) (pss_cons (ps_set (i := 9) sc__law_case_right.nd rfl (Or.inl rfl) (pe_lst (pa_cons (pe_cmpR (op_eqD hr.units) (pe_def c_table_of (hr.mono (by decide)) (by rfl) (T.glo 14) (pa_cons (pv 10) pa_nil)) (pv 3) (nomark _)) (pa_cons (pe_def c_alike (hr.mono (by decide)) (by rfl) (T.glo 19) (pa_cons (pv 2) (pa_cons (pv 10) pa_nil))) (pa_cons (pe_cmpR (op_eqD hr.units) (pe_def c_table_of (hr.mono (by decide)) (by rfl) (T.glo 14) (pa_cons (pe_def c_leanest (hr.mono (by decide)) (by rfl) (T.glo 27) (pa_cons (pv 2) pa_nil)) pa_nil)) (pv 3) (nomark _)) pa_nil))))) (pss_one (ps_if (pt_not (pt_val (pe_def c__law_same (hr.mono (by decide)) (by rfl) (T.glo 34) (pa_cons (pv 9) (pa_cons (pe_lst (pa_cons pe_bl (pa_cons pe_bl (pa_cons pe_bl pa_nil)))) pa_nil))))) (pss_one (ps_ret pe_bl)) pss_nil)))) pss_nil) (pss_one (ps_ret (pe_def c__law_bent_right (hr.mono (by decide)) (by rfl) (T.glo 46) (pa_cons (pv 0) (pa_cons (pv 1) (pa_cons (pv 2) (pa_cons (pv 3) pa_nil))))))))))),
    (ss_seq (ss_asg (se_makeSl (sa_cons se_var sa_nil)) sg_nm) (ss_seq (ss_asg (se_call (sa_cons se_var sa_nil)) sg_nm) (ss_seq (ss_for (si_lst (se_call (sa_cons se_var (sa_cons (se_call (sa_cons se_var sa_nil)) sa_nil)))) sg_nm (ss_keep (ss_seq (ss_asg (se_call (sa_cons se_var (sa_cons se_var sa_nil))) (sg_tupP (sgs_cons sg_nm (sgs_cons sg_nm sgs_nil)))) (ss_seq (ss_asg (se_cb sn_tuple (sa_cons (se_lc (si_lst se_var) sg_nm (wg_nm (by decide)) st_yes' (se_tup (sa_cons se_var (sa_cons (se_dget se_var se_var) sa_nil)))) sa_nil)) sg_nm) (ss_seq (ss_asg (se_lc (si_tup (se_call (sa_cons se_var (sa_cons se_var sa_nil)))) sg_nm (wg_nm (by decide)) (st_or (st_T (se_op s2_inT se_var (se_call (sa_cons se_var (sa_cons se_var sa_nil))))) (st_T (se_op s2_eq (se_op s2_ix se_var se_int) (se_tup (sa_cons se_int (sa_cons se_int sa_nil)))))) se_var) sg_nm) (ss_if (st_not (st_B (se_call (sa_cons (se_lst (sa_cons (se_call (sa_cons se_var (sa_cons se_var sa_nil))) (sa_cons (se_cb sn_tuple (sa_cons se_var sa_nil)) sa_nil))) (sa_cons (se_lst (sa_cons se_var (sa_cons se_var sa_nil))) sa_nil))))) (ss_keep (ss_ret se_bl)) ss_next)))))) (ss_seq (ss_if (st_T (se_op s2_ne se_var (se_tup sa_nil))) (ss_keep (ss_seq (ss_asg (se_makeSl (sa_cons (se_call (sa_cons se_var (sa_cons se_var sa_nil))) sa_nil)) sg_nm) (ss_seq (ss_asg (se_lst (sa_cons (se_op s2_eq (se_call (sa_cons se_var sa_nil)) se_var) (sa_cons (se_call (sa_cons se_var (sa_cons se_var sa_nil))) (sa_cons (se_op s2_eq (se_call (sa_cons (se_call (sa_cons se_var sa_nil)) sa_nil)) se_var) sa_nil)))) sg_nm) (ss_if (st_not (st_B (se_call (sa_cons se_var (sa_cons (se_lst (sa_cons se_bl (sa_cons se_bl (sa_cons se_bl sa_nil)))) sa_nil))))) (ss_keep (ss_ret se_bl)) ss_next)))) ss_next) (ss_keep (ss_ret (se_call (sa_cons se_var (sa_cons se_var (sa_cons se_var (sa_cons se_var sa_nil)))))))))))⟩, fun xs M Qa h => ?body⟩)
  case len => obtain ⟨a, x, y, c, M1, M2, ps, rfl, _⟩ := h; rfl
  case body =>
    obtain ⟨a, x, y, c, M1, M2, ps, rfl, rfl, dr, y1, c1, qq⟩ := h
    have l6 := dr.six
    have bt1 := dr.nice.bt l6
    have nk := dr.nice.tab.net
    have nmp := fun p (hp : p ∈ ps) => (dr.nice.parts p hp).1
    have shp := pl_shaped (pl_tab (n := 0) bt1.okT)
    obtain ⟨bs, b1, b2, b3, b4⟩ := bt1.ends
    refine ⟨_, rfl, fun x0 dx0 => ⟨x0, dx0, ps, _, rfl, rfl, dr.nice.val, dr.nice.parts, by omega, fun tx => ⟨rfl, _, _, rfl, by simp, ?_⟩⟩⟩
    refine ⟨_, rfl, ps, tx, rfl, dr.nice.tab, ?_⟩
    refine ⟨_, rfl, _, rfl, _, bs, rfl, by have := bt1.tl; omega, b1, a, x, y, c, M1, M2, bs, rfl, rfl, y1, by omega, fun e he => (b3 e he).2.fit, by omega, fun tt bb x3 c3 htt hbb hx3 hc3 => ?_⟩
    have xok := spots_ok htt hbb fun e he => (b3 e he).2
    generalize spotsM (mkRat (tt : Int) bb) bs = spots at xok
    have fin : ∀ (x4 c4 : Nat) (u4 u5 u6 u7 u8 u9 u10 : Option Va) (M' : Sto), x4 ≤ x → c4 ≤ c + 5 → Sub (M1 ++ bxM a x4 y c4 :: M2) M' → ∃ M'', Sub M'' M' ∧ R_bent (He.ga K "Net") [.m a, .d (partsD ps), netV (He.ga K "Net") ps tx, .d (tabD (tableM ps))] M'' (fun v M1 => ∃ M', Sub M' M1 ∧ Qa v M') := fun x4 c4 u4 u5 u6 u7 u8 u9 u10 M' hx4 hc4 sb =>
      ⟨_, sb, a, x4, y, c4, M1, M2, ps, tx, rfl, rfl, dr, y1, by omega, fun x5 c5 hx5 hc5 => ⟨_, Sub.refl _, qq x5 c5 (by omega) (by omega)⟩⟩
    refine ⟨_, rfl, fun rest ρ M' => ∃ (todo : List Rat) (u4 u5 u6 u7 u8 u9 u10 : Option Va), rest = (todo.map fr).map .d ∧ ρ = [some (.m a), some (.d (partsD ps)), some (netV (He.ga K "Net") ps tx), some (.d (tabD (tableM ps))), u4, u5, u6, u7, u8, u9, u10] ∧
      Sub (M1 ++ bxM a x3 y c3 :: M2) M' ∧ (∀ x ∈ todo, XOk x), ⟨spots, none, none, none, none, none, none, none, rfl, rfl, Sub.refl _, xok⟩, ?_, ?_⟩
    · rintro d r ρ M' ⟨todo, u4, u5, u6, u7, u8, u9, u10, e1, rfl, sb, hx⟩
      match todo, e1, hx with
      | x0 :: todo, e1, hx =>
        injection e1 with e3 e4
        subst e3
        have hx0 := hx x0 List.mem_cons_self
        have ol := outs_len dr.nice.val
        refine ⟨_, sb, ?_⟩
        refine ⟨_, rfl, _, rfl, ps, x0, rfl, by omega, dr.nice.walk hx0, fun f1 z1 hz1 hs1 => ⟨_, rfl, rfl, _, _, rfl, _, _, rfl, rfl, ?_⟩⟩
        have ez : z1 = outsOf ps := left_outs dr.nice.val hz1 hs1
        subst ez
        refine ⟨_, rfl, _, rfl, ?_⟩
        have e5 : (strsD (outsOf ps)).map Va.d = (outsOf ps).map (fun o => Va.d (.str o)) := by unfold strsD; rw [List.map_map]; rfl
        rw [e5]
        refine lcS (outsOf ps) (fun o => .d (.str o)) (fun o => .tuple [.str o, fr (gS (runM ps x0) o)]) (by omega) (fun o ho p Z hZ => ?_) ?_
        · obtain ⟨c0, hc0⟩ := flow_has ps x0 o ho
          rw [gS_of hc0] at hZ
          exact ⟨_, rfl, _, rfl, _, rfl, f1, _, o, _, [_], _, rfl, rfl, rfl, dK_get hc0, _, rfl, (show 2 ≤ 1000000 by decide), _, _, rfl, Sub.refl _, rfl, hZ⟩
        · refine .inl ⟨_, rfl, ?_⟩
          refine ⟨_, rfl, _, rfl, ps, tx, x0, rfl, nk, by omega, dr.nice.flow hx0, flow_has ps x0, _, rfl, ?_⟩
          have e6 : (itemsD ((flowM ps x0).map fun p => (p.1, fr p.2))).map Va.d = (flowM ps x0).map (fun p => Va.d (.tuple [.str p.1, fr p.2])) := by unfold itemsD; rw [List.map_map, List.map_map]; rfl
          rw [e6]
          refine lcF (flowM ps x0) (fun p => .d (.tuple [.str p.1, fr p.2])) (fun _ => true) (fun p => .tuple [.str p.1, fr p.2]) (by rw [flow_len]; omega) (fun p hp q Z Y hZ hY => ?_) ?_
          · have hok := flow_okS dr.nice x0 p hp
            have ha : Shs.Ok (amtsM (tableM ps) x0) := fun p' hp' => by
              unfold amtsM at hp'
              obtain ⟨o, ho, rfl⟩ := List.mem_map.mp hp'
              obtain ⟨r, hr, hn⟩ := List.mem_flatMap.mp ((setS_mem _ _).mp ho)
              obtain ⟨p2, hp2, rfl⟩ := List.mem_map.mp hn
              exact bt1.okT r hr p2 hp2
            refine ⟨_, rfl, _, rfl, _, rfl, tableM ps, x0, rfl, hx0.fit, bt1.few.1, bt1.few.2.1, bt1.few.2.2, fun o _ => bt1.amt hx0 o, _, _, rfl, rfl, pl_shaped (pl_item (n := 0) hok), pl_shaped (pl_shs (n := 0) ha), _, rfl, iteB (fun z => ⟨_, rfl, _, _, rfl, Sub.refl _, rfl, hZ rfl⟩) (fun z => ?_)⟩
            refine ⟨_, rfl, _, 1, _, .inl rfl, rfl, atI_nat _ 1 _ rfl, _, rfl, (show 2 ≤ 1000000 by decide), _, _, rfl, rfl, sh_fr _, by decide +kernel, _, rfl, iteB (fun z => ⟨_, rfl, _, _, rfl, Sub.refl _, rfl, hZ rfl⟩) (fun z2 => ?_)⟩
            exfalso
            rcases flow_amt dr.nice hx0.nn hp with hm | h0
            · have hi : PyData.tuple [.str p.1, fr p.2] ∈ itemsD ((amtsM (tableM ps) x0).map fun p => (p.1, fr p.2)) := by
                unfold itemsD
                rw [List.map_map]
                exact List.mem_map.mpr ⟨p, hm, rfl⟩
              have := (any_pl (n := 2) (m := 2) (fun z hz => by
                unfold itemsD at hz
                rw [List.map_map] at hz
                obtain ⟨p, hp, rfl⟩ := List.mem_map.mp hz
                exact pl_item (n := 0) (ha p hp)) (pl_item (n := 0) hok)).mpr hi
              rw [id, this] at z
              cases z
            · have e7 : PyData.eqv (fr p.2) (.tuple [.int 0, .int 1]) = true := by
                rw [h0, fr_0, eqv_fr]; simp
              have z3 : PyData.eqv (fr p.2) (.tuple [.int 0, .int 1]) = false := z2
              rw [e7] at z3
              cases z3
          · have ef : (flowM ps x0).filter (fun _ => true) = flowM ps x0 := List.filter_eq_self.mpr (by simp)
            rw [ef]
            refine ⟨_, rfl, _, rfl, ps, tx, x0, rfl, nk, by omega, dr.nice.flow hx0, flow_has ps x0, _, rfl, .inl ⟨_, rfl, _, rfl, (show 2 ≤ 1000000 by decide), _, rfl, _, rfl, _, rfl, (show 2 ≤ 1000000 by decide), .list [shsD (flowM ps x0), shsD (flowM ps x0)], ?_, ?_, _, rfl, iteB (fun z => nomatch z) (fun _ => ?_)⟩⟩
            · rw [← shsD_eq, flow_eq]
            · refine sd_lst (show 2 ≤ 100000 by decide) fun d hd => ?_
              simp only [List.mem_cons, List.not_mem_nil, or_false] at hd
              have hsd : SD 5 (shsD (flowM ps x0)) := sd_shs (by rw [flow_len]; omega) (flow_okS dr.nice x0)
              rcases hd with e | e <;> rw [e] <;> exact hsd
            · exact ⟨todo, _, _, _, _, _, _, _, e4, rfl, ⟨[(f1, _)], .refl _⟩, fun x hx2 => hx x (List.mem_cons_of_mem _ hx2)⟩
    · rintro ρ M' ⟨todo, u4, u5, u6, u7, u8, u9, u10, e1, rfl, sb, hx⟩
      refine ⟨_, rfl, _, rfl, (show 0 ≤ 1000000 by decide), _, _, rfl, rfl, pl_shaped (pl_parts (n := 0) nmp), by decide +kernel, _, rfl, ?_⟩
      show if (!PyData.eqv (partsD ps) (.tuple [])) = true then _ else _
      rw [eqv_pnil nmp]
      refine iteB (fun z => ?_) (fun z => ?_)
      · have hne : ps ≠ [] := fun e => by rw [decide_eq_true e] at z; cases z
        refine ⟨_, sb, ?_⟩
        refine ⟨_, rfl, _, rfl, a, x3, y, c3, M1, M2, ps, rfl, rfl, y1, by omega, nmp, by omega, fun f x4 c4 hf hx4 hc4 => fun x1 dx1 => ?_⟩
        obtain ⟨nc, et⟩ := chg_table hf dr hne
        refine ⟨x1, dx1, chgM f ps, _, rfl, rfl, nc.val, nc.parts, by have := nc.len; omega, fun ty => ⟨rfl, _, _, rfl, by simp, ?_⟩⟩
        have okc : (tableM (chgM f ps)).Ok := by rw [et]; exact bt1.okT
        have shc := pl_shaped (pl_tab (n := 0) okc)
        obtain ⟨bld, tabB, etB⟩ := built_ok bt1 (no_in dr.nice.val hne)
        have okb : (tableM (builtM (tableM ps))).Ok := by rw [etB]; exact bt1.okT
        have shb := pl_shaped (pl_tab (n := 0) okb)
        refine ⟨_, rfl, chgM f ps, ty, rfl, nc.tab, _, rfl, _, _, rfl, rfl, shc, shp, _, rfl, _, rfl, ps, tx, chgM f ps, ty, rfl, dr.nice.tab, nc.tab, bt1.okT, okc, _, rfl, ps, tx, rfl, dr.nice.tab, bld, fun tl => ⟨builtM (tableM ps), tl, rfl, tabB, _, rfl, _, _, rfl, rfl, shb, shp, _, rfl, (show 3 ≤ 1000000 by decide), ?_⟩⟩
        have q1 : PyData.eqv (tabD (tableM (chgM f ps))) (tabD (tableM ps)) = true := by rw [eqv_dec (p := tableM (chgM f ps) = tableM ps) (pl_tab (n := 0) okc) (pl_tab (n := 0) bt1.okT) tabD_inj]; exact decide_eq_true et
        have q2 : decide (tableM ps = tableM (chgM f ps)) = true := decide_eq_true et.symm
        have q3 : PyData.eqv (tabD (tableM (builtM (tableM ps)))) (tabD (tableM ps)) = true := by rw [eqv_dec (p := tableM (builtM (tableM ps)) = tableM ps) (pl_tab (n := 0) okb) (pl_tab (n := 0) bt1.okT) tabD_inj]; exact decide_eq_true etB
        refine ⟨_, rfl, _, rfl, (show 3 ≤ 1000000 by decide), .list [.bool true, .bool true, .bool true], ?_, ?_, _, rfl, iteB (fun z => nomatch z) (fun _ => ?_)⟩
        · rw [id, id, q1, q2, q3]
        · refine sd_lst (show 3 ≤ 100000 by decide) fun d hd => ?_
          simp only [List.mem_cons, List.not_mem_nil, or_false] at hd
          rcases hd with e | e | e <;> rw [e] <;> exact sd_bool _
        · obtain ⟨M'', s1, s2⟩ := fin x4 c4 none none none none none none none _ (by omega) (by omega) (Sub.refl _)
          exact ⟨M'', s1, _, rfl, _, rfl, _, rfl, _, rfl, s2⟩
      · obtain ⟨M'', s1, s2⟩ := fin x3 c3 none none none none none none none _ (by omega) (by omega) sb
        exact ⟨M'', s1, _, rfl, _, rfl, _, rfl, _, rfl, s2⟩

end
end LN
namespace LN
open PySem PySem.Spec PyProof.Rows L2 SlX
/-! ### the nets given by hand -/
def h1 : List Part := [.weir "in" 3 "a" "r", .div "r" (1/2) "s" "t", .join "a" "s" "j", .weir "j" 5 "p" "u", .join "u" "t" "q"]
def h2 : List Part := [.weir "in" 7 "a" "z", .weir "a" 3 "b" "c", .div "c" (1/2) "d" "e", .join "b" "d" "p", .join "e" "z" "q"]
def h3 : List Part := [.weir "in" 7 "a" "z", .weir "a" 2 "b" "c", .div "c" (1/2) "d" "e", .join "b" "d" "p", .join "e" "z" "q"]
def h4 : List Part := [.div "in" (1/3) "p" "q"]
def validB : List Part → List Part → Bool
  | _, [] => true
  | dn, p :: td => decide p.ins.Nodup && (decide p.outs.Nodup && ((p.ins.all fun n => decide (n ∈ madeOf dn) && decide (n ∉ takenOf dn)) && ((p.outs.all fun n => decide (n ∉ madeOf dn)) && validB (dn ++ [p]) td)))
theorem validB_ok : ∀ (td dn : List Part), Valid dn → validB dn td = true → Valid (dn ++ td)
  | [], dn, h, _ => by simpa using h
  | p :: td, dn, h, k => by
    unfold validB at k
    simp only [Bool.and_eq_true, decide_eq_true_eq, List.all_eq_true] at k
    obtain ⟨k1, k2, k3, k4, k5⟩ := k
    have := validB_ok td (dn ++ [p]) (valid_of_snoc h ⟨k1, k2, fun n hn => (k3 n hn).1, fun n hn => (k3 n hn).2, k4⟩) k5
    simpa using this
theorem g6 {q : Rat} (z : Nat) (h0 : 0 ≤ q) (h1 : q ≤ 10001) (h2 : q * 6 = (z : Rat)) : G 6 10001 q := ⟨h0, h1, z, h2⟩
theorem g12' {q : Rat} (z : Nat) (h0 : 0 ≤ q) (h1 : q ≤ 1) (h2 : q * 12 = (z : Rat)) : G 12 1 q := ⟨h0, h1, z, h2⟩
theorem g3 : G 6 10001 3 := g6 18 (by decide +kernel) (by decide +kernel) (by decide +kernel)
theorem g5 : G 6 10001 5 := g6 30 (by decide +kernel) (by decide +kernel) (by decide +kernel)
theorem g7 : G 6 10001 7 := g6 42 (by decide +kernel) (by decide +kernel) (by decide +kernel)
theorem g2 : G 6 10001 2 := g6 12 (by decide +kernel) (by decide +kernel) (by decide +kernel)
theorem gh2 : G 12 1 (1/2) := g12' 6 (by decide +kernel) (by decide +kernel) (by decide +kernel)
theorem gh3 : G 12 1 (1/3) := g12' 4 (by decide +kernel) (by decide +kernel) (by decide +kernel)
theorem nice1 : Nice h1 := ⟨validB_ok h1 [] valid_nil (by decide +kernel), by decide +kernel, fun p hp => by
  simp only [h1, List.mem_cons, List.not_mem_nil, or_false] at hp
  rcases hp with e | e | e | e | e <;> rw [e]
  · exact g3
  · exact gh2
  · trivial
  · exact g5
  · trivial, by decide⟩
theorem nice2 : Nice h2 := ⟨validB_ok h2 [] valid_nil (by decide +kernel), by decide +kernel, fun p hp => by
  simp only [h2, List.mem_cons, List.not_mem_nil, or_false] at hp
  rcases hp with e | e | e | e | e <;> rw [e]
  · exact g7
  · exact g3
  · exact gh2
  · trivial
  · trivial, by decide⟩
theorem nice3 : Nice h3 := ⟨validB_ok h3 [] valid_nil (by decide +kernel), by decide +kernel, fun p hp => by
  simp only [h3, List.mem_cons, List.not_mem_nil, or_false] at hp
  rcases hp with e | e | e | e | e <;> rw [e]
  · exact g7
  · exact g2
  · exact gh2
  · trivial
  · trivial, by decide⟩
theorem nice4 : Nice h4 := ⟨validB_ok h4 [] valid_nil (by decide +kernel), by decide +kernel, fun p hp => by
  rw [List.mem_singleton.mp hp]
  exact gh3, by decide⟩
theorem t12 : tableM h1 = tableM h2 := by decide +kernel
theorem t13 : tableM h1 ≠ tableM h3 := by decide +kernel
theorem tb3 : bordM (tableM h3) = [2, 7].map some := by decide +kernel
theorem tt4 : tableM h4 = [((none : Option Rat), ([(("p" : Str), (1/3 : Rat)), (("q" : Str), (2/3 : Rat))] : Shs))] := by decide +kernel
theorem tf1 : flowM h1 10 = [(("p" : Str), (5 : Rat)), (("q" : Str), (5 : Rat))] := by decide +kernel
theorem tf2 : flowM h2 10 = [(("p" : Str), (5 : Rat)), (("q" : Str), (5 : Rat))] := by decide +kernel
theorem tf3 : flowM h3 10 = [(("p" : Str), (9/2 : Rat)), (("q" : Str), (11/2 : Rat))] := by decide +kernel
theorem ta3 : amtsM (tableM h3) 10 = [(("p" : Str), (9/2 : Rat)), (("q" : Str), (11/2 : Rat))] := by decide +kernel
theorem x10 : XOk 10 := ⟨6, by decide, by decide, plt (i := 60) (by decide) (by omega), by decide +kernel, by decide +kernel, 60, by decide +kernel⟩
/-! the data -/
theorem fr_3 : PyData.tuple [.int 3, .int 1] = fr 3 := fr_lit (d := 1) (by decide +kernel) (by decide +kernel)
theorem fr_5 : PyData.tuple [.int 5, .int 1] = fr 5 := fr_lit (d := 1) (by decide +kernel) (by decide +kernel)
theorem fr_7 : PyData.tuple [.int 7, .int 1] = fr 7 := fr_lit (d := 1) (by decide +kernel) (by decide +kernel)
theorem fr_10 : PyData.tuple [.int 10, .int 1] = fr 10 := fr_lit (d := 1) (by decide +kernel) (by decide +kernel)
theorem fr_23 : PyData.tuple [.int 2, .int 3] = fr (2/3) := fr_lit (d := 3) (by decide +kernel) (by decide +kernel)
theorem fr_92 : PyData.tuple [.int 9, .int 2] = fr (9/2) := fr_lit (d := 2) (by decide +kernel) (by decide +kernel)
theorem fr_112 : PyData.tuple [.int 11, .int 2] = fr (11/2) := fr_lit (d := 2) (by decide +kernel) (by decide +kernel)
theorem d1 : PyData.tuple ([.tuple [.str "weir", .str "in", .tuple [.int 3, .int 1], .str "a", .str "r"], .tuple [.str "divide", .str "r", .tuple [.int 1, .int 2], .str "s", .str "t"], .tuple [.str "join", .str "a", .str "s", .str "j"]] ++
  [.tuple [.str "weir", .str "j", .tuple [.int 5, .int 1], .str "p", .str "u"], .tuple [.str "join", .str "u", .str "t", .str "q"]]) = partsD h1 := by
  rw [fr_3, fr_12, fr_5]; rfl
theorem d2 : PyData.tuple ([.tuple [.str "weir", .str "in", .tuple [.int 7, .int 1], .str "a", .str "z"], .tuple [.str "weir", .str "a", .tuple [.int 3, .int 1], .str "b", .str "c"]] ++
  [.tuple [.str "divide", .str "c", .tuple [.int 1, .int 2], .str "d", .str "e"], .tuple [.str "join", .str "b", .str "d", .str "p"], .tuple [.str "join", .str "e", .str "z", .str "q"]]) = partsD h2 := by
  rw [fr_3, fr_12, fr_7]; rfl
theorem d3 : PyData.tuple ([.tuple [.str "weir", .str "in", .tuple [.int 7, .int 1], .str "a", .str "z"], .tuple [.str "weir", .str "a", .tuple [.int 2, .int 1], .str "b", .str "c"]] ++
  [.tuple [.str "divide", .str "c", .tuple [.int 1, .int 2], .str "d", .str "e"], .tuple [.str "join", .str "b", .str "d", .str "p"], .tuple [.str "join", .str "e", .str "z", .str "q"]]) = partsD h3 := by
  rw [fr_2, fr_12, fr_7]; rfl
theorem d4 : PyData.tuple [.tuple [.str "divide", .str "in", .tuple [.int 1, .int 3], .str "p", .str "q"]] = partsD h4 := by
  rw [fr_13]; rfl
def pq5 : PyData := .tuple [.tuple [.str "p", .tuple [.int 5, .int 1]], .tuple [.str "q", .tuple [.int 5, .int 1]]]
def pq9 : PyData := .tuple [.tuple [.str "p", .tuple [.int 9, .int 2]], .tuple [.str "q", .tuple [.int 11, .int 2]]]
theorem s5 : shsD [(("p" : Str), (5 : Rat)), (("q" : Str), (5 : Rat))] = pq5 := by
  unfold pq5
  rw [fr_5]; rfl
theorem s9 : shsD [(("p" : Str), (9/2 : Rat)), (("q" : Str), (11/2 : Rat))] = pq9 := by
  unfold pq9
  rw [fr_92, fr_112]; rfl
def tab4 : PyData := .tuple [.tuple [.none, .tuple [.tuple [.str "p", .tuple [.int 1, .int 3]], .tuple [.str "q", .tuple [.int 2, .int 3]]]]]
theorem s4 : tabD (tableM h4) = tab4 := by
  unfold tab4
  rw [tt4, fr_13, fr_23]; rfl
def bor3 : PyData := .list [.tuple [.int 2, .int 1], .tuple [.int 7, .int 1]]
theorem s3 : rowD [2, 7] = bor3 := by
  unfold bor3
  rw [fr_2, fr_7]; rfl
/-- what is due -/
def dueD : PyData := .list [.bool true, .bool true, .bool false, bor3, tab4, pq5, pq5, pq9, pq9, .bool true, .bool true]
def sdB : Nat → PyData → Bool
  | _, .none => true
  | _, .bool _ => true
  | _, .int _ => true
  | _, .str x => PyData.strOk x
  | n + 1, .list ds => decide (ds.length ≤ 100000) && ds.all (sdB n)
  | n + 1, .tuple ds => decide (ds.length ≤ 100000) && ds.all (sdB n)
  | _, _ => false
theorem sdB_ok : ∀ (n : Nat) (d : PyData), sdB n d = true → SD n d
  | n, .none, _ => sd_leaf (.inl (.inl rfl))
  | n, .bool b, _ => sd_bool b
  | n, .int i, _ => sd_int i
  | n, .str x, h => by
    cases n with
    | zero => exact sd_str (show PyData.strOk x = true from h)
    | succ n => exact sd_str (show PyData.strOk x = true from h)
  | n + 1, .list ds, h => by
    unfold sdB at h
    obtain ⟨h1, h2⟩ := Bool.and_eq_true_iff.mp h
    exact sd_lst (of_decide_eq_true h1) fun x hx => sdB_ok n x (List.all_eq_true.mp h2 x hx)
  | n + 1, .tuple ds, h => by
    unfold sdB at h
    obtain ⟨h1, h2⟩ := Bool.and_eq_true_iff.mp h
    exact sd_tup (of_decide_eq_true h1) fun x hx => sdB_ok n x (List.all_eq_true.mp h2 x hx)
  | 0, .list ds, h => by cases h
  | 0, .tuple ds, h => by cases h
  | 0, .dict ds, h => by cases h
  | n + 1, .dict ds, h => by cases h
theorem due_sd : SD 6 dueD := sdB_ok 6 dueD (by decide +kernel)
def netB (C : Addr) (ps : List Part) (txt : Str) : Vb := .o C [.tuple (strsD (madeOf ps)), partsD ps, .tuple (strsD (takenOf ps)), .str txt]
end LN
namespace LN
open PySem PySem.Spec PyProof.Rows L2 SlX

section
variable {P : Program} {w : World} {K : Frg} {mg : Str → Option Value} {base : Heap}

def R_hand : AN := fun xs M Q => xs = [] ∧ Q (.d (.bool true)) M
abbrev N__law_by_hand_right : List Str := ["_law_first_so", "_law_one_so", "_law_last_so", "_law_two_so", "_law_near_so", "_law_got", "_law_due", "_law_own"]
theorem sc__law_by_hand_right : FnScope N__law_by_hand_right [] (L2.defScope s__law_by_hand_right) := ⟨rfl, rfl, rfl, by decide +kernel, rfl, by decide +kernel, by decide +kernel⟩
set_option maxHeartbeats 4000000 in
theorem kp__law_by_hand_right (T : Tx K mg) (c_Net___init__ : Kp P w K mg base 6 (He.ma K (He.ga K "Net") "__init__") ["self", "parts"] (R_net (He.ga K "Net"))) (c_alike : Kp P w K mg base 9 (He.ga K "alike") ["one", "other"] (R_alk (He.ga K "Net"))) (c_table_of : Kp P w K mg base 8 (He.ga K "table_of") ["net"] (R_tabl (He.ga K "Net"))) (c_borders : Kp P w K mg base 1 (He.ga K "borders") ["table"] R_borders) (c_flow : Kp P w K mg base 5 (He.ga K "flow") ["net", "inflow"] (R_floww (He.ga K "Net"))) (c_amounts : Kp P w K mg base 5 (He.ga K "amounts") ["table", "inflow"] R_amounts) (c_leanest : Kp P w K mg base 9 (He.ga K "leanest") ["net"] (R_lean (He.ga K "Net"))) (c__law_same : Kp P w K mg base 8 (He.ga K "_law_same") ["_law_got", "_law_due"] (R_same 6)) : Kp P w K mg base 10 (He.ga K "_law_by_hand_right") [] R_hand := by
  refine kp_n (k := 9) (T.def_ 57) sc__law_by_hand_right (fun _ _ _ _ _ _ us hl => match us, hl with | [], _ => rfl) (fun xs M Q h => ?len) (fun cdv A outer s H E hr => ⟨_, _, ⟨
    (pss_cons (ps_set (i := 0) sc__law_by_hand_right.nd rfl (Or.inl rfl) (pe_tupS (pa_cons (pe_tupS (pa_cons pe_str (pa_cons pe_str (pa_cons (pe_tupS (pa_cons pe_int (pa_cons pe_int pa_nil))) (pa_cons pe_str (pa_cons pe_str pa_nil)))))) (pa_cons (pe_tupS (pa_cons pe_str (pa_cons pe_str (pa_cons (pe_tupS (pa_cons pe_int (pa_cons pe_int pa_nil))) (pa_cons pe_str (pa_cons pe_str pa_nil)))))) (pa_cons (pe_tupS (pa_cons pe_str (pa_cons pe_str (pa_cons pe_str (pa_cons pe_str pa_nil))))) pa_nil))))) (pss_cons (ps_set (i := 1) sc__law_by_hand_right.nd rfl (Or.inl rfl) (pe_mk (T.mk_Net) c_Net___init__ (hr.mono (by decide)) (by rfl) (T.glo 67) (pa_cons (pe_op op_catS (pv 0) (pe_tupS (pa_cons (pe_tupS (pa_cons pe_str (pa_cons pe_str (pa_cons (pe_tupS (pa_cons pe_int (pa_cons pe_int pa_nil))) (pa_cons pe_str (pa_cons pe_str pa_nil)))))) (pa_cons (pe_tupS (pa_cons pe_str (pa_cons pe_str (pa_cons pe_str (pa_cons pe_str pa_nil))))) pa_nil)))) pa_nil))) (pss_cons (ps_set (i := 2) sc__law_by_hand_right.nd rfl (Or.inl rfl) (pe_tupS (pa_cons (pe_tupS (pa_cons pe_str (pa_cons pe_str (pa_cons (pe_tupS (pa_cons pe_int (pa_cons pe_int pa_nil))) (pa_cons pe_str (pa_cons pe_str pa_nil)))))) (pa_cons (pe_tupS (pa_cons pe_str (pa_cons pe_str (pa_cons pe_str (pa_cons pe_str pa_nil))))) (pa_cons (pe_tupS (pa_cons pe_str (pa_cons pe_str (pa_cons pe_str (pa_cons pe_str pa_nil))))) pa_nil))))) (pss_cons (ps_set (i := 3) sc__law_by_hand_right.nd rfl (Or.inl rfl) (pe_mk (T.mk_Net) c_Net___init__ (hr.mono (by decide)) (by rfl) (T.glo 67) (pa_cons (pe_op op_catS (pe_tupS (pa_cons (pe_tupS (pa_cons pe_str (pa_cons pe_str (pa_cons (pe_tupS (pa_cons pe_int (pa_cons pe_int pa_nil))) (pa_cons pe_str (pa_cons pe_str pa_nil)))))) (pa_cons (pe_tupS (pa_cons pe_str (pa_cons pe_str (pa_cons (pe_tupS (pa_cons pe_int (pa_cons pe_int pa_nil))) (pa_cons pe_str (pa_cons pe_str pa_nil)))))) pa_nil))) (pv 2)) pa_nil))) (pss_cons (ps_set (i := 4) sc__law_by_hand_right.nd rfl (Or.inl rfl) (pe_mk (T.mk_Net) c_Net___init__ (hr.mono (by decide)) (by rfl) (T.glo 67) (pa_cons (pe_op op_catS (pe_tupS (pa_cons (pe_tupS (pa_cons pe_str (pa_cons pe_str (pa_cons (pe_tupS (pa_cons pe_int (pa_cons pe_int pa_nil))) (pa_cons pe_str (pa_cons pe_str pa_nil)))))) (pa_cons (pe_tupS (pa_cons pe_str (pa_cons pe_str (pa_cons (pe_tupS (pa_cons pe_int (pa_cons pe_int pa_nil))) (pa_cons pe_str (pa_cons pe_str pa_nil)))))) pa_nil))) (pv 2)) pa_nil))) (pss_cons (ps_set (i := 5) sc__law_by_hand_right.nd rfl (Or.inl rfl) (pe_lst (pa_cons (pe_cmpR (op_eqD hr.units) (pe_def c_table_of (hr.mono (by decide)) (by rfl) (T.glo 14) (pa_cons (pv 1) pa_nil)) (pe_def c_table_of (hr.mono (by decide)) (by rfl) (T.glo 14) (pa_cons (pv 3) pa_nil)) (nomark _)) (pa_cons (pe_def c_alike (hr.mono (by decide)) (by rfl) (T.glo 19) (pa_cons (pv 1) (pa_cons (pv 3) pa_nil))) (pa_cons (pe_def c_alike (hr.mono (by decide)) (by rfl) (T.glo 19) (pa_cons (pv 1) (pa_cons (pv 4) pa_nil))) pa_nil))))) (pss_cons (ps_set (i := 5) sc__law_by_hand_right.nd rfl (Or.inl rfl) (pe_op op_catL (pv 5) (pe_lst (pa_cons (pe_def c_borders (hr.mono (by decide)) (by rfl) (T.glo 15) (pa_cons (pe_def c_table_of (hr.mono (by decide)) (by rfl) (T.glo 14) (pa_cons (pv 4) pa_nil)) pa_nil)) (pa_cons (pe_def c_table_of (hr.mono (by decide)) (by rfl) (T.glo 14) (pa_cons (pe_mk (T.mk_Net) c_Net___init__ (hr.mono (by decide)) (by rfl) (T.glo 67) (pa_cons (pe_tupS (pa_cons (pe_tupS (pa_cons pe_str (pa_cons pe_str (pa_cons (pe_tupS (pa_cons pe_int (pa_cons pe_int pa_nil))) (pa_cons pe_str (pa_cons pe_str pa_nil)))))) pa_nil)) pa_nil)) pa_nil)) pa_nil))))) (pss_cons (ps_set (i := 6) sc__law_by_hand_right.nd rfl (Or.inl rfl) (pe_lst (pa_cons pe_bl (pa_cons pe_bl (pa_cons pe_bl (pa_cons (pe_lst (pa_cons (pe_tupS (pa_cons pe_int (pa_cons pe_int pa_nil))) (pa_cons (pe_tupS (pa_cons pe_int (pa_cons pe_int pa_nil))) pa_nil))) (pa_cons (pe_tupS (pa_cons (pe_tupS (pa_cons pe_non (pa_cons (pe_tupS (pa_cons (pe_tupS (pa_cons pe_str (pa_cons (pe_tupS (pa_cons pe_int (pa_cons pe_int pa_nil))) pa_nil))) (pa_cons (pe_tupS (pa_cons pe_str (pa_cons (pe_tupS (pa_cons pe_int (pa_cons pe_int pa_nil))) pa_nil))) pa_nil))) pa_nil))) pa_nil)) pa_nil))))))) (pss_cons (ps_set (i := 5) sc__law_by_hand_right.nd rfl (Or.inl rfl) (pe_op op_catL (pv 5) (pe_lc (own := [("_law_own", 7)]) rfl sc__law_by_hand_right.nd (pi_tup (pe_tupS (pa_cons (pv 1) (pa_cons (pv 3) (pa_cons (pv 4) pa_nil))))) (blkOk_by (N := N__law_by_hand_right) (sc := L2.defScope s__law_by_hand_right) (by decide +kernel)) (fun _ _ _ _ _ => (pg_name (i := 7) sc__law_by_hand_right.nd rfl (Or.inl rfl))) (fun _ _ _ _ _ => pts_nil) (fun _ _ _ _ _ => (pe_def c_flow (hr.mono (by decide)) (by rfl) (T.glo 29) (pa_cons (pv 7) (pa_cons (pe_tupS (pa_cons pe_int (pa_cons pe_int pa_nil))) pa_nil))))))) (pss_cons (ps_set (i := 5) sc__law_by_hand_right.nd rfl (Or.inl rfl) (pe_op op_catL (pv 5) (pe_lst (pa_cons (pe_def c_amounts (hr.mono (by decide)) (by rfl) (T.glo 18) (pa_cons (pe_def c_table_of (hr.mono (by decide)) (by rfl) (T.glo 14) (pa_cons (pv 4) pa_nil)) (pa_cons (pe_tupS (pa_cons pe_int (pa_cons pe_int pa_nil))) pa_nil))) pa_nil)))) (pss_cons (ps_set (i := 6) sc__law_by_hand_right.nd rfl (Or.inl rfl) (pe_op op_catL (pe_op op_catL (pv 6) (pe_op op_rep (pe_lst (pa_cons (pe_tupS (pa_cons (pe_tupS (pa_cons pe_str (pa_cons (pe_tupS (pa_cons pe_int (pa_cons pe_int pa_nil))) pa_nil))) (pa_cons (pe_tupS (pa_cons pe_str (pa_cons (pe_tupS (pa_cons pe_int (pa_cons pe_int pa_nil))) pa_nil))) pa_nil))) pa_nil)) pe_int)) (pe_op op_rep (pe_lst (pa_cons (pe_tupS (pa_cons (pe_tupS (pa_cons pe_str (pa_cons (pe_tupS (pa_cons pe_int (pa_cons pe_int pa_nil))) pa_nil))) (pa_cons (pe_tupS (pa_cons pe_str (pa_cons (pe_tupS (pa_cons pe_int (pa_cons pe_int pa_nil))) pa_nil))) pa_nil))) pa_nil)) pe_int))) (pss_cons (ps_set (i := 5) sc__law_by_hand_right.nd rfl (Or.inl rfl) (pe_op op_catL (pv 5) (pe_lst (pa_cons (pe_cmpR (op_eqD hr.units) (pe_def c_table_of (hr.mono (by decide)) (by rfl) (T.glo 14) (pa_cons (pe_def c_leanest (hr.mono (by decide)) (by rfl) (T.glo 27) (pa_cons (pv 3) pa_nil)) pa_nil)) (pe_def c_table_of (hr.mono (by decide)) (by rfl) (T.glo 14) (pa_cons (pv 1) pa_nil)) (nomark _)) (pa_cons (pe_def c_alike (hr.mono (by decide)) (by rfl) (T.glo 19) (pa_cons (pe_def c_leanest (hr.mono (by decide)) (by rfl) (T.glo 27) (pa_cons (pv 4) pa_nil)) (pa_cons (pv 4) pa_nil))) pa_nil))))) (pss_one (ps_ret (pe_def c__law_same (hr.mono (by decide)) (by rfl) (T.glo 34) (pa_cons (pv 5) (pa_cons (pe_op op_catL (pv 6) (pe_lst (pa_cons pe_bl (pa_cons pe_bl pa_nil)))) pa_nil))))))))))))))))),
    (ss_seq (ss_asg (se_tup (sa_cons (se_tup (sa_cons se_str (sa_cons se_str (sa_cons (se_tup (sa_cons se_int (sa_cons se_int sa_nil))) (sa_cons se_str (sa_cons se_str sa_nil)))))) (sa_cons (se_tup (sa_cons se_str (sa_cons se_str (sa_cons (se_tup (sa_cons se_int (sa_cons se_int sa_nil))) (sa_cons se_str (sa_cons se_str sa_nil)))))) (sa_cons (se_tup (sa_cons se_str (sa_cons se_str (sa_cons se_str (sa_cons se_str sa_nil))))) sa_nil)))) sg_nm) (ss_seq (ss_asg (se_makeSl (sa_cons (se_op s2_catT se_var (se_tup (sa_cons (se_tup (sa_cons se_str (sa_cons se_str (sa_cons (se_tup (sa_cons se_int (sa_cons se_int sa_nil))) (sa_cons se_str (sa_cons se_str sa_nil)))))) (sa_cons (se_tup (sa_cons se_str (sa_cons se_str (sa_cons se_str (sa_cons se_str sa_nil))))) sa_nil)))) sa_nil)) sg_nm) (ss_seq (ss_asg (se_tup (sa_cons (se_tup (sa_cons se_str (sa_cons se_str (sa_cons (se_tup (sa_cons se_int (sa_cons se_int sa_nil))) (sa_cons se_str (sa_cons se_str sa_nil)))))) (sa_cons (se_tup (sa_cons se_str (sa_cons se_str (sa_cons se_str (sa_cons se_str sa_nil))))) (sa_cons (se_tup (sa_cons se_str (sa_cons se_str (sa_cons se_str (sa_cons se_str sa_nil))))) sa_nil)))) sg_nm) (ss_seq (ss_asg (se_makeSl (sa_cons (se_op s2_catT (se_tup (sa_cons (se_tup (sa_cons se_str (sa_cons se_str (sa_cons (se_tup (sa_cons se_int (sa_cons se_int sa_nil))) (sa_cons se_str (sa_cons se_str sa_nil)))))) (sa_cons (se_tup (sa_cons se_str (sa_cons se_str (sa_cons (se_tup (sa_cons se_int (sa_cons se_int sa_nil))) (sa_cons se_str (sa_cons se_str sa_nil)))))) sa_nil))) se_var) sa_nil)) sg_nm) (ss_seq (ss_asg (se_makeSl (sa_cons (se_op s2_catT (se_tup (sa_cons (se_tup (sa_cons se_str (sa_cons se_str (sa_cons (se_tup (sa_cons se_int (sa_cons se_int sa_nil))) (sa_cons se_str (sa_cons se_str sa_nil)))))) (sa_cons (se_tup (sa_cons se_str (sa_cons se_str (sa_cons (se_tup (sa_cons se_int (sa_cons se_int sa_nil))) (sa_cons se_str (sa_cons se_str sa_nil)))))) sa_nil))) se_var) sa_nil)) sg_nm) (ss_seq (ss_asg (se_lst (sa_cons (se_op s2_eq (se_call (sa_cons se_var sa_nil)) (se_call (sa_cons se_var sa_nil))) (sa_cons (se_call (sa_cons se_var (sa_cons se_var sa_nil))) (sa_cons (se_call (sa_cons se_var (sa_cons se_var sa_nil))) sa_nil)))) sg_nm) (ss_seq (ss_asg (se_op s2_catL se_var (se_lst (sa_cons (se_call (sa_cons (se_call (sa_cons se_var sa_nil)) sa_nil)) (sa_cons (se_call (sa_cons (se_makeSl (sa_cons (se_tup (sa_cons (se_tup (sa_cons se_str (sa_cons se_str (sa_cons (se_tup (sa_cons se_int (sa_cons se_int sa_nil))) (sa_cons se_str (sa_cons se_str sa_nil)))))) sa_nil)) sa_nil)) sa_nil)) sa_nil)))) sg_nm) (ss_seq (ss_asg (se_lst (sa_cons se_bl (sa_cons se_bl (sa_cons se_bl (sa_cons (se_lst (sa_cons (se_tup (sa_cons se_int (sa_cons se_int sa_nil))) (sa_cons (se_tup (sa_cons se_int (sa_cons se_int sa_nil))) sa_nil))) (sa_cons (se_tup (sa_cons (se_tup (sa_cons se_non (sa_cons (se_tup (sa_cons (se_tup (sa_cons se_str (sa_cons (se_tup (sa_cons se_int (sa_cons se_int sa_nil))) sa_nil))) (sa_cons (se_tup (sa_cons se_str (sa_cons (se_tup (sa_cons se_int (sa_cons se_int sa_nil))) sa_nil))) sa_nil))) sa_nil))) sa_nil)) sa_nil)))))) sg_nm) (ss_seq (ss_asg (se_op s2_catL se_var (se_lc (si_tupP (se_tupP (sa_cons se_var (sa_cons se_var (sa_cons se_var sa_nil))))) sg_nm (wg_nm (by decide)) st_yes' (se_call (sa_cons se_var (sa_cons (se_tup (sa_cons se_int (sa_cons se_int sa_nil))) sa_nil))))) sg_nm) (ss_seq (ss_asg (se_op s2_catL se_var (se_lst (sa_cons (se_call (sa_cons (se_call (sa_cons se_var sa_nil)) (sa_cons (se_tup (sa_cons se_int (sa_cons se_int sa_nil))) sa_nil))) sa_nil))) sg_nm) (ss_seq (ss_asg (se_op s2_catL (se_op s2_catL se_var (se_op s2_repM (se_lstM (sa_cons (se_tup (sa_cons (se_tup (sa_cons se_str (sa_cons (se_tup (sa_cons se_int (sa_cons se_int sa_nil))) sa_nil))) (sa_cons (se_tup (sa_cons se_str (sa_cons (se_tup (sa_cons se_int (sa_cons se_int sa_nil))) sa_nil))) sa_nil))) sa_nil)) se_int)) (se_op s2_repM (se_lstM (sa_cons (se_tup (sa_cons (se_tup (sa_cons se_str (sa_cons (se_tup (sa_cons se_int (sa_cons se_int sa_nil))) sa_nil))) (sa_cons (se_tup (sa_cons se_str (sa_cons (se_tup (sa_cons se_int (sa_cons se_int sa_nil))) sa_nil))) sa_nil))) sa_nil)) se_int)) sg_nm) (ss_seq (ss_asg (se_op s2_catL se_var (se_lst (sa_cons (se_op s2_eq (se_call (sa_cons (se_call (sa_cons se_var sa_nil)) sa_nil)) (se_call (sa_cons se_var sa_nil))) (sa_cons (se_call (sa_cons (se_call (sa_cons se_var sa_nil)) (sa_cons se_var sa_nil))) sa_nil)))) sg_nm) (ss_ret (se_call (sa_cons se_var (sa_cons (se_op s2_catL se_var (se_lst (sa_cons se_bl (sa_cons se_bl sa_nil)))) sa_nil))))))))))))))))⟩, fun xs M Qa h => ?body⟩)
  case len => obtain ⟨rfl, _⟩ := h; rfl
  case body =>
    obtain ⟨rfl, qq⟩ := h
    have b1 := nice1.bt (by decide)
    have b2 := nice2.bt (by decide)
    have b3 := nice3.bt (by decide)
    have b4 := nice4.bt (by decide)
    have sh1 := pl_shaped (pl_tab (n := 0) b1.okT)
    have sh2 := pl_shaped (pl_tab (n := 0) b2.okT)
    obtain ⟨bld2, tabB2, etB2⟩ := built_ok b2 (no_in nice2.val (by decide))
    obtain ⟨bld3, tabB3, etB3⟩ := built_ok b3 (no_in nice3.val (by decide))
    have okB2 : (tableM (builtM (tableM h2))).Ok := by rw [etB2]; exact b2.okT
    have okB3 : (tableM (builtM (tableM h3))).Ok := by rw [etB3]; exact b3.okT
    have shB2 := pl_shaped (pl_tab (n := 0) okB2)
    refine ⟨_, rfl, (show 2 ≤ 1000000 by decide), _, rfl, (show 5 ≤ 1000000 by decide), _, rfl, (show 2 ≤ 1000000 by decide), _, rfl, (show 5 ≤ 1000000 by decide), _, rfl, (show 4 ≤ 1000000 by decide), _, rfl, (show 3 ≤ 1000000 by decide), ?_⟩
    refine ⟨_, rfl, _, rfl, (show 2 ≤ 1000000 by decide), _, rfl, (show 5 ≤ 1000000 by decide), _, rfl, (show 4 ≤ 1000000 by decide), _, rfl, (show 2 ≤ 1000000 by decide), _, _, rfl, rfl, (show 3 + 2 ≤ 1000000 by decide), fun x1 x1d => ⟨x1, x1d, h1, _, congrArg (fun d => [Va.m x1, Va.d d]) d1, rfl, nice1.val, nice1.parts, by decide, fun t1 => ⟨rfl, _, _, rfl, by simp, ?_⟩⟩⟩
    refine ⟨_, rfl, (show 2 ≤ 1000000 by decide), _, rfl, (show 5 ≤ 1000000 by decide), _, rfl, (show 4 ≤ 1000000 by decide), _, rfl, (show 4 ≤ 1000000 by decide), _, rfl, (show 3 ≤ 1000000 by decide), ?_⟩
    refine ⟨_, rfl, (show 2 ≤ 1000000 by decide), _, rfl, (show 5 ≤ 1000000 by decide), _, rfl, (show 2 ≤ 1000000 by decide), _, rfl, (show 5 ≤ 1000000 by decide), _, rfl, (show 2 ≤ 1000000 by decide), _, rfl, _, _, rfl, rfl, (show 2 + 3 ≤ 1000000 by decide), fun x2 x2d => ⟨x2, x2d, h2, _, congrArg (fun d => [Va.m x2, Va.d d]) d2, rfl, nice2.val, nice2.parts, by decide, fun t2 => ⟨rfl, _, _, rfl, by simp, ?_⟩⟩⟩
    refine ⟨_, rfl, (show 2 ≤ 1000000 by decide), _, rfl, (show 5 ≤ 1000000 by decide), _, rfl, (show 2 ≤ 1000000 by decide), _, rfl, (show 5 ≤ 1000000 by decide), _, rfl, (show 2 ≤ 1000000 by decide), _, rfl, _, _, rfl, rfl, (show 2 + 3 ≤ 1000000 by decide), fun x3 x3d => ⟨x3, x3d, h3, _, congrArg (fun d => [Va.m x3, Va.d d]) d3, rfl, nice3.val, nice3.parts, by decide, fun t3 => ⟨rfl, _, _, rfl, by simp, ?_⟩⟩⟩
    refine ⟨_, rfl, h1, t1, rfl, nice1.tab, _, rfl, h2, t2, rfl, nice2.tab, _, _, rfl, rfl, sh1, sh2, _, rfl, _, rfl, h1, t1, h2, t2, rfl, nice1.tab, nice2.tab, b1.okT, b2.okT, _, rfl, _, rfl, h1, t1, h3, t3, rfl, nice1.tab, nice3.tab, b1.okT, b3.okT, _, rfl, (show 3 ≤ 1000000 by decide), ?_⟩
    refine ⟨_, rfl, _, rfl, h3, t3, rfl, nice3.tab, tableM h3, [2, 7], rfl, by have := b3.tl; omega, tb3, _, rfl, (show 2 ≤ 1000000 by decide), _, rfl, (show 5 ≤ 1000000 by decide), _, rfl, (show 1 ≤ 1000000 by decide), fun x4 x4d => ⟨x4, x4d, h4, _, congrArg (fun d => [Va.m x4, Va.d d]) d4, rfl, nice4.val, nice4.parts, by decide, fun t4 => ⟨rfl, _, _, rfl, by simp, h4, t4, rfl, nice4.tab, _, rfl, (show 2 ≤ 1000000 by decide), _, _, rfl, rfl, (show 3 + 2 ≤ 1000000 by decide), ?_⟩⟩⟩
    refine ⟨_, rfl, (show 2 ≤ 1000000 by decide), _, rfl, (show 2 ≤ 1000000 by decide), _, rfl, (show 2 ≤ 1000000 by decide), _, rfl, (show 2 ≤ 1000000 by decide), _, rfl, (show 2 ≤ 1000000 by decide), _, rfl, (show 2 ≤ 1000000 by decide), _, rfl, (show 2 ≤ 1000000 by decide), _, rfl, (show 2 ≤ 1000000 by decide), _, rfl, (show 2 ≤ 1000000 by decide), _, rfl, (show 1 ≤ 1000000 by decide), _, rfl, (show 5 ≤ 1000000 by decide), ?_⟩
    refine ⟨_, rfl, _, rfl, _, rfl, _, rfl, [netB (He.ga K "Net") h1 t1, netB (He.ga K "Net") h2 t2, netB (He.ga K "Net") h3 t3], rfl, (show 3 ≤ 1000000 by decide), _, rfl, ?_⟩
    refine lcS [(h1, t1), (h2, t2), (h3, t3)] (fun p => netV (He.ga K "Net") p.1 p.2) (fun p => shsD (flowM p.1 10)) (show 3 ≤ 1000000 by decide) (fun p hp q Z hZ => ?_) ?_
    · have np : Nice p.1 := by
        simp only [List.mem_cons, List.not_mem_nil, or_false] at hp
        rcases hp with e | e | e <;> rw [e]
        · exact nice1
        · exact nice2
        · exact nice3
      exact ⟨_, rfl, _, rfl, (show 2 ≤ 1000000 by decide), p.1, p.2, 10, congrArg (fun d => [netV (He.ga K "Net") p.1 p.2, Va.d d]) fr_10, np.tab.net, by have := np.len; omega, np.flow x10, flow_has p.1 10, _, _, rfl, Sub.refl _, rfl, hZ⟩
    · refine ⟨_, _, rfl, rfl, (show 5 + 3 ≤ 1000000 by decide), ?_⟩
      refine ⟨_, rfl, _, rfl, h3, t3, rfl, nice3.tab, _, rfl, (show 2 ≤ 1000000 by decide), tableM h3, 10, congrArg (fun d => [Va.d (tabD (tableM h3)), Va.d d]) fr_10, x10.fit, b3.few.1, b3.few.2.1, b3.few.2.2, fun o _ => b3.amt x10 o, _, rfl, (show 1 ≤ 1000000 by decide), _, _, rfl, rfl, (show 8 + 1 ≤ 1000000 by decide), ?_⟩
      refine ⟨_, rfl, _, rfl, (show 2 ≤ 1000000 by decide), _, rfl, (show 2 ≤ 1000000 by decide), _, rfl, (show 2 ≤ 1000000 by decide), _, rfl, (show 2 ≤ 1000000 by decide), _, rfl, (show 2 ≤ 1000000 by decide), (show 1 ≤ 1000000 by decide), fun p1 => ⟨p1, _, _, [], _, rfl, rfl, rfl, rfl, (show 1 * 2 ≤ 1000000 by decide), _, _, rfl, rfl, (show 5 + 2 ≤ 1000000 by decide), _, rfl, (show 2 ≤ 1000000 by decide), _, rfl, (show 2 ≤ 1000000 by decide), _, rfl, (show 2 ≤ 1000000 by decide), _, rfl, (show 2 ≤ 1000000 by decide), _, rfl, (show 2 ≤ 1000000 by decide), (show 1 ≤ 1000000 by decide), fun p2 => ⟨p2, _, _, [], _, rfl, rfl, rfl, rfl, (show 1 * 2 ≤ 1000000 by decide), _, _, rfl, rfl, (show 7 + 2 ≤ 1000000 by decide), ?_⟩⟩⟩
      refine ⟨_, rfl, _, rfl, h2, t2, rfl, nice2.tab, bld2, fun tl => ⟨builtM (tableM h2), tl, rfl, tabB2, _, rfl, h1, t1, rfl, nice1.tab, _, _, rfl, rfl, shB2, sh1, _, rfl, h3, t3, rfl, nice3.tab, bld3, fun tm => ⟨_, rfl, builtM (tableM h3), tm, h3, t3, rfl, tabB3, nice3.tab, okB3, b3.okT, _, rfl, (show 2 ≤ 1000000 by decide), _, _, rfl, rfl, (show 9 + 2 ≤ 1000000 by decide), ?_⟩⟩⟩
      have e1 : PyData.eqv (tabD (tableM h1)) (tabD (tableM h2)) = true := by rw [eqv_dec (p := tableM h1 = tableM h2) (pl_tab (n := 0) b1.okT) (pl_tab (n := 0) b2.okT) tabD_inj]; exact decide_eq_true t12
      have e2 : decide (tableM h1 = tableM h2) = true := decide_eq_true t12
      have e3 : decide (tableM h1 = tableM h3) = false := decide_eq_false t13
      have e4 : PyData.eqv (tabD (tableM (builtM (tableM h2)))) (tabD (tableM h1)) = true := by rw [eqv_dec (p := tableM (builtM (tableM h2)) = tableM h1) (pl_tab (n := 0) okB2) (pl_tab (n := 0) b1.okT) tabD_inj]; exact decide_eq_true (etB2.trans t12.symm)
      have e5 : decide (tableM (builtM (tableM h3)) = tableM h3) = true := decide_eq_true etB3
      have got : PyData.list [.bool (PyData.eqv (tabD (tableM h1)) (tabD (tableM h2))), .bool (decide (tableM h1 = tableM h2)), .bool (decide (tableM h1 = tableM h3)), rowD [2, 7], tabD (tableM h4), shsD (flowM h1 10), shsD (flowM h2 10), shsD (flowM h3 10), shsD (amtsM (tableM h3) 10), .bool (PyData.eqv (tabD (tableM (builtM (tableM h2)))) (tabD (tableM h1))), .bool (decide (tableM (builtM (tableM h3)) = tableM h3))] = dueD := by
        rw [e1, e2, e3, e4, e5, s3, s4, tf1, tf2, tf3, ta3, s5, s9]; rfl
      refine ⟨_, rfl, _, rfl, _, rfl, (show 2 ≤ 1000000 by decide), _, _, rfl, rfl, (show 9 + 2 ≤ 1000000 by decide), dueD, congrArg (fun d => [Va.d d, Va.d dueD]) got, due_sd, _, ⟨[_, _], .refl _⟩, qq⟩

end
end LN
namespace LN
open PySem PySem.Spec PyProof.Rows L2 SlX

section
variable {P : Program} {w : World} {K : Frg} {mg : Str → Option Value} {base : Heap}
/-- the promise of a def whose object is told -/
theorem fn_n {x qual : Str} {params : Arguments} {st : List Stmt} {sc : Scope} {dvs : List V} {kws : List (Str × V)} {f : Addr} {fd : FuncData} {N ps : List Str} {k : Nat} {R : AN} (Fn : FunD K x qual params st sc dvs kws f fd) (S : FnScope N ps sc) (len : ∀ xs M Q, R xs M Q → xs.length = ps.length)
    (body : ∀ (cdv : Value) (A : Around) (outer : List Env) (s : Shared) (H : Hp) (E : XK), Room k (A.deeper (envOfC qual sc s.heap.objs.size f cdv)) →
      ∃ t α, XSs (cxOf CX0 P w K mg base N qual sc f cdv A outer s H E).nox st t α ∧
        ∀ xs M Qa, R xs M Qa → α { nx := fun _ M1 => ∃ M', Sub M' M1 ∧ Qa (.d .none) M', rt := fun v M1 => ∃ M', Sub M' M1 ∧ Qa v M' } (startA N xs) M) : FnOk P w K mg base CX0 (k + 1) f fd ps (spA K R) := by
  refine Fn.ok S (fun vs H Q E h => ?_) (fun cdv A outer s H vs Q E hr h => ?_)
  · obtain ⟨F, xs, M, Qa, ok, rp, r, _⟩ := h
    rw [pair_len rp]
    exact len xs M Qa r
  · obtain ⟨F, xs, M, Qa, ok, rp, r, q⟩ := h
    obtain ⟨t, α, X, hα⟩ := body cdv A outer s H E hr
    refine ⟨t, X.p.nox, ?_⟩
    refine X.s (startA N xs) M _ (L2.start N vs) F H _ ⟨ok, start_pair rp⟩ (hα xs M Qa r) (fun ρ' M1 σ' F' H' ⟨M', sb, qa⟩ s1 ok1 => ?_) (fun v M1 u F' H' ⟨M', sb, qa⟩ s1 ok1 r1 => ?_) (fun _ _ _ _ _ z => z.elim) (fun _ _ _ _ _ z => z.elim)
    · exact q _ M' _ F' H' qa s1 (ok1.toOkM.sub sb) .non
    · exact q v M' u F' H' qa s1 (ok1.sub sb) r1
end

section
variable {P : Program} {w : World} {K : Frg} {mg : Str → Option Value} {base : Heap}

def R_right : AN := fun xs M Q => ∃ (a : Addr) (x y c : Nat) (M1 M2 : Sto), xs = [.m a] ∧ M = M1 ++ bxM a x y c :: M2 ∧ y < 2 ^ 64 ∧ c < 2 ^ 50 ∧ ∀ (x' c' : Nat), Q (.d (.bool true)) (M1 ++ bxM a x' y c' :: M2)
abbrev N__law_right : List Str := ["_law_box_here", "_law_turn"]
theorem sc__law_right : FnScope N__law_right ["_law_box_here"] (L2.defScope s__law_right) := ⟨rfl, rfl, rfl, by decide +kernel, rfl, by decide +kernel, by decide +kernel⟩
set_option maxHeartbeats 4000000 in
theorem kp__law_right (T : Tx K mg) (c__law_of : Kp P w K mg base 2 (He.ga K "_law_of") ["_law_box_here", "_law_goods_so"] R_pick) (c__law_parts : Kp P w K mg base 4 (He.ga K "_law_parts") ["_law_box_here", "_law_most_so", "_law_high_so"] R_lprt) (c__law_case_right : Kp P w K mg base 11 (He.ga K "_law_case_right") ["_law_box_here", "_law_parts_so"] R_case) : Kp P w K mg base 12 (He.ga K "_law_right") ["_law_box_here"] R_right := by
  refine kp_n (k := 11) (T.def_ 62) sc__law_right (fun _ _ _ _ _ _ us hl => match us, hl with | [_], _ => rfl) (fun xs M Q h => ?len) (fun cdv A outer s H E hr => ⟨_, _, ⟨
    (pss_cons (ps_for PassesOwn.never rfl (pi_range1 (by rfl) (T.free 75) (pa_cons pe_int pa_nil)) (pg_name (i := 1) sc__law_right.nd rfl (Or.inl rfl)) (pss_one (ps_if (pt_not (pt_val (pe_def c__law_case_right (hr.mono (by decide)) (by rfl) (T.glo 47) (pa_cons (pv 0) (pa_cons (pe_def c__law_parts (hr.mono (by decide)) (by rfl) (T.glo 41) (pa_cons (pv 0) (pa_cons pe_int (pa_cons (pe_def c__law_of (hr.mono (by decide)) (by rfl) (T.glo 33) (pa_cons (pv 0) (pa_cons (pe_lst (pa_cons pe_int (pa_cons pe_int (pa_cons (pe_op op_pow pe_int pe_int) pa_nil)))) pa_nil))) pa_nil)))) pa_nil))))) (pss_one (ps_ret pe_bl)) pss_nil))) (pss_one (ps_ret pe_bl))),
    (ss_seq (ss_for (si_range (sa_cons se_int sa_nil)) sg_nm (ss_if (st_not (st_B (se_call (sa_cons se_var (sa_cons (se_call (sa_cons se_var (sa_cons se_int (sa_cons (se_call (sa_cons se_var (sa_cons (se_lst (sa_cons se_int (sa_cons se_int (sa_cons (se_op s2_I se_int se_int) sa_nil)))) sa_nil))) sa_nil)))) sa_nil))))) (ss_ret se_bl) ss_next)) (ss_ret se_bl))⟩, fun xs M Qa h => ?body⟩)
  case len => obtain ⟨a, x, y, c, M1, M2, rfl, _⟩ := h; rfl
  case body =>
    obtain ⟨a, x, y, c, M1, M2, rfl, rfl, y1, c1, qq⟩ := h
    refine ⟨6, rfl, by decide, fun rest ρ M' => ∃ (x' c' : Nat) (u : Option Va), ρ = [some (.m a), u] ∧ M' = M1 ++ bxM a x' y c' :: M2 ∧ c' + 200 * rest.length ≤ c + 1200, ⟨x, c, none, rfl, rfl, ?_⟩, ?_, ?_⟩
    · unfold rangeD; rw [List.length_map, List.length_range]; omega
    · rintro d r ρ M' ⟨x1, c1', u, rfl, rfl, hc⟩
      simp only [List.length_cons] at hc
      refine ⟨_, rfl, _, rfl, _, rfl, _, _, rfl, rfl, ⟨by decide, by decide, by decide⟩, _, rfl, (show 3 ≤ 1000000 by decide), a, x1, y, c1', M1, M2, _, rfl, rfl, by simp, (show 3 ≤ 1000000 by decide), y1, by omega, fun d hd x2 c2 hx2 hc2 => ?_⟩
      obtain ⟨high, rfl, hh0, hh1⟩ : ∃ high : Nat, d = .int (high : Int) ∧ 0 < high ∧ high ≤ 10000 := by
        simp only [List.mem_cons, List.not_mem_nil, or_false] at hd
        rcases hd with e | e | e
        · exact ⟨4, e, by omega, by omega⟩
        · exact ⟨9, e, by omega, by omega⟩
        · exact ⟨10000, e, by omega, by omega⟩
      refine ⟨a, x2, y, c2, high, M1, M2, rfl, rfl, hh0, hh1, y1, by omega, fun ps x3 c3 hps hx3 hc3 => ?_⟩
      refine ⟨a, x3, y, c3, M1, M2, ps, rfl, rfl, hps, y1, by omega, fun x4 c4 hx4 hc4 => ⟨_, rfl, iteB (fun z => nomatch z) (fun _ => ?_)⟩⟩
      exact ⟨x4, c4, _, rfl, rfl, by omega⟩
    · rintro ρ M' ⟨x1, c1', u, rfl, rfl, hc⟩
      exact ⟨_, Sub.refl _, qq x1 c1'⟩

def R_lawF : AN := fun xs M Q => ∃ l : List Int, xs = [.d (.list (intsD l))] ∧ Q (.d (.bool true)) M
abbrev N_law : List Str := ["_law_script", "_law_cells_so", "_law_k"]
theorem sc_law : FnScope N_law ["_law_script"] (L2.defScope s_law) := ⟨rfl, rfl, rfl, by decide +kernel, rfl, by decide +kernel, by decide +kernel⟩
set_option maxHeartbeats 4000000 in
theorem fn_law {fd : FuncData} (T : Tx K mg) (Fn : FunD K "law" "law" (L2.defArgs s_law) (L2.defBody s_law) (L2.defScope s_law) [] [] (He.ga K "law") fd) (c__law_cells : Kp P w K mg base 1 (He.ga K "_law_cells") ["_law_script", "_law_top_so"] R_cells) (c__law_by_hand_right : Kp P w K mg base 10 (He.ga K "_law_by_hand_right") [] R_hand) (c__law_box : Kp P w K mg base 1 (He.ga K "_law_box") ["_law_script", "_law_k"] R_box) (c__law_right : Kp P w K mg base 12 (He.ga K "_law_right") ["_law_box_here"] R_right) : FnOk P w K mg base CX0 13 (He.ga K "law") fd ["_law_script"] (spA K R_lawF) := by
  refine fn_n (k := 12) Fn sc_law (fun xs M Q h => ?len) (fun cdv A outer s H E hr => ⟨_, _, ⟨
    (pss_cons (ps_set (i := 1) sc_law.nd rfl (Or.inr rfl) (pe_def c__law_cells (hr.mono (by decide)) (by rfl) (T.glo 32) (pa_cons (pv 0) (pa_cons pe_int pa_nil)))) (pss_cons (ps_if (pt_not (pt_val (pe_def0 c__law_by_hand_right (hr.mono (by decide)) (by rfl) (T.glo 43) ))) (pss_one (ps_ret pe_bl)) pss_nil) (pss_one (ps_ret (pe_callB (cr_all rfl) (by rfl) (T.free 80) (by decide +kernel) (pa_cons (pe_lc (own := [("_law_k", 2)]) rfl sc_law.nd (pi_range1 (by rfl) (T.free 75) (pa_cons (pe_callB call_len_seq (by rfl) (T.free 68) PySem.boot_len (pa_cons (pv 1) pa_nil)) pa_nil)) (blkOk_by (N := N_law) (sc := L2.defScope s_law) (by decide +kernel)) (fun _ _ _ _ _ => (pg_name (i := 2) sc_law.nd rfl (Or.inl rfl))) (fun _ _ _ _ _ => pts_nil) (fun _ _ _ _ _ => (pe_def c__law_right (hr.mono (by decide)) (by rfl) (T.glo 48) (pa_cons (pe_def c__law_box (hr.mono (by decide)) (by rfl) (T.glo 30) (pa_cons (pv 1) (pa_cons (pv 2) pa_nil))) pa_nil)))) pa_nil)))))),
    (ss_seq (ss_asg (se_call (sa_cons se_var (sa_cons se_int sa_nil))) sg_nm) (ss_seq (ss_if (st_not (st_B (se_call sa_nil))) (ss_ret se_bl) ss_next) (ss_ret (se_cb sn_all (sa_cons (se_lc (si_range (sa_cons (se_cb sn_len (sa_cons se_var sa_nil)) sa_nil)) sg_nm (wg_nm (by decide)) st_yes' (se_call (sa_cons (se_call (sa_cons se_var (sa_cons se_var sa_nil))) sa_nil))) sa_nil)))))⟩, fun xs M Qa h => ?body⟩)
  case len => obtain ⟨l, rfl, _⟩ := h; rfl
  case body =>
    obtain ⟨l, rfl, qq⟩ := h
    refine ⟨_, rfl, l, rfl, fun p c hc1 hc3 => ?_⟩
    refine ⟨rfl, _, rfl, iteB (fun z => nomatch z) (fun _ => ?_)⟩
    refine ⟨_, rfl, .inr (.inr ⟨p, _, [], M, rfl, rfl, c.length, by rw [intsV_len], by omega, ?_⟩)⟩
    refine lcS (List.range c.length) (fun (i : Nat) => .d (.int (i : Int))) (fun _ => .bool true) (by rw [List.length_range]; omega) (fun k hk q Z hZ => ?_) ?_
    · have hk := List.mem_range.mp hk
      exact ⟨_, rfl, _, rfl, p, c, k, [q], M, rfl, rfl, by omega, fun a x y hy => ⟨a, x, y, 0, [], _, rfl, rfl, hy, by decide, fun x' c' => ⟨_, _, rfl, ⟨[_], .refl _⟩, rfl, hZ⟩⟩⟩
    · refine ⟨(List.range c.length).map fun _ => true, by unfold boolsD; rw [List.map_map]; rfl, _, ⟨[_], .refl _⟩, ?_⟩
      have e : ((List.range c.length).map fun _ => true).all id = true := by simp
      show Qa (.d (.bool (((List.range c.length).map fun _ => true).all id))) M
      rw [e]
      exact qq

end
end LN
set_option maxHeartbeats 0
namespace LN
open PySem PySem.Spec PyProof.Rows L2 SlX
/-- all promises, one after another -/
theorem law_all {P : Program} {w : World} {K : Frg} {mg : Str → Option Value} {base : Heap} {fd : FuncData} (T : Tx K mg) (Fn : FunD K "law" "law" (L2.defArgs s_law) (L2.defBody s_law) (L2.defScope s_law) [] [] (He.ga K "law") fd) : FnOk P w K mg base CX0 13 (He.ga K "law") fd ["_law_script"] (spA K R_lawF) := by
  have k_common_part := kp_common_part (P := P) (w := w) (base := base) T 
  have k_fraction := kp_fraction (P := P) (w := w) (base := base) T k_common_part
  have k_plus := kp_plus (P := P) (w := w) (base := base) T k_fraction
  have k_minus := kp_minus (P := P) (w := w) (base := base) T k_fraction
  have k_times := kp_times (P := P) (w := w) (base := base) T k_fraction
  have k_over := kp_over (P := P) (w := w) (base := base) T k_fraction
  have k_is_less := kp_is_less (P := P) (w := w) (base := base) T 
  have k_lesser := kp_lesser (P := P) (w := w) (base := base) T k_is_less
  have k_cut_at := kp_cut_at (P := P) (w := w) (base := base) T k_minus k_over k_plus k_times k_is_less
  have k_place_for := kp_place_for (P := P) (w := w) (base := base) T k_is_less
  have k_Stretches___init__ := kp_Stretches___init__ (P := P) (w := w) (base := base) T 
  have k_Stretches_part_at := kp_Stretches_part_at (P := P) (w := w) (base := base) T k_place_for
  have k_Stretches_weir := kp_Stretches_weir (P := P) (w := w) (base := base) T k_cut_at k_Stretches_part_at k_place_for
  have k_Stretches_divide := kp_Stretches_divide (P := P) (w := w) (base := base) T k_times k_minus
  have k_Stretches_join := kp_Stretches_join (P := P) (w := w) (base := base) T k_plus
  have k_Stretches_take := kp_Stretches_take (P := P) (w := w) (base := base) T k_Stretches_weir k_Stretches_divide k_Stretches_join
  have k_stretches_of := kp_stretches_of (P := P) (w := w) (base := base) T k_Stretches___init__ k_Stretches_take
  have k_set_of := kp_set_of (P := P) (w := w) (base := base) T 
  have k_layers_of := kp_layers_of (P := P) (w := w) (base := base) T 
  have k_Net_parts := kp_Net_parts (P := P) (w := w) (base := base) T 
  have k_Net_outlets := kp_Net_outlets (P := P) (w := w) (base := base) T k_set_of
  have k_table_of := kp_table_of (P := P) (w := w) (base := base) T k_Net_parts k_stretches_of k_Net_outlets k_layers_of
  have k_borders := kp_borders (P := P) (w := w) (base := base) T 
  have k_outlets_of := kp_outlets_of (P := P) (w := w) (base := base) T k_set_of
  have k_amount_of := kp_amount_of (P := P) (w := w) (base := base) T k_lesser k_is_less k_minus k_times k_plus
  have k_amounts := kp_amounts (P := P) (w := w) (base := base) T k_outlets_of k_amount_of
  have k_alike := kp_alike (P := P) (w := w) (base := base) T k_table_of
  have k_amount_text := kp_amount_text (P := P) (w := w) (base := base) T 
  have k_part_text := kp_part_text (P := P) (w := w) (base := base) T k_amount_text
  have k_taken_names := kp_taken_names (P := P) (w := w) (base := base) T 
  have k_made_names := kp_made_names (P := P) (w := w) (base := base) T 
  have k_stands_behind := kp_stands_behind (P := P) (w := w) (base := base) T k_made_names k_taken_names k_set_of
  have k_Net___init__ := kp_Net___init__ (P := P) (w := w) (base := base) T (kp_tupled T 3) k_stands_behind k_made_names k_taken_names k_part_text
  have k_run := kp_run (P := P) (w := w) (base := base) T k_Net_parts k_lesser k_times k_minus k_plus
  have k_flow := kp_flow (P := P) (w := w) (base := base) T k_run k_Net_outlets
  have k_fresh_names := kp_fresh_names (P := P) (w := w) (base := base) T 
  have k_Builder___init__ := kp_Builder___init__ (P := P) (w := w) (base := base) T k_outlets_of k_fresh_names
  have k_Builder_fresh := kp_Builder_fresh (P := P) (w := w) (base := base) T 
  have k_Builder_parted := kp_Builder_parted (P := P) (w := w) (base := base) T k_Builder_fresh k_over k_minus
  have k_Builder_layered := kp_Builder_layered (P := P) (w := w) (base := base) T k_Builder_fresh k_minus k_Builder_parted
  have k_Builder_gathered := kp_Builder_gathered (P := P) (w := w) (base := base) T k_Builder_fresh
  have k_net_of := kp_net_of (P := P) (w := w) (base := base) T (kp_tupled T 5) k_Builder___init__ k_Net___init__ k_Builder_layered k_Builder_gathered
  have k_leanest := kp_leanest (P := P) (w := w) (base := base) T k_table_of k_net_of
  have k__law_take := kp__law_take (P := P) (w := w) (base := base) T 
  have k__law_frac := kp__law_frac (P := P) (w := w) (base := base) T 
  have k__law_plus := kp__law_plus (P := P) (w := w) (base := base) T k__law_frac
  have k__law_minus := kp__law_minus (P := P) (w := w) (base := base) T k__law_frac
  have k__law_mul := kp__law_mul (P := P) (w := w) (base := base) T k__law_frac
  have k__law_less := kp__law_less (P := P) (w := w) (base := base) T 
  have k__law_of := kp__law_of (P := P) (w := w) (base := base) T k__law_take
  have k__law_amount := kp__law_amount (P := P) (w := w) (base := base) T k__law_of k__law_take k__law_frac
  have k__law_spots := kp__law_spots (P := P) (w := w) (base := base) T k__law_amount k__law_mul k__law_plus
  have k__law_changed := kp__law_changed (P := P) (w := w) (base := base) T k__law_of
  have k__law_walk := kp__law_walk (P := P) (w := w) (base := base) T k__law_plus k__law_mul k__law_less k__law_minus
  have k__law_box := kp__law_box (P := P) (w := w) (base := base) T 
  have k__law_cells := kp__law_cells (P := P) (w := w) (base := base) T 
  have k__law_parts := kp__law_parts (P := P) (w := w) (base := base) T k__law_take k__law_amount k__law_of k__law_frac
  have k__law_bent_right := kp__law_bent_right (P := P) (w := w) (base := base) T k__law_of k__law_plus k_Net___init__ k_table_of k_alike (kp_same T 6) k_borders k__law_spots k__law_walk
  have k__law_case_right := kp__law_case_right (P := P) (w := w) (base := base) T k_Net___init__ k_table_of k_borders k__law_spots k__law_walk k_flow k_amounts (kp_same T 6) k__law_changed k_leanest k_alike k__law_bent_right
  have k__law_by_hand_right := kp__law_by_hand_right (P := P) (w := w) (base := base) T k_Net___init__ k_alike k_table_of k_borders k_flow k_amounts k_leanest (kp_same T 6)
  have k__law_right := kp__law_right (P := P) (w := w) (base := base) T k__law_of k__law_parts k__law_case_right
  exact fn_law T Fn k__law_cells k__law_by_hand_right k__law_box k__law_right
theorem ints_rep {K : Frg} {F : Hp} : ∀ ns : List Int, DsAll K F (ns.map V.int) (intsD ns)
  | [] => .nil
  | n :: ns => .cons (.int n) (ints_rep ns)
theorem law_sp {K : Frg} {H : Hp} {a : Addr} {ns : List Int} (h : SqL K H a (ns.map V.int)) : spA K R_lawF [.ref a] H (fun v _ => v = .bl true) fun _ _ _ => False :=
  ⟨H, [.d (.list (intsD ns))], [], fun x _ => x = .d (.bool true), ⟨Same.refl _, List.nodup_nil, (fun _ hp => by simp at hp), (fun _ hp => by simp at hp)⟩, .cons (.lst h (ints_rep ns)) .nil, ⟨ns, rfl, rfl⟩, fun x M' v F' H' e _ _ r => by
    subst e
    cases r
    rfl⟩
end LN
open PySem PySem.W PySem.Calls PyProof.Rows
theorem PySem.Challenge.cw_layernets_k65_whole_one_table_for_all_in_holds : PySem.Challenge.rw_layernets_k65_whole_one_table_for_all_in.Holds := by
  w_on; o_law
  refine HandSHeadRun.head_any (r := LN.RR) (q := view LN.RR.prog [88]) (H := LN.hookL 7) (ob := LN.ob) (M := 6000) (loose := LN.looseN) (d := HandSHeadRun.topDef LN.RR.prog 88) (kwd := []) LN.ob_eq
    (by kernel_rfl) (fun s => by kernel_rfl) LN.run (by kernel_rfl) (by kernel_rfl) (by kernel_rfl) (by rfl) (by first | assumption | decide +kernel) (by decide +kernel) ⟨rfl, rfl, rfl, rfl, rfl, by decide +kernel⟩ ?hw ?hc
  case hw => w_witness2
  case hc =>
    refine L2.walk_ofE (l := PySem.Challenge.rw_layernets_k65_whole_one_table_for_all_in) (n := 63) (k := 13) (x := "_law_script") (CX := L2.CX0) rfl (by decide) (by kernel_rfl) ⟨rfl, by decide, by decide⟩ ?F (fun _ _ _ _ z => z)
    intro w mg fa h Y G hmg0
    obtain ⟨K, KX, c⟩ := Y
    have T : LN.Tx K mg := ⟨c, h, KX, G⟩
    have hmg : mg ("law" : PySem.Str) = some (.ref fa) := by
      have e : (HandSHeadRun.topDef LN.RR.prog 88).name = ("law" : PySem.Str) := by kernel_rfl
      rw [← e]
      exact hmg0
    have e := hmg.symm.trans (T.glo 49)
    cases e
    obtain ⟨fd, Fn⟩ := T.def_ (K := K) (mg := mg) 63
    have b := L2.FunD.bindsA (ps := ["_law_script"]) Fn fun _ _ _ _ _ _ us hl => match us, hl with | [_], _ => rfl
    exact ⟨K, fd, LN.spA K LN.R_lawF, KX, fun s v => b s [v] rfl, fun H a ns hl _ hS => LN.law_sp hS, fun base _ _ => LN.law_all T Fn⟩
