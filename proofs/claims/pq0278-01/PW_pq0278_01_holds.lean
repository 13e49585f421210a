import PyProof.Rows.All
import Wide.All
import OpenK.AllK
import Wide.FinOn
import PySem.Challenge.RW_pq0278_01
set_option Elab.async false
set_option linter.all false
set_option genInjectivity false
set_option genSizeOf false
set_option compiler.extract_closed false
open PySem PySem.W PyProof.Rows PySem.Calls
namespace Mine
theorem kl (n : Nat) (_ : PySem.Challenge.rw_pq0278_01.row.wellSaid = true → PySem.Challenge.rw_pq0278_01.row.Holds) : (n = n + 0) = True := eq_true rfl
set_option maxRecDepth 100000 in
set_option maxHeartbeats 8000000 in
theorem hd (n : Nat) : n = n + 0 := by
  simp -failIfUnchanged (discharger := with_unfolding_all (w_on; intro said; refine' And.left (b := _) ⟨?main, ?hl⟩; any_goals k_head)) only [kl]
  rfl
set_option maxRecDepth 100000 in
theorem fill0 : PySem.Challenge.rw_pq0278_01 = PySem.Challenge.rw_pq0278_01 ∧ hd.heap_1 = hd.heap_1 := by
  k_fill
  exact ⟨rfl, rfl⟩
local macro_rules | `(tactic| walk_at $s:str) => `(tactic| k_extra $s)
local macro_rules | `(tactic| k_enter) => `(tactic| k_extra "k_enter")
local macro_rules | `(tactic| k_all) => `(tactic| k_extra "k_all")
local macro_rules | `(tactic| k_mem) => `(tactic| k_extra "k_mem")
local macro_rules | `(tactic| k_ne) => `(tactic| k_extra "k_ne")
local macro_rules | `(tactic| k_room) => `(tactic| k_extra "k_room")
local macro_rules | `(tactic| k_units) => `(tactic| k_extra "k_units")
local macro_rules | `(tactic| k_upd) => `(tactic| k_extra "k_upd")
local macro_rules | `(tactic| k_updF) => `(tactic| k_extra "k_updF")
local macro_rules | `(tactic| lcg_off) => `(tactic| k_extra "lcg_off")
local macro_rules | `(tactic| omega) => `(tactic| k_extra "omega")
local macro_rules | `(tactic| tlg_ne) => `(tactic| k_extra "tlg_ne")
set_option maxRecDepth 100000
set_option maxHeartbeats 1000000
theorem kwnone : True := by
  k_with_none
  trivial
noncomputable section
section
theorem wtPre : True := by
  w_top off
  trivial
theorem o1 {d a b n m : Nat} (h : d + b < n) (e : (Nat.ble a b && Nat.ble n m) = true) : d + a < m :=
  have e := Bool.and_eq_true_iff.mp e
  Nat.lt_of_le_of_lt (Nat.add_le_add_left (Nat.le_of_ble_eq_true e.1) d) (Nat.lt_of_lt_of_le h (Nat.le_of_ble_eq_true e.2))
theorem o2 {d b n m : Nat} (h : d + b < n) (e : Nat.ble n m = true) : d < m := o1 (a := 0) h (by rw [e]; rfl)
theorem o3 {d a c b n m : Nat} (h : d + b < n) (e : (Nat.ble (a + c) b && Nat.ble n m) = true) : d + a + c < m := by rw [Nat.add_assoc]; exact o1 h e
theorem o4 {x n m : Nat} (h : x < n) (e : Nat.ble n m = true) : x < m := Nat.lt_of_lt_of_le h (Nat.le_of_ble_eq_true e)
theorem o5 {x n m : Nat} (h : x < n) (e : Nat.ble n m = true) : x ≤ m := Nat.le_of_lt (o4 h e)
theorem o6 {x n m : Nat} (h : x ≤ n) (e : Nat.ble n m = true) : x ≤ m := Nat.le_trans h (Nat.le_of_ble_eq_true e)
theorem o7 {x n m : Nat} (h : x ≤ n) (e : Nat.ble (n + 1) m = true) : x < m := Nat.lt_of_le_of_lt h (Nat.le_of_ble_eq_true e)
theorem o8 {x a n m : Nat} (h : x < n) (e : Nat.ble (n + a) m = true) : x + a < m := Nat.lt_of_lt_of_le (Nat.add_lt_add_right h a) (Nat.le_of_ble_eq_true e)
theorem o9 {x a n m : Nat} (h : x < n) (e : Nat.ble (n + a) m = true) : x + a ≤ m := Nat.le_of_lt (o8 h e)
theorem o10 {x a n m : Nat} (h : x ≤ n) (e : Nat.ble (n + a) m = true) : x + a ≤ m := Nat.le_trans (Nat.add_le_add_right h a) (Nat.le_of_ble_eq_true e)
theorem o11 {x a n m : Nat} (h : x ≤ n) (e : Nat.ble (n + a + 1) m = true) : x + a < m := Nat.lt_of_le_of_lt (Nat.add_le_add_right h a) (Nat.le_of_ble_eq_true e)
theorem o12 {x a n m : Nat} (h : x < n) (e : Nat.ble (n + a) m = true) : a + x ≤ m := by rw [Nat.add_comm]; exact o9 h e
theorem o13 {x a n m : Nat} (h : x ≤ n) (e : Nat.ble (n + a) m = true) : a + x ≤ m := by rw [Nat.add_comm]; exact o10 h e
end
section
section
theorem wtKit : True := by
  w_top off
  trivial
abbrev Comp := List Addr → Heap → Prop
structure InC (C : Comp) (fp : List Addr) (h₀ : Heap) (L : Addr) (h : Heap) (m : Str → Option Value) : Prop where
  F : Fr h₀ L h m
  C : C fp h
  hL : L ∉ fp
  hb : ∀ a o, h₀.get? a = some o → a ∉ fp
def Step (fp : List Addr) (h : Heap) (fp' : List Addr) (h' : Heap) : Prop :=
  (∀ a o, h.get? a = some o → a ∉ fp → h'.get? a = some o) ∧ (∀ a ∈ fp', a ∈ fp ∨ h.get? a = none)
theorem Step.refl {f : List Addr} {h : Heap} : Step f h f h := ⟨fun _ _ e _ => e, fun _ q => .inl q⟩
structure Good (C : Comp) : Prop where
  nodup : ∀ {fp h}, C fp h → fp.Nodup
  alive : ∀ {fp h}, C fp h → ∀ a ∈ fp, ∃ o, h.get? a = some o
  keeps : ∀ {fp h h'}, C fp h → (∀ a o, a ∈ fp → h.get? a = some o → h'.get? a = some o) → C fp h'
def Star (C D : Comp) : Comp := fun fp h => ∃ f1 f2, fp = f1 ++ f2 ∧ (∀ a ∈ f1, a ∉ f2) ∧ C f1 h ∧ D f2 h
theorem Star.good {C D : Comp} (x : Good C) (y : Good D) : Good (Star C D) where
  nodup := by
    rintro fp h ⟨f1, f2, rfl, n, c, d⟩
    exact List.nodup_append.mpr ⟨x.nodup c, y.nodup d, fun a ha b hb e => n a ha (e ▸ hb)⟩
  alive := by
    rintro fp h ⟨f1, f2, rfl, n, c, d⟩ a ha
    rcases List.mem_append.mp ha with q | q
    · exact x.alive c a q
    · exact y.alive d a q
  keeps := by
    rintro fp h h' ⟨f1, f2, rfl, n, c, d⟩ k
    exact ⟨f1, f2, rfl, n, x.keeps c fun a o q => k a o (List.mem_append_left _ q), y.keeps d fun a o q => k a o (List.mem_append_right _ q)⟩
theorem fr_step {h₀ h h' : Heap} {L : Addr} {m : Str → Option Value} {fp fp' : List Addr} (F : Fr h₀ L h m) (hL : L ∉ fp) (hb : ∀ a o, h₀.get? a = some o → a ∉ fp) (st : Step fp h fp' h') : Fr h₀ L h' m := by
  obtain ⟨⟨oL, es, ep, q, r⟩, k, ab⟩ := F
  exact ⟨⟨oL, es, ep, st.1 _ _ q hL, r⟩, fun b o e => st.1 _ _ (k b o e) (hb b o e), ab⟩
theorem InC.step {C C' : Comp} {fp fp' : List Addr} {h₀ h h' : Heap} {L : Addr} {m : Str → Option Value} (I : InC C fp h₀ L h m) (c : C' fp' h') (st : Step fp h fp' h') : InC C' fp' h₀ L h' m := by
  refine ⟨fr_step I.F I.hL I.hb st, c, fun q => ?_, fun a o e q => ?_⟩
  · obtain ⟨oL, es, ep, z, r⟩ := I.F.ns
    rcases st.2 _ q with y | y
    · exact I.hL y
    · rw [z] at y; cases y
  · rcases st.2 _ q with y | y
    · exact I.hb a o e y
    · rw [I.F.keep a o e] at y; cases y
def Ctxt {ι : Type} (C : Comp) (C' : ι → Comp) (W : Comp) (W' : ι → Comp) : Prop := ∀ {fp h₀ L h m}, InC W fp h₀ L h m → ∃ f1, InC C f1 h₀ L h m ∧
  ∀ v f1' h', InC (C' v) f1' h₀ L h' m → Step f1 h f1' h' → ∃ fp', InC (W' v) fp' h₀ L h' m ∧ Step fp h fp' h'
theorem Ctxt.here {ι : Type} {C : Comp} {C' : ι → Comp} : Ctxt C C' C C' := fun I => ⟨_, I, fun _ f1' _ J st => ⟨f1', J, st⟩⟩
theorem Ctxt.left {ι : Type} {C : Comp} {C' : ι → Comp} {D : Comp} {D' : ι → Comp} {E : Comp} (c : Ctxt C C' D D') (gE : Good E) : Ctxt C C' (Star D E) (fun v => Star (D' v) E) := by
  intro fp h₀ L h m I
  obtain ⟨f1, f2, rfl, n, d, e⟩ := I.C
  have J : InC D f1 h₀ L h m := ⟨I.F, d, fun q => I.hL (List.mem_append_left _ q), fun a o z q => I.hb a o z (List.mem_append_left _ q)⟩
  obtain ⟨f0, J0, k⟩ := c J
  refine ⟨f0, J0, fun v f0' h' J' st => ?_⟩
  obtain ⟨f1', J1, st1⟩ := k v f0' h' J' st
  have ke : ∀ a o, a ∈ f2 → h.get? a = some o → h'.get? a = some o := fun a o q z => st1.1 a o z fun q' => n a q' q
  have n' : ∀ a ∈ f1', a ∉ f2 := fun a q q2 => by
    rcases st1.2 a q with y | y
    · exact n a y q2
    · obtain ⟨o, z⟩ := gE.alive e a q2
      rw [z] at y; cases y
  have st' : Step (f1 ++ f2) h (f1' ++ f2) h' := ⟨fun a o z q => st1.1 a o z fun y => q (List.mem_append_left _ y), fun a q => by
    rcases List.mem_append.mp q with y | y
    · rcases st1.2 a y with y | y
      · exact .inl (List.mem_append_left _ y)
      · exact .inr y
    · exact .inl (List.mem_append_right _ y)⟩
  exact ⟨f1' ++ f2, I.step (C' := Star (D' v) E) ⟨f1', f2, rfl, n', J1.C, gE.keeps e ke⟩ st', st'⟩
theorem Ctxt.right {ι : Type} {C : Comp} {C' : ι → Comp} {D : Comp} {D' : ι → Comp} {E : Comp} (c : Ctxt C C' D D') (gE : Good E) : Ctxt C C' (Star E D) (fun v => Star E (D' v)) := by
  intro fp h₀ L h m I
  obtain ⟨f2, f1, rfl, n, e, d⟩ := I.C
  have J : InC D f1 h₀ L h m := ⟨I.F, d, fun q => I.hL (List.mem_append_right _ q), fun a o z q => I.hb a o z (List.mem_append_right _ q)⟩
  obtain ⟨f0, J0, k⟩ := c J
  refine ⟨f0, J0, fun v f0' h' J' st => ?_⟩
  obtain ⟨f1', J1, st1⟩ := k v f0' h' J' st
  have ke : ∀ a o, a ∈ f2 → h.get? a = some o → h'.get? a = some o := fun a o q z => st1.1 a o z fun q' => n a q q'
  have n' : ∀ a ∈ f2, a ∉ f1' := fun a q2 q => by
    rcases st1.2 a q with y | y
    · exact n a q2 y
    · obtain ⟨o, z⟩ := gE.alive e a q2
      rw [z] at y; cases y
  have st' : Step (f2 ++ f1) h (f2 ++ f1') h' := ⟨fun a o z q => st1.1 a o z fun y => q (List.mem_append_right _ y), fun a q => by
    rcases List.mem_append.mp q with y | y
    · exact .inl (List.mem_append_left _ y)
    · rcases st1.2 a y with y | y
      · exact .inl (List.mem_append_right _ y)
      · exact .inr y⟩
  exact ⟨f2 ++ f1', I.step (C' := Star E (D' v)) ⟨f2, f1', rfl, n', gE.keeps e ke, J1.C⟩ st', st'⟩
theorem InC.news {C : Comp} {fp : List Addr} {h₀ h : Heap} {L : Addr} {m : Str → Option Value} (I : InC C fp h₀ L h m) {hid : List (Addr × Obj)} (hs : ∀ p ∈ hid, p.1 ∈ fp ∧ h.get? p.1 = some p.2) : News h₀ L h hid :=
  fun p hp => ⟨(hs p hp).2, fun e => I.hL (e ▸ (hs p hp).1), by
    cases q : h₀.get? p.1 with
    | none => rfl
    | some o => exact absurd (hs p hp).1 (I.hb _ _ q)⟩
section
variable {prog : Program} {w : World} {A₀ A : Around} {s : Shared} {base h₀ : Heap} {outer : List Env} {L : Addr} {m : Str → Option Value} {env : Env} {hid : List (Addr × Obj)}
/-- a call of a plain def, the objects `hid` alone in the ledger: all else stays -/
theorem enter {R : Result → Shared → Prop} {name qual : Str} {params : Arguments} {body : List Stmt} {scope : Scope} {cl : List (Str × Addr)} {dV kV doc pm cdv ct : Value} {an : Option Addr} {f : Addr} {fo : Obj} {args : Args} {binds : List (Str × Value)}
    {p : Program} {loose : List Str} {mean : ExcName → Option Value} {mg mb : Str → Option Value} {K : Frag}
    (B : Below A₀ base outer h₀) (F : Fr h₀ L s.heap m) (X : K.In h₀) (T : Top p loose mean mg mb h₀) (N : News h₀ L s.heap hid) (hA : A.frames = some (env :: outer)) (hf : env.frame = some L) (hke : env.scope.kind = .function)
    (ho : s.heap.get? f = some fo) (hd : fo.data = .func (fnX name qual params body scope cl dV kV doc pm an cdv ct)) (hcd : s.heap.CodeRec cdv qual) (hroom : A.depth < recursionLimit)
    (hbind : BindsTo s (fnX name qual params body scope cl dV kV doc pm an cdv ct) args binds) (hloc : ∀ y ∈ binds, scope.names.lookup y.1 = some .local)
    (h : ∀ g L' h₁, (∀ b o, s.heap.get? b = some o → b ∉ hid.map (·.1) → g.get? b = some o) → (∀ b, g.get? b = none → s.heap.get? b = none ∨ b ∈ hid.map (·.1)) → s.heap.get? L' = none → Fr g L' h₁ (fun y => binds.reverse.lookup y) → News g L' h₁ hid → Below A base (env :: outer) g → K.In g → Top p loose mean mg mb g → (∀ p ∈ hid, p.1 < L') → 
      wpAny (model prog w) (A.deeper (envX qual scope L' f cdv cl)) (execs body (envX qual scope L' f cdv cl))
        (fun fl s' => R (.ok (.ret (match fl with | .ret v => v | _ => .none))) s') (fun _ _ => False)
        { s with heap := h₁, toks := s.toks + binds.length })
    (hcell : ∀ x ∈ scope.names, x.2 ≠ .cell) (hco : scope.isCoroutine = false) (hgen : scope.isGenerator = false) (hk : scope.kind = .function) : codeAny (model prog w) A (.call (.ref f) args) R s := by
  obtain ⟨FG, BG, st, _⟩ := groundX (R := R) B F N hA hf hke
  refine codeAny_call_def (fd := fnX name qual params body scope cl dV kV doc pm an cdv ct) (body := body) (binds := binds) hroom ho hd (T.nolimit.keeps F.keep) hcd rfl hbind hcell hloc (fun h₁ hns hk₁ => ?_) hco hgen hk
  have fresh : s.heap.get? s.heap.objs.size = none := by
    cases q : s.heap.get? s.heap.objs.size with
    | none => rfl
    | some o => exact absurd (Heap.lt_size q) (Nat.lt_irrefl _)
  refine wpAny_mono (h _ s.heap.objs.size h₁ (fun b o e n => hideAll_get _ e n) (fun b e => ?_) fresh ⟨hns, fun b o e => hk₁ b o (of_hideAll _ e), Nat.le_of_eq (hideAll_size _ _)⟩
    (fun p hp => ⟨hk₁ _ _ (N p hp).1, Nat.ne_of_lt (Heap.lt_size (N p hp).1), hideAll_none _ (List.mem_map_of_mem hp)⟩) BG (X.keeps st) (T.keeps st) (fun p hp => Heap.lt_size (N p hp).1)) (fun fl s' hl => hl) fun _ _ y => y.elim
  by_cases hm : b ∈ hid.map (·.1)
  · exact .inr hm
  · left
    cases q : s.heap.get? b with
    | none => rfl
    | some o => rw [hideAll_get _ q hm] at e; cases e
end
end
section
variable {prog : Program} {w : World} {A₀ A : Around} {s : Shared} {base h₀ : Heap} {outer : List Env} {L : Addr} {m : Str → Option Value} {env : Env} {hid : List (Addr × Obj)}
/-- a call of a def with cells of its own, the objects `hid` alone in the ledger: all else stays -/
theorem enterC {R : Result → Shared → Prop} {name qual : Str} {params : Arguments} {body : List Stmt} {scope : Scope} {dV kV doc pm cdv ct : Value} {an : Option Addr} {f : Addr} {fo : Obj} {vals : List Value} {binds : List (Str × Value)}
    {p : Program} {loose : List Str} {mean : ExcName → Option Value} {mg mb : Str → Option Value} {K : Frag}
    (B : Below A₀ base outer h₀) (F : Fr h₀ L s.heap m) (X : K.In h₀) (T : Top p loose mean mg mb h₀) (N : News h₀ L s.heap hid) (hA : A.frames = some (env :: outer)) (hf : env.frame = some L) (hke : env.scope.kind = .function)
    (ho : s.heap.get? f = some fo) (hd : fo.data = .func (fnX name qual params body scope [] dV kV doc pm an cdv ct)) (hcd : s.heap.CodeRec cdv qual) (hroom : A.depth < recursionLimit)
    (hbind : bindArgs (fnX name qual params body scope [] dV kV doc pm an cdv ct) ⟨vals, []⟩ = pure binds)
    (hkind : (binds.all fun y => scope.names.lookup y.1 == some .local || scope.names.lookup y.1 == some .cell) = true)
    (hnd : ((cellsFrom 0 scope.names []).map (·.1)).Nodup)
    (h : ∀ g L' h₁ tk cells, (∀ b o, s.heap.get? b = some o → b ∉ hid.map (·.1) → g.get? b = some o) → (∀ b, g.get? b = none → s.heap.get? b = none ∨ b ∈ hid.map (·.1)) → s.heap.get? L' = none → Fr g L' h₁ (bindL (envOfC qual scope L' f cdv).kindOf binds fun _ => none) → News g L' h₁ (cells ++ hid) →
      CellsAre (bindC (envOfC qual scope L' f cdv).kindOf binds fun _ => none) (cellsFrom (L' + 1) scope.names []) cells → Below A base (env :: outer) g → K.In g → Top p loose mean mg mb g → (∀ p ∈ hid, p.1 < L') → 
      wpAny (model prog w) (A.deeper (envOfC qual scope L' f cdv)) (execs body (envOfC qual scope L' f cdv))
        (fun fl s' => R (.ok (.ret (match fl with | .ret v => v | _ => .none))) s') (fun _ _ => False)
        { s with heap := h₁, toks := tk })
    (hco : scope.isCoroutine = false) (hgen : scope.isGenerator = false) (hk : scope.kind = .function) : codeAny (model prog w) A (.call (.ref f) ⟨vals, []⟩) R s := by
  obtain ⟨FG, BG, st, _⟩ := groundX (R := R) B F N hA hf hke
  refine codeAny_call_cells (fd := fnX name qual params body scope [] dV kV doc pm an cdv ct) hroom ho hd (T.nolimit.keeps F.keep) hcd rfl hbind rfl (kindsX hkind _) (fun s₁ x => ?_) hco hgen hk
  have fresh : s.heap.get? s.heap.objs.size = none := by
    cases q : s.heap.get? s.heap.objs.size with
    | none => rfl
    | some o => exact absurd (Heap.lt_size q) (Nat.lt_irrefl _)
  obtain ⟨h₁, tk, rfl, _⟩ := x.done
  have hk₁ := x.toInCall.keep
  obtain ⟨cells, NC, Y⟩ := Cl.news (h₀ := s.heap) (Nat.le_refl _) fun n c hm => ⟨x.cell n c (lookup_of_mem_nodup (cellsFrom_names scope.names 0 (s.heap.objs.size + 1) [] [] rfl ▸ hnd) hm), x.above n c hm⟩
  refine wpAny_mono (h _ s.heap.objs.size h₁ tk cells (fun b o e n => hideAll_get _ e n) (fun b e => ?_) fresh ⟨x.toInCall.ns, fun b o e => hk₁ b o (of_hideAll _ e), Nat.le_of_eq (hideAll_size _ _)⟩ (fun p hp => ?_) Y BG (X.keeps st) (T.keeps st) (fun p hp => Heap.lt_size (N p hp).1)) (fun fl s' hl => hl) fun _ _ y => y.elim
  · by_cases hm : b ∈ hid.map (·.1)
    · exact .inr hm
    · left
      cases q : s.heap.get? b with
      | none => rfl
      | some o => rw [hideAll_get _ q hm] at e; cases e
  · rcases List.mem_append.mp hp with hp | hp
    · refine ⟨(NC p hp).1, (NC p hp).2.1, ?_⟩
      cases q : (hideAll s.heap (hid.map (·.1))).get? p.1 with
      | none => rfl
      | some o => have z := of_hideAll _ q; rw [(NC p hp).2.2] at z; cases z
    · exact ⟨hk₁ _ _ (N p hp).1, Nat.ne_of_lt (Heap.lt_size (N p hp).1), hideAll_none _ (List.mem_map_of_mem hp)⟩
end
section
/-- the end of a leaf: the frame is left, the part is as the ledger says -/
theorem leafEnd {C C' : Comp} {fp fp' : List Addr} {h₀ h h' g : Heap} {L L' : Addr} {m m' : Str → Option Value} {hid news : List (Addr × Obj)} (I : InC C fp h₀ L h m)
    (keep : ∀ b o, h.get? b = some o → b ∉ hid.map (·.1) → g.get? b = some o) (gone : ∀ b, g.get? b = none → h.get? b = none ∨ b ∈ hid.map (·.1)) (hs : ∀ p ∈ hid, p.1 ∈ fp)
    (F : Fr g L' h' m') (N : News g L' h' news) (c : C' fp' h') (hn : ∀ a ∈ fp', a ∈ fp ∨ ∃ p ∈ news, p.1 = a) : InC C' fp' h₀ L h' m ∧ Step fp h fp' h' := by
  have st : Step fp h fp' h' := by
    refine ⟨fun a o e n => F.keep a o (keep a o e fun q => ?_), fun a q => ?_⟩
    · obtain ⟨p, hp, rfl⟩ := List.mem_map.mp q
      exact n (hs p hp)
    · rcases hn a q with y | ⟨p, hp, rfl⟩
      · exact .inl y
      · rcases gone _ (N p hp).2.2 with z | z
        · exact .inr z
        · obtain ⟨q, hq, e⟩ := List.mem_map.mp z
          exact .inl (e ▸ hs q hq)
  exact ⟨I.step c st, st⟩
theorem leafDone {C : Comp} {C' : Value → Comp} {fp : List Addr} {h₀ h' g : Heap} {s : Shared} {L L' : Addr} {m m' : Str → Option Value} {hid news : List (Addr × Obj)} {Q : Value → Shared → Prop} {v : Value} {tk : Nat} (I : InC C fp h₀ L s.heap m)
    (keep : ∀ b o, s.heap.get? b = some o → b ∉ hid.map (·.1) → g.get? b = some o) (gone : ∀ b, g.get? b = none → s.heap.get? b = none ∨ b ∈ hid.map (·.1)) (hs : ∀ p ∈ hid, p.1 ∈ fp)
    (hk : ∀ v h' tk' fp', InC (C' v) fp' h₀ L h' m → Step fp s.heap fp' h' → Q v { s with heap := h', toks := tk' })
    (F : Fr g L' h' m') (N : News g L' h' news) (fp' : List Addr) (c : C' v fp' h') (hn : ∀ a ∈ fp', a ∈ fp ∨ ∃ p ∈ news, p.1 = a) : Q v { s with heap := h', toks := tk } :=
  have z := leafEnd (C' := C' v) I keep gone hs F N c hn
  hk _ _ _ _ z.1 z.2
end
end
section
theorem wtCheap : True := by
  w_top off
  trivial
theorem kwCheap1 : True := by
  k_with "omega" => first | exact Nat.le_of_ble_eq_true rfl | with_reducible assumption | exact Mine.o1 (by with_reducible assumption) (by exact rfl) | exact Mine.o3 (by with_reducible assumption) (by exact rfl) | exact Mine.o2 (by with_reducible assumption) (by exact rfl) | exact Mine.o4 (by with_reducible assumption) (by exact rfl) | exact Mine.o5 (by with_reducible assumption) (by exact rfl) | exact Mine.o6 (by with_reducible assumption) (by exact rfl) | exact Mine.o7 (by with_reducible assumption) (by exact rfl) | exact Mine.o8 (by with_reducible assumption) (by exact rfl) | exact Mine.o9 (by with_reducible assumption) (by exact rfl) | exact Mine.o10 (by with_reducible assumption) (by exact rfl) | exact Mine.o11 (by with_reducible assumption) (by exact rfl) | exact Mine.o12 (by with_reducible assumption) (by exact rfl) | exact Mine.o13 (by with_reducible assumption) (by exact rfl) | exact Nat.ne_of_lt (by with_reducible assumption) | exact Nat.ne_of_gt (by with_reducible assumption) | exact Nat.le_of_lt (by with_reducible assumption) | fail
  trivial
structure SD (d : Nat) (l : List Nat) : Prop where
  lt : ∀ k ∈ l, k < d
  nd : l.Nodup
theorem SD.all {d : Nat} {l : List Nat} (h : SD d l) : (d :: l).Nodup := List.nodup_cons.mpr ⟨fun z => Nat.lt_irrefl _ (h.lt _ z), h.nd⟩
theorem SD.two {d x : Nat} {l : List Nat} (h : SD d l) (h2 : d < x) : SD x (d :: l) := ⟨fun
  | _, .head _ => h2
  | k, .tail _ hk => Nat.lt_trans (h.lt k hk) h2, h.all⟩
theorem sd_cons {l : List (Addr × Obj)} {d : Addr} (h : ∀ p ∈ l, p.1 < d) (n : (l.map (·.1)).Nodup) : SD d (l.map (·.1)) := ⟨fun k hk => by
  obtain ⟨p, hp, e⟩ := List.mem_map.mp hk
  exact e ▸ h p hp, n⟩
def NeAll (d : Nat) : List Nat → Prop
  | [] => True
  | [a] => @Ne Nat a d
  | a :: b :: l => @Ne Nat a d ∧ NeAll d (b :: l)
theorem NeAll.mem {d : Nat} : ∀ {l : List Nat}, NeAll d l → d ∉ l
  | [], _ => List.not_mem_nil
  | [_], h => fun z => h (List.mem_singleton.mp z).symm
  | _ :: _ :: _, h => fun z => (List.mem_cons.mp z).elim (fun e => h.1 e.symm) (NeAll.mem h.2)
theorem nd_ne {d : Nat} {l : List Nat} (h : NeAll d l) (n : l.Nodup) : (d :: l).Nodup := List.nodup_cons.mpr ⟨h.mem, n⟩
theorem nd_cells8 {L a : Nat} (h0 : SD L [a]) : [L+1+1+1+1+1+1+1+1, L+1+1+1+1+1+1+1, L+1+1+1+1+1+1, L+1+1+1+1+1, L+1+1+1+1, L+1+1+1, L+1+1, L+1, a].Nodup :=
  have h : a < L := h0.lt a (.head _)
  have b : SD a [] := ⟨(fun _ h => nomatch h), List.nodup_nil⟩
  (((((((((b.two (Nat.lt_succ_of_lt h)).two (Nat.lt_succ_self _)).two (Nat.lt_succ_self _)).two (Nat.lt_succ_self _)).two (Nat.lt_succ_self _)).two (Nat.lt_succ_self _)).two (Nat.lt_succ_self _)).two (Nat.lt_succ_self _))).all
inductive UpdG (d : Addr) (o : Obj) : List (Addr × Obj) → (Obj → List (Addr × Obj)) → Prop
  | head {r} : UpdG d o ((d, o) :: r) (fun o' => (d, o') :: r)
  | tail {p r g} : UpdG d o r g → UpdG d o (p :: r) (fun o' => p :: g o')
inductive UpdH (d : Addr) (o o' : Obj) : List (Addr × Obj) → List (Addr × Obj) → Prop
  | head {r} : UpdH d o o' ((d, o) :: r) ((d, o') :: r)
  | tail {p r r'} : UpdH d o o' r r' → UpdH d o o' (p :: r) (p :: r')
theorem nd_head {d : Addr} {o : Obj} {r : List (Addr × Obj)} (n : (((d, o) :: r).map (·.1)).Nodup) : ∀ p ∈ r, p.1 ≠ d := fun p hp e => (List.nodup_cons.mp n).1 (show d ∈ r.map (·.1) from e ▸ List.mem_map_of_mem (f := fun p : Addr × Obj => p.1) hp)
theorem UpdG.mem {d : Addr} {o : Obj} : ∀ {l : List (Addr × Obj)} {g : Obj → List (Addr × Obj)}, UpdG d o l g → (d, o) ∈ l
  | _, _, .head => .head _
  | _, _, .tail u => .tail _ u.mem
theorem UpdH.mem {d : Addr} {o o' : Obj} : ∀ {l l' : List (Addr × Obj)}, UpdH d o o' l l' → (d, o) ∈ l
  | _, _, .head => .head _
  | _, _, .tail u => .tail _ u.mem
theorem updF_nd {d : Addr} {o : Obj} : ∀ {l : List (Addr × Obj)} {g : Obj → List (Addr × Obj)}, UpdG d o l g → (l.map (·.1)).Nodup → UpdF d o l g
  | _, _, .head, n => .head (nd_head n)
  | _, _, .tail u, n => .tail (fun e => (List.nodup_cons.mp n).1 (by show (_ : Addr × Obj).1 ∈ _; rw [e]; exact List.mem_map_of_mem (f := fun p : Addr × Obj => p.1) u.mem)) (updF_nd u (List.nodup_cons.mp n).2)
theorem upd_nd {d : Addr} {o o' : Obj} : ∀ {l l' : List (Addr × Obj)}, UpdH d o o' l l' → (l.map (·.1)).Nodup → Upd d o o' l l'
  | _, _, .head, n => .head (nd_head n)
  | _, _, .tail u, n => .tail (fun e => (List.nodup_cons.mp n).1 (by show (_ : Addr × Obj).1 ∈ _; rw [e]; exact List.mem_map_of_mem (f := fun p : Addr × Obj => p.1) u.mem)) (upd_nd u (List.nodup_cons.mp n).2)
theorem getD_mem : ∀ {l : List Nat} {i : Nat}, i < l.length → l.getD i 0 ∈ l
  | [], _, h => nomatch h
  | _ :: _, 0, _ => .head _
  | _ :: l, i + 1, h => .tail _ (getD_mem (l := l) (Nat.lt_of_succ_lt_succ h))
theorem nd_getD : ∀ {l : List Nat}, l.Nodup → ∀ {i j : Nat}, i < l.length → j < l.length → l.getD i 0 = l.getD j 0 → i = j
  | [], _, _, _, hi, _, _ => nomatch hi
  | _ :: _, _, 0, 0, _, _, _ => rfl
  | a :: l, h, 0, j + 1, _, hj, e => absurd (show a ∈ l from (show l.getD j 0 = a from e.symm) ▸ getD_mem (l := l) (Nat.lt_of_succ_lt_succ hj)) (List.nodup_cons.mp h).1
  | a :: l, h, i + 1, 0, hi, _, e => absurd (show a ∈ l from (show l.getD i 0 = a from e) ▸ getD_mem (l := l) (Nat.lt_of_succ_lt_succ hi)) (List.nodup_cons.mp h).1
  | a :: l, h, i + 1, j + 1, hi, hj, e => congrArg (· + 1) (nd_getD (l := l) (List.nodup_cons.mp h).2 (Nat.lt_of_succ_lt_succ hi) (Nat.lt_of_succ_lt_succ hj) e)
theorem nd_idx {l : List Nat} (n : Nat) (h : l.Nodup) (hn : l.length = n) : ∀ (is : List Nat), (∀ i ∈ is, i < n) → is.Nodup → (is.map fun i => l.getD i 0).Nodup
  | [], _, _ => List.nodup_nil
  | i :: is, hi, hd => by
    rw [List.map_cons, List.nodup_cons]
    rw [List.nodup_cons] at hd
    refine ⟨fun z => ?_, nd_idx n h hn is (fun j hj => hi j (.tail _ hj)) hd.2⟩
    obtain ⟨j, hj, e⟩ := List.mem_map.mp z
    have a := hi i (.head _)
    have b := hi j (.tail _ hj)
    exact hd.1 (nd_getD h (by omega) (by omega) e ▸ hj)
theorem sub_idx {α : Type} {l : List α} (is : List Nat) (p : α) (h : p ∈ is.filterMap fun i => l[i]?) : p ∈ l := by
  obtain ⟨i, _, e⟩ := List.mem_filterMap.mp h
  exact List.mem_of_getElem? e
theorem SD.up {d : Nat} {l : List Nat} (h : SD d l) : SD (d + 1) l := ⟨fun k hk => Nat.lt_succ_of_lt (h.lt k hk), h.nd⟩
theorem mI {α : Type} {l : List α} {x : α} (i : Nat) (h : l[i]? = some x) : x ∈ l := List.mem_of_getElem? h
theorem subOf {α : Type} {l l' : List α} {p : α} (h : l ⊆ l') (hp : p ∈ l) : p ∈ l' := h hp
theorem int_nat {P : Int → Prop} {x : Int} (n : Nat) (h0 : 0 ≤ x) (h : x < (n : Int)) (k : ∀ i < n, P (i : Int)) : P x := by
  obtain ⟨i, rfl⟩ := Int.eq_ofNat_of_zero_le h0
  exact k i (Int.ofNat_lt.mp h)
theorem subC {α : Type} {bs : List α} {a : α} {as : List α} (h : a ∈ bs) (hs : as ⊆ bs) : a :: as ⊆ bs := List.cons_subset.mpr ⟨h, hs⟩
theorem subA {α : Type} {bs as cs : List α} (h : as ⊆ bs) (hs : cs ⊆ bs) : as ++ cs ⊆ bs := List.append_subset.mpr ⟨h, hs⟩
theorem snoc3 {α : Type} {l m t r : List α} {x : α} (hx : x ∈ r) (h : l ++ (m ++ t) ⊆ r) : l ++ (m ++ (t ++ [x])) ⊆ r := fun p hp => by
  simp only [List.mem_append, List.mem_singleton] at hp
  rcases hp with h1 | h1 | h1 | h1
  · exact h (List.mem_append_left _ h1)
  · exact h (List.mem_append_right _ (List.mem_append_left _ h1))
  · exact h (List.mem_append_right _ (List.mem_append_right _ h1))
  · exact h1 ▸ hx
theorem hideG {W : Prop} (h : ∀ G : Prop, (W → G) → G) : W := h W id
theorem allN {α : Type} {P : α → Prop} : ∀ p ∈ ([] : List α), P p := fun _ h => nomatch h
theorem allC {α : Type} {P : α → Prop} {a : α} {l : List α} (h : P a) (hl : ∀ p ∈ l, P p) : ∀ p ∈ a :: l, P p := List.forall_mem_cons.mpr ⟨h, hl⟩
theorem allA {α : Type} {P : α → Prop} {l m : List α} (h : ∀ p ∈ l, P p) (hl : ∀ p ∈ m, P p) : ∀ p ∈ l ++ m, P p := fun p hp => (List.mem_append.mp hp).elim (h p) (hl p)
def NeE (a : Addr) : List Addr → Prop → Prop
  | [], G => G
  | b :: l, G => a ≠ b → NeE a l G
def NdE : List Addr → Prop → Prop
  | [], G => G
  | a :: l, G => NeE a l (NdE l G)
def OfE (r : List (Addr × Obj)) : List Addr → Prop → Prop
  | [], G => G
  | a :: l, G => (∀ p ∈ r, p.1 ≠ a) → OfE r l G
theorem neE {a : Addr} {l : List Addr} {G : Prop} (h : a ∉ l) (k : NeE a l G) : G := by
  induction l with
  | nil => exact k
  | cons b l ih => exact ih (fun z => h (.tail _ z)) (k fun e => h (e ▸ .head _))
theorem ndE {l : List Addr} {G : Prop} (n : l.Nodup) (k : NdE l G) : G := by
  induction l with
  | nil => exact k
  | cons a l ih => exact ih (List.nodup_cons.mp n).2 (neE (List.nodup_cons.mp n).1 k)
theorem ofE {r : List (Addr × Obj)} {l : List Addr} {G : Prop} (h : ∀ a ∈ l, ∀ p ∈ r, p.1 ≠ a) (k : OfE r l G) : G := by
  induction l with
  | nil => exact k
  | cons a l ih => exact ih (fun b hb => h b (.tail _ hb)) (k (h a (.head _)))
theorem nd_swap {l m : List Addr} {x a : Addr} (n : (l ++ x :: m).Nodup) (h : a ∉ l ++ x :: m) : (l ++ a :: m).Nodup :=
  (List.perm_middle.nodup_iff).mpr (List.nodup_cons.mpr ⟨fun z => h ((List.mem_append.mp z).elim (List.mem_append_left _) fun z => List.mem_append_right _ (.tail _ z)), (List.nodup_cons.mp (List.perm_middle.nodup_iff.mp n)).2⟩)
theorem nin_swap {l m : List Addr} {x a y : Addr} (h : y ∉ l ++ x :: m) (e : y ≠ a) : y ∉ l ++ a :: m := fun z =>
  (List.mem_append.mp z).elim (fun z => h (List.mem_append_left _ z)) fun z => (List.mem_cons.mp z).elim e fun z => h (List.mem_append_right _ (.tail _ z))
theorem nin_map {l : List (Addr × Obj)} {x : Addr} (h : ∀ p ∈ l, p.1 ≠ x) : x ∉ l.map (·.1) := fun z => by
  obtain ⟨y, hy, e⟩ := List.mem_map.mp z
  exact h y hy e
theorem map_nin {l : List (Addr × Obj)} {x : Addr} (h : x ∉ l.map (·.1)) : ∀ p ∈ l, p.1 ≠ x := fun _ hp e => h (e ▸ List.mem_map_of_mem hp)
theorem nd_add {l l' : List Addr} {a : Addr} (p : l'.Perm (l ++ [a])) (n : l.Nodup) (h : a ∉ l) : l'.Nodup :=
  (p.trans (List.perm_append_comm (l₁ := l) (l₂ := [a]))).nodup_iff.mpr (List.nodup_cons.mpr ⟨h, n⟩)
theorem nin_add {l l' : List Addr} {a x : Addr} (p : l'.Perm (l ++ [a])) (h : x ∉ l) (e : a ≠ x) : x ∉ l' := fun z =>
  (List.mem_append.mp (p.mem_iff.mp z)).elim h fun z => e (List.mem_singleton.mp z).symm
end
end
local macro_rules | `(tactic| k_lt $h:ident) => `(tactic| (k_extra "k_lt0"; (replace $h := Mine.sd_cons $h (by k_extra "nd9")); (try dsimp only [List.map] at $h:ident)))
local macro_rules | `(tactic| k_lt2 $h:ident) => `(tactic| (k_extra "k_lt0"; replace $h := Mine.SD.two (by with_reducible assumption) $h))
noncomputable section
section
section
theorem wtDict1 : True := by
  w_top off
  trivial
theorem vaCons {p : Int × Value} {kvs : List (Int × Value)} {k : Int} : valueAt (p :: kvs) k = if p.1 = k then some p.2 else valueAt kvs k := by
  unfold valueAt
  by_cases h : p.1 = k <;> simp [List.find?_cons, h]
theorem vaMap (kvs : List (Int × Value)) (k k' : Int) (v : Value) : valueAt (kvs.map fun kv => if kv.1 = k then (kv.1, v) else kv) k' = if k' = k then (if (valueAt kvs k).isSome then some v else none) else valueAt kvs k' := by
  induction kvs with
  | nil => simp [valueAt]
  | cons p r ih =>
    rw [List.map_cons, vaCons, ih, vaCons, vaCons]
    by_cases h1 : p.1 = k
    · simp only [if_pos h1]
      by_cases h2 : k' = k
      · subst h2; simp [h1]
      · have : ¬ p.1 = k' := fun e => h2 (e.symm.trans h1)
        simp [h2, this]
    · simp only [if_neg h1]
      by_cases h2 : k' = k
      · subst h2; simp [h1]
      · simp [h2]
theorem vaApp (kvs : List (Int × Value)) (k k' : Int) (v : Value) : valueAt (kvs ++ [(k, v)]) k' = (valueAt kvs k').or (if k' = k then some v else none) := by
  induction kvs with
  | nil => simp only [List.nil_append]; rw [vaCons]; by_cases h : k = k' <;> simp [h, valueAt, eq_comm]
  | cons p r ih =>
    rw [List.cons_append, vaCons, ih, vaCons]
    by_cases h : p.1 = k' <;> simp [h]
theorem vaStored (kvs : List (Int × Value)) (k k' : Int) (v : Value) : valueAt (stored kvs k v) k' = if k' = k then some v else valueAt kvs k' := by
  unfold stored
  have e := valueAt_isSome_eq_any kvs k
  split
  · rename_i h
    rw [vaMap]
    have : (valueAt kvs k).isSome = true := e.trans h
    simp [this]
  · rename_i h
    rw [vaApp]
    have : (valueAt kvs k).isSome = false := e.trans (Bool.eq_false_iff.mpr h)
    by_cases h2 : k' = k
    · subst h2
      rw [Option.isSome_eq_false_iff, Option.isNone_iff_eq_none] at this
      simp [this]
    · simp [h2]
theorem vaWithout (kvs : List (Int × Value)) (k k' : Int) : valueAt (without kvs k) k' = if k' = k then none else valueAt kvs k' := by
  unfold without
  induction kvs with
  | nil => simp [valueAt]
  | cons p r ih =>
    rw [List.filter_cons, vaCons]
    by_cases h : p.1 = k
    · simp only [h, ne_eq, not_true_eq_false, decide_false, Bool.false_eq_true, if_false]
      rw [ih]
      by_cases h2 : k' = k
      · simp [h2]
      · have : ¬ k = k' := fun e => h2 e.symm
        simp [h2, this]
    · simp only [ne_eq, h, not_false_eq_true, decide_true, if_true]
      rw [vaCons, ih]
      by_cases h2 : k' = k
      · subst h2; simp [h]
      · simp [h2]
def KOK (kvs : List (Int × Value)) : Prop := ∀ p ∈ kvs, 0 ≤ p.1 ∧ p.1 < 9
theorem KOK.stored {kvs : List (Int × Value)} (x : KOK kvs) {k : Int} {v : Value} (h0 : 0 ≤ k) (h9 : k < 9) : KOK (stored kvs k v) := by
  intro p hp
  unfold PySem.stored at hp
  split at hp
  · obtain ⟨q, hq, rfl⟩ := List.mem_map.mp hp
    split
    · exact x q hq
    · exact x q hq
  · rcases List.mem_append.mp hp with q | q
    · exact x p q
    · rw [List.mem_singleton.mp q]; exact ⟨h0, h9⟩
theorem KOK.without {kvs : List (Int × Value)} (x : KOK kvs) {k : Int} : KOK (without kvs k) := fun p hp => x p (List.mem_filter.mp hp).1
theorem small_len : ∀ (n : Nat) (l : List Int), l.Nodup → (∀ x ∈ l, 0 ≤ x ∧ x < n) → l.length ≤ n
  | 0, [], _, _ => Nat.le_refl _
  | 0, x :: r, _, h => by have := h x (.head _); omega
  | n + 1, l, d, h => by
    have a : (l.erase (n : Int)).length ≤ n := small_len n (l.erase (n : Int)) (d.erase _) fun x hx => by
      have h1 := h x (List.mem_of_mem_erase hx)
      have h2 : x ≠ (n : Int) := fun e => by
        rw [e] at hx
        exact (List.Nodup.not_mem_erase d) hx
      omega
    have b := List.length_erase (a := (n : Int)) (l := l)
    split at b <;> omega
theorem KOK.len {prog : Program} {w : World} {o : Obj} {kvs : List (Int × Value)} (x : KOK kvs) (d : o.IsDictOf (PySem.intKind prog w) kvs) : kvs.length ≤ 9 := by
  have n := keysNodup_of_isDictOf d
  have := small_len 9 (kvs.map (·.1)) n fun k hk => by
    obtain ⟨p, hp, rfl⟩ := List.mem_map.mp hk
    exact x p hp
  simpa using this
theorem KOK.line {prog : Program} {w : World} {o : Obj} {kvs : List (Int × Value)} (x : KOK kvs) (d : o.IsDictOf (PySem.intKind prog w) kvs) : kvs.length ≤ sizeLine := Nat.le_trans (x.len d) (by decide)
inductive OptI : Option Value → Option Int → Prop
  | none : OptI none none
  | some (i : Int) (t : Tok) : OptI (some (.int i t)) (some i)
inductive OptB : Option Value → Bool → Prop
  | none : OptB none false
  | some : OptB (some (.bool true)) true
theorem OptI.isSome {v : Option Value} {i : Option Int} (h : OptI v i) : v.isSome = i.isSome := by cases h <;> rfl
theorem OptB.isSome {v : Option Value} {b : Bool} (h : OptB v b) : v.isSome = b := by cases h <;> rfl
def setAt {α : Type} (f : Int → α) (k : Int) (v : α) : Int → α := fun x => if x = k then v else f x
def IntsD (kvs : List (Int × Value)) (f : Int → Option Int) : Prop := KOK kvs ∧ ∀ k, OptI (valueAt kvs k) (f k)
def BoolsD (kvs : List (Int × Value)) (f : Int → Bool) : Prop := KOK kvs ∧ ∀ k, OptB (valueAt kvs k) (f k)
theorem IntsD.put {kvs : List (Int × Value)} {f : Int → Option Int} (x : IntsD kvs f) {k i : Int} {t : Tok} (h0 : 0 ≤ k) (h9 : k < 9) : IntsD (stored kvs k (.int i t)) (setAt f k (some i)) := by
  refine ⟨x.1.stored h0 h9, fun k' => ?_⟩
  rw [vaStored]
  unfold setAt
  split
  · exact .some _ _
  · exact x.2 k'
theorem BoolsD.put {kvs : List (Int × Value)} {f : Int → Bool} (x : BoolsD kvs f) {k : Int} (h0 : 0 ≤ k) (h9 : k < 9) : BoolsD (stored kvs k (.bool true)) (setAt f k true) := by
  refine ⟨x.1.stored h0 h9, fun k' => ?_⟩
  rw [vaStored]
  unfold setAt
  split
  · exact .some
  · exact x.2 k'
inductive OptC : Option Value → Option (Option Int) → Prop
  | none : OptC none none
  | nil : OptC (some .none) (some none)
  | some (i : Int) (t : Tok) : OptC (some (.int i t)) (some (some i))
theorem OptC.isSome {v : Option Value} {i : Option (Option Int)} (h : OptC v i) : v.isSome = i.isSome := by cases h <;> rfl
inductive IsOpt : Value → Option Int → Prop
  | none : IsOpt .none none
  | some (i : Int) (t : Tok) : IsOpt (.int i t) (some i)
def CellsD (kvs : List (Int × Value)) (f : Int → Option (Option Int)) : Prop := KOK kvs ∧ ∀ k, OptC (valueAt kvs k) (f k)
theorem CellsD.put {kvs : List (Int × Value)} {f : Int → Option (Option Int)} (x : CellsD kvs f) {k : Int} {v : Value} {c : Option Int} (hv : IsOpt v c) (h0 : 0 ≤ k) (h9 : k < 9) : CellsD (stored kvs k v) (setAt f k (some c)) := by
  refine ⟨x.1.stored h0 h9, fun k' => ?_⟩
  rw [vaStored]
  unfold setAt
  split
  · cases hv
    · exact .nil
    · exact .some _ _
  · exact x.2 k'
theorem CellsD.drop {kvs : List (Int × Value)} {f : Int → Option (Option Int)} (x : CellsD kvs f) {k : Int} : CellsD (without kvs k) (setAt f k none) := by
  refine ⟨x.1.without, fun k' => ?_⟩
  rw [vaWithout]
  unfold setAt
  split
  · exact .none
  · exact x.2 k'
section
variable {prog : Program} {w : World} {A : Around} {E : Value → Shared → Prop} {s : Shared} {h₀ : Heap} {L d : Addr} {m : Str → Option Value} {news : List (Addr × Obj)} {o : Obj} {kvs : List (Int × Value)} {k : Int} {t : Tok} {Q : Value → Shared → Prop}
theorem in_I {f : Int → Option Int} (N : News h₀ L s.heap news) (hp : (d, o) ∈ news) (hd : o.IsDictOf (PySem.intKind prog w) kvs) (lo : (d == sysModules) = false) (x : IntsD kvs f) (h : Q (.bool (f k).isSome) { s with toks := s.toks + 1 }) :
    wpAny (model prog w) A (compareOp .In (.int k t) (.ref d)) Q E s := kda_in N hp hd lo (intKind_is _ _ _ _) _ (x.2 k).isSome h
theorem in_C {f : Int → Option (Option Int)} (N : News h₀ L s.heap news) (hp : (d, o) ∈ news) (hd : o.IsDictOf (PySem.intKind prog w) kvs) (lo : (d == sysModules) = false) (x : CellsD kvs f) (h : Q (.bool (f k).isSome) { s with toks := s.toks + 1 }) :
    wpAny (model prog w) A (compareOp .In (.int k t) (.ref d)) Q E s := kda_in N hp hd lo (intKind_is _ _ _ _) _ (x.2 k).isSome h
theorem in_B {f : Int → Bool} (N : News h₀ L s.heap news) (hp : (d, o) ∈ news) (hd : o.IsDictOf (PySem.intKind prog w) kvs) (lo : (d == sysModules) = false) (x : BoolsD kvs f) (h : Q (.bool (f k)) { s with toks := s.toks + 1 }) :
    wpAny (model prog w) A (compareOp .In (.int k t) (.ref d)) Q E s := kda_in N hp hd lo (intKind_is _ _ _ _) _ (x.2 k).isSome h
theorem notin_C {f : Int → Option (Option Int)} (N : News h₀ L s.heap news) (hp : (d, o) ∈ news) (hd : o.IsDictOf (PySem.intKind prog w) kvs) (lo : (d == sysModules) = false) (x : CellsD kvs f) (h : Q (.bool (!(f k).isSome)) { s with toks := s.toks + 1 }) :
    wpAny (model prog w) A (compareOp .NotIn (.int k t) (.ref d)) Q E s := kdg_notin N hp hd lo (intKind_is _ _ _ _) _ (x.2 k).isSome h
theorem get_I {f : Int → Option Int} {u : Value} (N : News h₀ L s.heap news) (hp : (d, o) ∈ news) (hd : o.IsDictOf (PySem.intKind prog w) kvs) (lo : (d == sysModules) = false) (x : IntsD kvs f)
    (h : (∀ i t', f k = some i → Q (.int i t') { s with toks := s.toks + 1 }) ∧ (f k = none → Q u { s with toks := s.toks + 1 })) : wpAny (model prog w) A (call (.builtin "dict.get") [.ref d, .int k t, u]) Q E s := by
  refine kdg_get2 N hp hd lo (intKind_is _ _ _ _) _ rfl ?_
  have z := x.2 k
  generalize valueAt kvs k = v at z
  generalize e : f k = c at z
  cases z with
  | none => exact h.2 e
  | some i t' => exact h.1 i t' e
theorem get_B {f : Int → Bool} {b : Bool} (N : News h₀ L s.heap news) (hp : (d, o) ∈ news) (hd : o.IsDictOf (PySem.intKind prog w) kvs) (lo : (d == sysModules) = false) (x : BoolsD kvs f)
    (h : Q (.bool (f k || b)) { s with toks := s.toks + 1 }) : wpAny (model prog w) A (call (.builtin "dict.get") [.ref d, .int k t, .bool b]) Q E s := by
  refine kdg_get2 N hp hd lo (intKind_is _ _ _ _) _ rfl ?_
  have z := x.2 k
  generalize valueAt kvs k = v at z
  generalize f k = c at z h
  cases z with
  | none => exact h
  | some => exact h
theorem item_C {f : Int → Option (Option Int)} {value slice : PySem.Expr} (N : News h₀ L s.heap news) (hp : (d, o) ∈ news) (hd : o.IsDictOf (PySem.intKind prog w) kvs) (x : CellsD kvs f) (hs : (f k).isSome = true)
    (h : ∀ v c, f k = some c → IsOpt v c → Q v { s with toks := s.toks + 1 })
    (hs' : subscripted slice false (.ref d) (.int k t) = operate [.ref d, .int k t] (getItem (.ref d) (.int k t)) ) :
    wpAny (model prog w) A (subscriptTail value slice (.ref d) (.int k t)) Q E s := by
  have z := x.2 k
  generalize hv : valueAt kvs k = v at z
  generalize e : f k = c at z
  cases z with
  | none => rw [e] at hs; cases hs
  | nil => exact kdt_tail N hp hd (kdt_getItem N hp hd (intKind_is _ _ _ _) hv (h _ _ e .none)) hs'
  | some i t' => exact kdt_tail N hp hd (kdt_getItem N hp hd (intKind_is _ _ _ _) hv (h _ _ e (.some _ _))) hs'
end
end
end
section
theorem wtBase : True := by
  w_top off
  trivial
/-- what a def does to the part C of the heap: all else stays -/
def Spec (prog : Program) (w : World) (p : Program) (loose : List Str) (mean : ExcName → Option Value) (mg mb : Str → Option Value) (n : Nat) (f : Addr) (args : List Value) (C : Comp) (C' : Value → Comp) : Prop :=
  ∀ {dp un : Nat} {gd : Option (List Code)} {cn : Str} {cs : Scope} {a : Addr} {ccd : Value} {cl : List (Str × Addr)} {outer : List Env} {A₀ : Around} {base h₀ : Heap} {L : Addr} {m : Str → Option Value} {s : Shared} {Q E : Value → Shared → Prop} {fp : List Addr},
    Below A₀ base outer h₀ → (hd.heap_1 w.params).In h₀ → Top p loose mean mg mb h₀ → cs.kind = .function → dp + n < 1000 → un + 20 * n < 9000 → InC C fp h₀ L s.heap m →
    (∀ v h' tk' fp', InC (C' v) fp' h₀ L h' m → Step fp s.heap fp' h' → Q v { s with heap := h', toks := tk' }) →
    wpAny (model prog w) (ktrTop dp un gd cn cs L a ccd cl outer) (call (.ref f) args) Q E s
theorem Spec.lift {prog : Program} {w : World} {p : Program} {loose : List Str} {mean : ExcName → Option Value} {mg mb : Str → Option Value} {n : Nat} {f : Addr} {args : List Value} {C W : Comp} {C' W' : Value → Comp}
    (S : Spec prog w p loose mean mg mb n f args C C') (c : Ctxt C C' W W') : Spec prog w p loose mean mg mb n f args W W' := by
  intro dp un gd cn cs a ccd cl outer A₀ base h₀ L m s Q E fp B X T hke hdp hu I hk
  obtain ⟨f1, J, k⟩ := c I
  refine S B X T hke hdp hu J fun v h' tk' fp' J' st => ?_
  obtain ⟨fp2, I2, st2⟩ := k v fp' h' J' st
  exact hk v h' tk' fp2 I2 st2
structure VarSt where
  dflt : Int → Option Int
  own : Int → Option (Option Int)
  auto : Int → Bool
  kept : Int → Bool
def VarSt.put (x : VarSt) (k i : Int) : VarSt := if (x.own k).isSome || x.auto k then { x with own := setAt x.own k (some (some i)) } else { x with dflt := setAt x.dflt k (some i) }
def VarSt.val (x : VarSt) (k : Int) : Option Int := match x.own k with | some c => c | none => x.dflt k
def VarSt.makeAuto (x : VarSt) (k i : Int) : VarSt := { x with dflt := if (x.dflt k).isSome then x.dflt else setAt x.dflt k (some i), auto := setAt x.auto k true }
def VarSt.makeKept (x : VarSt) (k : Int) : VarSt := { x with kept := setAt x.kept k true }
def VarSt.makeLocal (x : VarSt) (k : Int) : VarSt := if (x.own k).isSome then x else { x with own := setAt x.own k (some (x.dflt k)) }
def VarSt.kill (x : VarSt) : VarSt := { x with own := fun k => if x.kept k then x.own k else none }
structure VarsL (prog : Program) (w : World) (V H Vd df au pe Hd va : Addr) (oV oH odf oau ope ova : Obj) (kdf kau kpe kva : List (Int × Value)) (x : VarSt) : Prop where
  nd : [V, Vd, df, au, pe, H, Hd, va].Nodup
  iV : ∃ k1 k2 k3 t1 t2 t3 n, oV = dictOf [⟨k1, .str "defaults" t1, .ref df⟩, ⟨k2, .str "automatic" t2, .ref au⟩, ⟨k3, .str "permanent" t3, .ref pe⟩] n
  iH : ∃ k1 t1 n, oH = dictOf [⟨k1, .str "values" t1, .ref va⟩] n
  ddf : odf.IsDictOf (PySem.intKind prog w) kdf
  dau : oau.IsDictOf (PySem.intKind prog w) kau
  dpe : ope.IsDictOf (PySem.intKind prog w) kpe
  dva : ova.IsDictOf (PySem.intKind prog w) kva
  ldf : (df == sysModules) = false
  lau : (au == sysModules) = false
  lpe : (pe == sysModules) = false
  lva : (va == sysModules) = false
  xdf : IntsD kdf x.dflt
  xau : BoolsD kau x.auto
  xpe : BoolsD kpe x.kept
  xva : CellsD kva x.own
def Holds (h : Heap) (l : List (Addr × Obj)) : Prop := ∀ p ∈ l, h.get? p.1 = some p.2
def Vars (prog : Program) (w : World) (V H : Addr) (x : VarSt) : Comp := fun fp h => ∃ Vd df au pe Hd va oV oH odf oau ope ova kdf kau kpe kva, fp = [V, Vd, df, au, pe, H, Hd, va] ∧ VarsL prog w V H Vd df au pe Hd va oV oH odf oau ope ova kdf kau kpe kva x ∧
  Holds h [(V, instObj 344 Vd), (Vd, oV), (df, odf), (au, oau), (pe, ope), (H, instObj 398 Hd), (Hd, oH), (va, ova)]
theorem nd8e {a b c d e f g h : Addr} {G9 : Prop} (n : [a, b, c, d, e, f, g, h].Nodup) (k9 : a ≠ b → a ≠ c → a ≠ d → a ≠ e → a ≠ f → a ≠ g → a ≠ h → b ≠ c → b ≠ d → b ≠ e → b ≠ f → b ≠ g → b ≠ h → c ≠ d → c ≠ e → c ≠ f → c ≠ g → c ≠ h → d ≠ e → d ≠ f → d ≠ g → d ≠ h → e ≠ f → e ≠ g → e ≠ h → f ≠ g → f ≠ h → g ≠ h → G9) : G9 :=
  ndE n k9
theorem vars_good {prog : Program} {w : World} {V H : Addr} {x : VarSt} : Good (Vars prog w V H x) where
  nodup := by
    rintro fp h ⟨Vd, df, au, pe, Hd, va, oV, oH, odf, oau, ope, ova, kdf, kau, kpe, kva, rfl, l, k⟩
    exact l.nd
  alive := by
    rintro fp h ⟨Vd, df, au, pe, Hd, va, oV, oH, odf, oau, ope, ova, kdf, kau, kpe, kva, rfl, l, k⟩ a ha
    have : a ∈ ([(V, instObj 344 Vd), (Vd, oV), (df, odf), (au, oau), (pe, ope), (H, instObj 398 Hd), (Hd, oH), (va, ova)] : List (Addr × Obj)).map (·.1) := ha
    obtain ⟨p, hp, rfl⟩ := List.mem_map.mp this
    exact ⟨_, k p hp⟩
  keeps := by
    rintro fp h h' ⟨Vd, df, au, pe, Hd, va, oV, oH, odf, oau, ope, ova, kdf, kau, kpe, kva, rfl, l, k⟩ z
    refine ⟨Vd, df, au, pe, Hd, va, oV, oH, odf, oau, ope, ova, kdf, kau, kpe, kva, rfl, l, fun p hp => z p.1 p.2 ?_ (k p hp)⟩
    have : p.1 ∈ ([(V, instObj 344 Vd), (Vd, oV), (df, odf), (au, oau), (pe, ope), (H, instObj 398 Hd), (Hd, oH), (va, ova)] : List (Addr × Obj)).map (·.1) := List.mem_map_of_mem hp
    exact this
theorem vars_mk {prog : Program} {w : World} {V H Vd df au pe Hd va : Addr} {odf oau ope ova : Obj} {kdf kau kpe kva : List (Int × Value)} {x : VarSt} {g h' : Heap} {L' : Addr} {k1 k2 k3 k4 : Int} {t1 t2 t3 t4 : Tok} {n1 n2 : Nat}
    (N : News g L' h' [(V, instObj 344 Vd), (Vd, dictOf [⟨k1, .str "defaults" t1, .ref df⟩, ⟨k2, .str "automatic" t2, .ref au⟩, ⟨k3, .str "permanent" t3, .ref pe⟩] n1), (df, odf), (au, oau), (pe, ope), (H, instObj 398 Hd), (Hd, dictOf [⟨k4, .str "values" t4, .ref va⟩] n2), (va, ova)])
    (nd : [V, Vd, df, au, pe, H, Hd, va].Nodup) (ddf : odf.IsDictOf (PySem.intKind prog w) kdf) (dau : oau.IsDictOf (PySem.intKind prog w) kau) (dpe : ope.IsDictOf (PySem.intKind prog w) kpe) (dva : ova.IsDictOf (PySem.intKind prog w) kva)
    (ldf : (df == sysModules) = false) (lau : (au == sysModules) = false) (lpe : (pe == sysModules) = false) (lva : (va == sysModules) = false)
    (xdf : IntsD kdf x.dflt) (xau : BoolsD kau x.auto) (xpe : BoolsD kpe x.kept) (xva : CellsD kva x.own) : Vars prog w V H x [V, Vd, df, au, pe, H, Hd, va] h' :=
  ⟨Vd, df, au, pe, Hd, va, _, _, odf, oau, ope, ova, kdf, kau, kpe, kva, rfl, ⟨nd, ⟨_, _, _, _, _, _, _, rfl⟩, ⟨_, _, _, rfl⟩, ddf, dau, dpe, dva, ldf, lau, lpe, lva, xdf, xau, xpe, xva⟩, fun p hp => (N p hp).1⟩
/-- a contract over the part of the variables, the part opened -/
theorem vars_spec {prog : Program} {w : World} {p : Program} {loose : List Str} {mean : ExcName → Option Value} {mg mb : Str → Option Value} {n : Nat} {f : Addr} {args : List Value} {V H : Addr} {x : VarSt} {C' : Value → Comp}
    (k : ∀ (dp un : Nat) (gd : Option (List Code)) (cn : Str) (cs : Scope) (a : Addr) (ccd : Value) (cl : List (Str × Addr)) (outer : List Env) (A₀ : Around) (base h₀ : Heap) (L : Addr) (m : Str → Option Value) (s : Shared) (Q E : Value → Shared → Prop) (Vd df au pe Hd va : Addr) (odf oau ope ova : Obj) (kdf kau kpe kva : List (Int × Value)) (k1 k2 k3 : Int) (t1 t2 t3 : Tok) (n1 : Nat) (k4 : Int) (t4 : Tok) (n2 : Nat),
      Below A₀ base outer h₀ → (hd.heap_1 w.params).In h₀ → Top p loose mean mg mb h₀ → cs.kind = .function → dp + n < 1000 → un + 20 * n < 9000 → InC (Vars prog w V H x) [V, Vd, df, au, pe, H, Hd, va] h₀ L s.heap m →
      (∀ v h' tk' fp', InC (C' v) fp' h₀ L h' m → Step [V, Vd, df, au, pe, H, Hd, va] s.heap fp' h' → Q v { s with heap := h', toks := tk' }) → [V, Vd, df, au, pe, H, Hd, va].Nodup → odf.IsDictOf (PySem.intKind prog w) kdf → oau.IsDictOf (PySem.intKind prog w) kau → ope.IsDictOf (PySem.intKind prog w) kpe → ova.IsDictOf (PySem.intKind prog w) kva →
      (df == sysModules) = false → (au == sysModules) = false → (pe == sysModules) = false → (va == sysModules) = false → IntsD kdf x.dflt → BoolsD kau x.auto → BoolsD kpe x.kept → CellsD kva x.own → News h₀ L s.heap [(V, instObj 344 Vd), (Vd, dictOf [⟨k1, .str "defaults" t1, .ref df⟩, ⟨k2, .str "automatic" t2, .ref au⟩, ⟨k3, .str "permanent" t3, .ref pe⟩] n1), (df, odf), (au, oau), (pe, ope), (H, instObj 398 Hd), (Hd, dictOf [⟨k4, .str "values" t4, .ref va⟩] n2), (va, ova)] →
      V ≠ Vd → V ≠ df → V ≠ au → V ≠ pe → V ≠ H → V ≠ Hd → V ≠ va → Vd ≠ df → Vd ≠ au → Vd ≠ pe → Vd ≠ H → Vd ≠ Hd → Vd ≠ va → df ≠ au → df ≠ pe → df ≠ H → df ≠ Hd → df ≠ va → au ≠ pe → au ≠ H → au ≠ Hd → au ≠ va → pe ≠ H → pe ≠ Hd → pe ≠ va → H ≠ Hd → H ≠ va → Hd ≠ va → wpAny (model prog w) (ktrTop dp un gd cn cs L a ccd cl outer) (call (.ref f) args) Q E s) :
    Spec prog w p loose mean mg mb n f args (Vars prog w V H x) C' := by
  intro dp un gd cn cs a ccd cl outer A₀ base h₀ L m s Q E fp B X T hke hdp hu I hk
  refine hideG fun GG hGG => ?_
  obtain ⟨Vd, df, au, pe, Hd, va, oV, oH, odf, oau, ope, ova, kdf, kau, kpe, kva, rfl, l, hh⟩ := I.C
  obtain ⟨nd, ⟨k1, k2, k3, t1, t2, t3, n1, rfl⟩, ⟨k4, t4, n2, rfl⟩, ddf, dau, dpe, dva, ldf, lau, lpe, lva, xdf, xau, xpe, xva⟩ := l
  exact hGG (ndE nd (k dp un gd cn cs a ccd cl outer A₀ base h₀ L m s Q E Vd df au pe Hd va odf oau ope ova kdf kau kpe kva k1 k2 k3 t1 t2 t3 n1 k4 t4 n2 B X T hke hdp hu I hk nd ddf dau dpe dva ldf lau lpe lva xdf xau xpe xva (I.news fun p hp => ⟨List.mem_map_of_mem (f := Prod.fst) hp, hh p hp⟩)))
end
section
section
theorem wtLoop : True := by
  w_top off
  trivial
section
variable {prog : Program} {w : World} {A : Around} {s : Shared} {env : Env} {E : Value → Shared → Prop}
def LedStart (s : Shared) (g : Heap) (L l : Addr) (J0 : (Str → Option Value) → List (Addr × Obj) → Prop) (x : Value) (s₁ : Shared) : Prop := x = .ref l ∧ ∃ h tk m nw, s₁ = { s with heap := h, toks := tk } ∧ Fr g L h m ∧ News g L h nw ∧ J0 m nw
def LedEnd (s : Shared) (g : Heap) (L it : Addr) (oi : Obj) (Jn : (Str → Option Value) → List (Addr × Obj) → Prop) (s₃ : Shared) : Prop := ∃ h tk m nw', s₃ = { s with heap := h, toks := tk } ∧ Fr g L h m ∧ News g L h ((it, oi) :: nw') ∧ (∀ p ∈ nw', p.1 ≠ it) ∧ Jn m nw'
theorem LedEnd.mk {s : Shared} {g h : Heap} {L it : Addr} {oi : Obj} {Jn : (Str → Option Value) → List (Addr × Obj) → Prop} {m : Str → Option Value} {nw' : List (Addr × Obj)} {tk : Nat} (F : Fr g L h m) (N : News g L h ((it, oi) :: nw')) (off : ∀ p ∈ nw', p.1 ≠ it) (j : Jn m nw') : LedEnd s g L it oi Jn { s with heap := h, toks := tk } := ⟨h, tk, m, nw', rfl, F, N, off, j⟩
theorem off_map {it : Addr} {nw nw' : List (Addr × Obj)} (off : ∀ p ∈ nw, p.1 ≠ it) (e : nw'.map (·.1) = nw.map (·.1)) : ∀ p ∈ nw', p.1 ≠ it := fun p hp => by
  have h1 : p.1 ∈ nw'.map (·.1) := List.mem_map_of_mem hp
  rw [e] at h1
  obtain ⟨q, hq, e2⟩ := List.mem_map.mp h1
  rw [← e2]; exact off q hq
def LedSt (s : Shared) (g : Heap) (L it : Addr) (Sh : Nat → Obj → Prop) (J : Nat → (Str → Option Value) → List (Addr × Obj) → Prop) (i : Nat) (s' : Shared) : Prop := ∃ h tk m nw oi, s' = { s with heap := h, toks := tk } ∧ Fr g L h m ∧ News g L h ((it, oi) :: nw) ∧ (∀ p ∈ nw, p.1 ≠ it) ∧ Sh i oi ∧ J i m nw
theorem LedEnd.st {g : Heap} {L it : Addr} {oi : Obj} {Sh : Nat → Obj → Prop} {J : Nat → (Str → Option Value) → List (Addr × Obj) → Prop} {n i : Nat} {s₃ : Shared} (hi : i < n) (sh : Sh (i + 1) oi) (y : LedEnd s g L it oi (J (i + 1)) s₃) : ∃ k, k < n - i ∧ ∃ i, i ≤ n ∧ k = n - i ∧ LedSt s g L it Sh J i s₃ :=
  ⟨n - (i + 1), Nat.sub_succ_lt_self n i hi, i + 1, hi, rfl, let ⟨h2, tk2, m2, nw2, e, F2, N2, off2, j2⟩ := y; ⟨h2, tk2, m2, nw2, oi, e, F2, N2, off2, sh, j2⟩⟩
theorem ext_drop {g h h' : Heap} {L it : Addr} {m : Str → Option Value} {oi : Obj} {nw : List (Addr × Obj)} (F : Fr g L h m) (N : News g L h ((it, oi) :: nw)) (off : ∀ p ∈ nw, p.1 ≠ it) (eb : Heap.ExtBut it h h') : Fr g L h' m ∧ News g L h' nw := by
  have hI := N _ (.head _)
  obtain ⟨⟨oL, es, ep, hL, r⟩, kp, ab⟩ := F
  refine ⟨⟨⟨oL, es, ep, eb _ _ (Ne.symm hI.2.1) hL, r⟩, fun b o e => eb b o (fun q => ?_) (kp b o e), ab⟩, fun p hp => ⟨eb _ _ (off p hp) (N p (.tail _ hp)).1, (N p (.tail _ hp)).2⟩⟩
  rw [q, hI.2.2] at e; cases e
theorem same_led {g h h' : Heap} {L it : Addr} {oi oj : Obj} {nw : List (Addr × Obj)} (N : News g L h ((it, oi) :: nw)) (off : ∀ p ∈ nw, p.1 ≠ it) (e : h'.get? it = some oj) (sb : Heap.SameBut it h h') : News g L h' ((it, oj) :: nw)
  | _, .head _ => ⟨e, (N _ (.head _)).2⟩
  | p, .tail _ hp => ⟨(sb.2 _ (off p hp)).trans (N p (.tail _ hp)).1, (N p (.tail _ hp)).2⟩
/-- a loop by an invariant over an iterator that is told by what its next does -/
theorem led_G {target : Expr} {body : List Stmt} {Q : Flow → Shared → Prop} {g h₁ : Heap} {L it : Addr} {n tk₁ : Nat} {o₁ : Obj} {m₀ : Str → Option Value} {nw₀ : List (Addr × Obj)} (Sh : Nat → Obj → Prop) (V : Nat → Value → Prop) (J : Nat → (Str → Option Value) → List (Addr × Obj) → Prop)
    (F0 : Fr g L h₁ m₀) (N0 : News g L h₁ ((it, o₁) :: nw₀)) (off0 : ∀ p ∈ nw₀, p.1 ≠ it) (sh0 : Sh 0 o₁) (j0 : J 0 m₀ nw₀)
    (item : ∀ i h tk m nw oi (Q' : Option Value → Shared → Prop) (E' : Value → Shared → Prop), i < n → J i m nw → Fr g L h m → News g L h ((it, oi) :: nw) → Sh i oi →
      (∀ h' tk' v oj, V i v → Sh (i + 1) oj → h'.get? it = some oj → Heap.SameBut it h h' → Q' (some v) { s with heap := h', toks := tk' }) → wpAny (model prog w) A (pyNext (.ref it)) Q' E' { s with heap := h, toks := tk })
    (last : ∀ h tk m nw oi (Q' : Option Value → Shared → Prop) (E' : Value → Shared → Prop), J n m nw → Fr g L h m → News g L h ((it, oi) :: nw) → Sh n oi →
      (∀ h', Heap.ExtBut it h h' → Q' none { s with heap := h', toks := tk }) → wpAny (model prog w) A (pyNext (.ref it)) Q' E' { s with heap := h, toks := tk })
    (go : ∀ i oi v h tk (Q' : Unit → Shared → Prop) (E' : Value → Shared → Prop), Sh i oi → h.get? it = some oi → Q' () { s with heap := h, toks := tk } → wpAny (model prog w) A (letOwnedTupleGo target (.ref it) v) Q' E' { s with heap := h, toks := tk })
    (turn : ∀ i v oi h tk m nw, i < n → V i v → J i m nw → (∀ p ∈ nw, p.1 ≠ it) → Fr g L h m → News g L h ((it, oi) :: nw) →
      wpAny (model prog w) A (assign target env v) (fun _ s₂ => wpAny (model prog w) A (execs body env) (fun f s₃ => match f with
        | .next | .cont => LedEnd s g L it oi (J (i + 1)) s₃
        | .brk => Q .next s₃
        | .ret v => Q (.ret v) s₃) (fun _ _ => False) s₂) (fun _ _ => False) { s with heap := h, toks := tk })
    (done : ∀ h tk m nw, J n m nw → Fr g L h m → News g L h nw → Q .next { s with heap := h, toks := tk }) :
    codeAny (model prog w) A (.forLoop target (.ref it) body [] env) (fun r s' => match r with | .ok f => Q f s' | .error e => cameBackBy (model prog w) A env E e s') { s with heap := h₁, toks := tk₁ } := by
  refine codeAny_forLoop_any (fun k s' => ∃ i, i ≤ n ∧ k = n - i ∧ LedSt s g L it Sh J i s') (fun k s' hI => ?_) _ ⟨0, Nat.zero_le _, rfl, _, _, m₀, nw₀, o₁, rfl, F0, N0, off0, sh0, j0⟩
  refine hideG fun GG hGG => ?_
  obtain ⟨i, hi, rfl, h, tk, m, nw, oi, rfl, F, N, off, sh, j⟩ := hI
  refine hGG ?_; clear hGG GG
  rcases Nat.lt_or_eq_of_le hi with hlt | rfl
  · refine item i h tk m nw oi _ _ hlt j F N sh fun h' tk' v oj hv sh' e sb => go (i + 1) oj v h' tk' _ _ sh' e ?_
    refine wpAny_mono (turn i v oj h' tk' m nw hlt hv j off (F.change sb (N _ (.head _)).2.1 (N _ (.head _)).2.2) (same_led N off e sb)) (fun _ s₂ z => wpAny_mono z (fun f s₃ y => ?_) fun _ _ z => z.elim) fun _ _ z => z.elim
    cases f with
    | next => exact y.st hlt sh'
    | cont => exact y.st hlt sh'
    | brk => exact y
    | ret v => exact y
  · exact last h tk m nw oi _ _ j F N sh fun h' eb => wpAny_execs_nil (done h' tk m nw j (ext_drop F N off eb).1 (ext_drop F N off eb).2)
theorem go_pure {target : Expr} {it : Addr} {s' : Shared} {v : Value} {Q' : Unit → Shared → Prop} {E' : Value → Shared → Prop} (ht : letOwnedTupleGo target (.ref it) v = pure ()) (h : Q' () s') : wpAny (model prog w) A (letOwnedTupleGo target (.ref it) v) Q' E' s' := by
  rw [ht]; exact wpAny_pure h
theorem go_list {target : Expr} {I l : Addr} {i : Nat} {v : Value} {Q' : Unit → Shared → Prop} {E' : Value → Shared → Prop} {s' : Shared} (hit : s'.heap.IsListIter I l i) (h : Q' () s') :
    wpAny (model prog w) A (letOwnedTupleGo target (.ref I) v) Q' E' s' := by
  obtain ⟨o, ho, hc, hd⟩ := hit
  unfold letOwnedTupleGo
  cases target <;> first
    | exact wpAny_pure h
    | (cases v <;> first
        | exact wpAny_pure h
        | (refine wpAny_bind (wpAny_load ho ?_)
           rw [hc, hd]
           exact wpAny_pure h))
/-- a loop over a list, behind the evaluation of what is iterated -/
theorem Iter_ledT {target : Expr} {body : List Stmt} {Q : Flow → Shared → Prop} {g : Heap} {L : Addr} (hh : A.handled = none) {l : Addr} {items : Array Value} {m₀ : Str → Option Value} {nw₀ : List (Addr × Obj)} (F0 : Fr g L s.heap m₀) (N0 : News g L s.heap nw₀) (J : Nat → (Str → Option Value) → List (Addr × Obj) → Prop)
    (src : ∀ i m nw h, J i m nw → Fr g L h m → News g L h nw → h.IsList l items) (j0 : J 0 m₀ nw₀)
    (turn : ∀ i v it oi h tk m nw, items[i]? = some v → J i m nw → (∀ p ∈ nw, p.1 ≠ it) → Fr g L h m → News g L h ((it, oi) :: nw) →
      wpAny (model prog w) A (assign target env v) (fun _ s₂ => wpAny (model prog w) A (execs body env) (fun f s₃ => match f with
        | .next | .cont => LedEnd s g L it oi (J (i + 1)) s₃
        | .brk => Q .next s₃
        | .ret v => Q (.ret v) s₃) (fun _ _ => False) s₂) (fun _ _ => False) { s with heap := h, toks := tk })
    (done : ∀ h tk m nw, J items.size m nw → Fr g L h m → News g L h nw → Q .next { s with heap := h, toks := tk }) :
    wpAny (model prog w) A (pyIter (.ref l)) (fun it s₂ => codeAny (model prog w) A (.forLoop target it body [] env) (fun r s' => match r with | .ok f => Q f s' | .error e => cameBackBy (model prog w) A env E e s') s₂) E s :=
  wpAny_pyIter_list (src _ _ _ _ j0 F0 N0) (led_G (s := s) (n := items.size) (fun i o => o.cls = .type "list_iterator" ∧ o.data = .fields #[.ref l, .int i 0]) (fun i v => items[i]? = some v) J (F0.push _) (N0.push F0 _) (fun p hp => Nat.ne_of_lt (Heap.lt_size (N0 p hp).1)) ⟨rfl, rfl⟩ j0
    (fun i h tk m nw oi Q' E' hi j F N sh k => wpAny_pyNext_list_item ⟨oi, (N _ (.head _)).1, sh⟩ (src _ _ _ _ j F fun p hp => N p (.tail _ hp)) (Array.getElem?_eq_getElem hi) fun h' ⟨oj, e, sh'⟩ sb => k h' tk _ oj (Array.getElem?_eq_getElem hi) sh' e sb)
    (fun h tk m nw oi Q' E' j F N sh k => wpAny_pyNext_list_end hh ⟨oi, (N _ (.head _)).1, sh⟩ (src _ _ _ _ j F fun p hp => N p (.tail _ hp)) (Array.getElem?_eq_none (Nat.le_refl _)) k)
    (fun i oi v h tk Q' E' sh e k => go_list (s' := { s with heap := h, toks := tk }) ⟨oi, e, sh⟩ k)
    (fun i v oi h tk m nw _ => turn i v _ oi h tk m nw) done)
/-- the ledger's own loop: the list lies in the ledger or in the base, the invariant speaks of the frame's names and of the rest of the ledger -/
theorem For_led {target iter : Expr} {body : List Stmt} {pos : Pos} {Q : Flow → Shared → Prop} {g : Heap} {L : Addr} (hh : A.handled = none) (J : Nat → (Str → Option Value) → List (Addr × Obj) → Prop) (l : Addr) (items : Array Value)
    (src : ∀ i m nw h, J i m nw → Fr g L h m → News g L h nw → h.IsList l items)
    (h : wpAny (model prog w) A (eval iter env) (LedStart s g L l (J 0)) E s)
    (turn : ∀ i v it oi h tk m nw, items[i]? = some v → J i m nw → (∀ p ∈ nw, p.1 ≠ it) → Fr g L h m → News g L h ((it, oi) :: nw) →
      wpAny (model prog w) A (assign target env v) (fun _ s₂ => wpAny (model prog w) A (execs body env) (fun f s₃ => match f with
        | .next | .cont => LedEnd s g L it oi (J (i + 1)) s₃
        | .brk => Q .next s₃
        | .ret v => Q (.ret v) s₃) (fun _ _ => False) s₂) (fun _ _ => False) { s with heap := h, toks := tk })
    (done : ∀ h tk m nw, J items.size m nw → Fr g L h m → News g L h nw → Q .next { s with heap := h, toks := tk })
    (hs : ∀ x, foldedSetIterable iter env x = pure x) :
    wpAny (model prog w) A (exec (.For target iter body [] pos) env) Q E s := by
  refine wpAny_For (wpAny_mono h (fun x s₁ z => ?_) fun _ _ z => z) hs
  refine hideG fun GG hGG => ?_
  obtain ⟨rfl, h1, tk, m, nw, rfl, F, N, j0⟩ := z
  refine hGG ?_; clear hGG GG
  exact Iter_ledT (s := { s with heap := h1, toks := tk }) hh F N J src j0 turn done
end
section
variable {prog : Program} {w : World} {A : Around} {E : Value → Shared → Prop} {s : Shared} {h₀ : Heap} {L d : Addr} {m : Str → Option Value} {news : List (Addr × Obj)} {g : Obj → List (Addr × Obj)} {o : Obj} {kvs : List (Int × Value)} {k : Int} {t : Tok} {Q : Value → Shared → Prop}
theorem ints_of {vs : List Value} : ∀ {ns : List Int}, vs.length = ns.length → (∀ (j : Nat) v, vs[j]? = some v → ∃ k t, ns[j]? = some k ∧ v = Value.int k t) → IntsAre vs ns := by
  induction vs with
  | nil => intro ns e _; cases ns with
    | nil => exact .nil
    | cons _ _ => simp at e
  | cons v r ih => intro ns e h; cases ns with
    | nil => simp at e
    | cons n ms =>
      obtain ⟨k, t, e1, e2⟩ := h 0 v rfl
      simp only [List.getElem?_cons_zero, Option.some.injEq] at e1
      subst e1 e2
      exact .cons _ _ (ih (by simpa using e) fun j u hu => by simpa using h (j + 1) u (by simpa using hu))
theorem isInt_shape {k : Int} {v : Value} (h : (PySem.intKind prog w).is k v = true) : ∃ t, v = .int k t := by
  have h' : Value.isInt k v = true := h
  cases v <;> simp [Value.isInt] at h'
  rename_i i t
  exact ⟨t, by rw [h']⟩
theorem list_D (hh : A.handled = none) (F : Fr h₀ L s.heap m) (N : News h₀ L s.heap news) (hp : (d, o) ∈ news) (hd : o.IsDictOf (PySem.intKind prog w) kvs) (lo : (d == sysModules) = false) (hn : KOK kvs)
    (h : ∀ (B : Addr) c h' tk vs, Fr h₀ L h' m → News h₀ L h' ((B, listOf vs.toArray c) :: news) → (∀ q ∈ news, q.1 < B) → IntsAre vs (kvs.map (·.1)) → (kvs.map (·.1)).length < 64 → vs.toArray.size ≤ sizeLine → Q (.ref B) { s with heap := h', toks := tk }) :
    wpAny (model prog w) A (call (.type "list") [.ref d]) Q E s := by
  obtain ⟨ep, hat⟩ := (kda_dict N hp hd).dictAt
  refine kdl_N (kdl_dict (knd := PySem.intKind prog w) (kvs := kvs) (ep := ep) lo) hh F N hat (hn.line hd) fun B c h' tk vs F' N' l1 hl hv => ?_
  have z := hn.len hd
  refine h B c h' tk vs F' N' l1 (ints_of (by simpa using hl) fun j u hu => ?_) (by rw [List.length_map]; omega) (by rw [List.size_toArray, hl, sizeLine_eq]; omega)
  refine hideG fun GG hGG => ?_
  obtain ⟨k, x, hx, hk⟩ := hv j u hu
  obtain ⟨t, rfl⟩ := isInt_shape hk
  refine hGG ?_; clear hGG GG
  exact ⟨k, t, by simp [hx], rfl⟩
theorem sorted_L {l : Addr} {vs : List Value} {ns : List Int} {c : Nat} (F : Fr h₀ L s.heap m) (N : News h₀ L s.heap news) (hm : (l, listOf vs.toArray c) ∈ news) (hi : IntsAre vs ns) (h64 : ns.length < 64)
    (h : ∀ D vs' ns' c' h', Fr h₀ L h' m → News h₀ L h' ((D, listOf vs'.toArray c') :: news) → (∀ q ∈ news, q.1 < D) → IntsAre vs' ns' → ns'.Perm ns → ns'.length < 64 → vs'.toArray.size ≤ sizeLine → Q (.ref D) { s with heap := h' }) :
    wpAny (model prog w) A (call (.builtin "sorted") [.ref l]) Q E s :=
  sorted_N F N ⟨_, (N _ hm).1, rfl, _, rfl⟩ hi (by have := hi.length; omega) fun h' vs' ns' e F' N' a1 a2 _ => h _ vs' ns' e h' F' N' (fun p hp => Nat.lt_succ_of_lt (Heap.lt_size (N p hp).1)) a1 a2 (by rw [a2.length_eq]; exact h64) (by have e1 := a1.length; have e2 := a2.length_eq; rw [List.size_toArray, sizeLine_eq]; omega)
theorem pop_C (F : Fr h₀ L s.heap m) (N : News h₀ L s.heap news) (U : UpdF d o news g) (hd : o.IsDictOf (PySem.intKind prog w) kvs) (hn : KOK kvs) (hs : (valueAt kvs k).isSome = true)
    (h : ∀ h' o' v, Fr h₀ L h' m → News h₀ L h' (g o') → o'.IsDictOf (PySem.intKind prog w) (without kvs k) → Q v { s with heap := h', toks := s.toks + 1 }) :
    wpAny (model prog w) A (call (.builtin "dict.pop") [.ref d, .int k t]) Q E s := by
  refine hideG fun GG hGG => ?_
  obtain ⟨pre, post, rfl, hg, a, b⟩ := U.split
  have hm := N (d, o) (List.mem_append_right _ (.head _))
  have hD : s.heap.DictOf (PySem.intKind prog w) d kvs := Heap.dictOf_iff.mpr ⟨o, hm.1, hd⟩
  obtain ⟨v, hv⟩ := Option.isSome_iff_exists.mp hs
  refine hGG ?_; clear hGG GG
  refine call_meetsIn PySem.F.slot_dict_pop hD.typeIs PySem.F.entry_dict_pop (PySem.F.args_dict_pop_2 _ _) (meets_dict_pop_there (PySem.intKind prog w) d (intKind_is _ _ _ _) [] (.inl rfl) rfl) ⟨kvs, v, hD, hn.line hd, hv, fun h' hmm hs => ?_⟩
  obtain ⟨o', ho', hd'⟩ := Heap.dictOf_iff.mp hmm
  exact h h' o' v (F.change hs hm.2.1 hm.2.2) (hg o' ▸ N.setIn a b hs ho') hd'
end
def FltP (_p : Int → Bool) : Prop := True
section
variable {prog : Program} {w : World} {A : Around} {h₀ : Heap} {L : Addr} {m : Str → Option Value} {env : Env} {ct elt : Expr} {x : Str} {scope : Scope} {cl : List (Str × Addr)} {s : Shared} {S : List (Addr × Obj) → Prop} {Fin : List Value → List (Addr × Obj) → Prop} {news : List (Addr × Obj)}
def FltT (h₀ : Heap) (L : Addr) (m : Str → Option Value) (s₁ : Shared) (led : List (Addr × Obj)) (pk b : Bool) (s₂ : Shared) : Prop := b = pk ∧ ∃ h' tk, s₂ = { s₁ with heap := h', toks := tk } ∧ Fr h₀ L h' m ∧ News h₀ L h' led
theorem flt_t {led led' : List (Addr × Obj)} {s₁ : Shared} {h' : Heap} {tk : Nat} {pk b : Bool} (F : Fr h₀ L h' m) (N : News h₀ L h' led') (hs : ∀ p ∈ led, p ∈ led') (e : b = pk) : FltT h₀ L m s₁ led pk b { s₁ with heap := h', toks := tk } := ⟨e, h', tk, rfl, F, fun p hp => N p (hs p hp)⟩
theorem flt_rest {p : Int → Bool} (_ : FltP p) {vs : List Value} {ns : List Int} {px : Pos} (hi : IntsAre vs ns) (hS : S news) (hkind : scope.kind = .function) (hxl : scope.names.lookup x = some .local) (hxd : (x == ("__debug__" : Str)) = false)
    (turn : ∀ k t I oI C oC D m₂ ys h tk (E' : Value → Shared → Prop), k ∈ ns → LCg.NsObj oC m₂ → m₂ x = some (.int k t) → Fr h₀ L h m → News h₀ L h ((I, oI) :: (C, oC) :: (D, LCg.lst ys) :: news) → LCg.Off3 I C D news → ((@Ne Nat I C) ∧ (@Ne Nat I D) ∧ (@Ne Nat C D)) →
      wpAny (model prog w) A (isTrue ct (compEnvC scope cl C env) (eval ct (compEnvC scope cl C env))) (FltT h₀ L m { s with heap := h, toks := tk } ((I, oI) :: (C, oC) :: (D, LCg.lst ys) :: news) (p k)) E' { s with heap := h, toks := tk })
    (fin : ∀ ys, IntsAre ys (ns.filter p) → Fin ys news) : LCt.CompRestT prog w A h₀ L m env ct (.Name x px) x scope cl s S (fun i v => vs.toArray[i]? = some v) Fin vs.toArray.size 0 [] news := by
  have hlen : vs.toArray.size = ns.length := by rw [List.size_toArray]; exact hi.length
  rw [hlen]
  have key : ∀ (j i : Nat) (ys : List Value), i + j = ns.length → IntsAre ys ((ns.take i).filter p) → LCt.CompRestT prog w A h₀ L m env ct (.Name x px) x scope cl s S (fun i v => vs.toArray[i]? = some v) Fin j i ys news := by
    intro j
    induction j with
    | zero =>
      intro i ys hij hy
      have e : i = ns.length := by omega
      subst e
      rw [List.take_length] at hy
      exact LCt.CompRestT.zero (fin ys hy)
    | succ j ih =>
      intro i ys hij hy
      refine LCt.CompRestT.succ ?_
      intro v I oI C oC D m₂ h tk E' hv hC hx F N off ne
      obtain ⟨k, t, hv', hk⟩ := IntsAre.at hi i v (by simpa using hv)
      rw [hv'] at hx
      have hs : ∀ b, p k = b → (ns.take (i + 1)).filter p = (ns.take i).filter p ++ (if b then [k] else []) := by
        intro b hb
        rw [List.take_add_one, hk]
        cases b <;> simp [List.filter_append, hb]
      refine wpAny_mono (turn k t I oI C oC D m₂ ys h tk E' (List.mem_of_getElem? hk) hC hx F N off ne) (fun b s₂ hq => ?_) fun _ _ e => e
      refine hideG fun GG hGG => ?_
      obtain ⟨hb, h', tk', rfl, F', N'⟩ := hq
      refine hGG ?_; clear hGG GG
      cases b with
      | true =>
        simp only [if_true]
        refine wpAny_Name (wpAny_loadName_local (by simp [compEnvC, relabel, hkind]) (lookup_relabel_local hxl) (hC.ns (N' (C, oC) (.tail _ (.head _))).1) hx ?_) hxd
        refine ⟨h', tk', news, rfl, F', N', off, hS, ?_⟩
        refine ih (i + 1) _ (by omega) ?_
        rw [hs true hb.symm]
        exact IntsAre.append hy (.cons k t .nil)
      | false =>
        simp only [Bool.false_eq_true, if_false]
        refine ⟨h', tk', news, rfl, F', N', off, hS, ih (i + 1) _ (by omega) ?_⟩
        rw [hs false hb.symm]
        simpa using hy
  exact key ns.length 0 [] (by omega) (by simp only [List.take_zero, List.filter_nil]; exact .nil)
end
end
section
theorem popm_D {prog : Program} {w : World} {A : Around} {E : Value → Shared → Prop} {s : Shared} {h₀ : Heap} {L d : Addr} {news : List (Addr × Obj)} {o : Obj} {kvs : List (Int × Value)} {pl : Sem Bool} {Q : Value × List Value → Shared → Prop} (N : News h₀ L s.heap news) (hp : (d, o) ∈ news) (hd : o.IsDictOf (PySem.intKind prog w) kvs) (h : Q (.builtin "dict.pop", [.ref d]) s) : wpAny (model prog w) A (getMethod (.ref d) "pop" pl) Q E s :=
  have hD := kda_dict N hp hd
  getMethod_builtin hD.typeIs PySem.F.plainAttrs_dict PySem.F.slot_dict_pop PySem.F.type_dict_pop hD.mapOf.noDict h
end
section
def cut (own : Int → Option (Option Int)) (l : List Int) : Int → Option (Option Int) := fun k => if k ∈ l then none else own k
theorem cut_nil {own : Int → Option (Option Int)} : cut own [] = own := by funext k; simp [cut]
theorem cut_succ {own : Int → Option (Option Int)} {l : List Int} {i : Nat} {k : Int} (h : l[i]? = some k) : cut own (l.take (i + 1)) = setAt (cut own (l.take i)) k none := by
  funext y
  unfold cut setAt
  rw [List.take_add_one, h]
  by_cases e : y = k
  · simp [e]
  · simp [e]
theorem mem_keys {kvs : List (Int × Value)} {k : Int} : k ∈ kvs.map (·.1) ↔ (valueAt kvs k).isSome = true := by
  rw [valueAt_isSome_eq_any, List.any_eq_true]
  constructor
  · intro h
    obtain ⟨p, hp, rfl⟩ := List.mem_map.mp h
    exact ⟨p, hp, by simp⟩
  · rintro ⟨p, hp, e⟩
    exact List.mem_map.mpr ⟨p, hp, of_decide_eq_true e⟩
theorem cut_kill {own : Int → Option (Option Int)} {kept : Int → Bool} {kvs : List (Int × Value)} {ns : List Int} (p : ns.Perm (kvs.map (·.1))) (x : CellsD kvs own) :
    cut own (ns.filter fun k => !kept k) = fun k => if kept k then own k else none := by
  funext k
  unfold cut
  by_cases e : kept k = true
  · simp [e]
  · have e' : kept k = false := by simpa using e
    simp only [List.mem_filter, e', Bool.not_false, and_true, Bool.false_eq_true, if_false]
    split
    · rfl
    · rename_i h
      rw [p.mem_iff, mem_keys, (x.2 k).isSome] at h
      simpa using h
theorem cut_there {own : Int → Option (Option Int)} {kept : Int → Bool} {prog : Program} {w : World} {o : Obj} {kvs kvs' : List (Int × Value)} {ns : List Int} {i : Nat} {k : Int} (p : ns.Perm (kvs.map (·.1))) (d : o.IsDictOf (PySem.intKind prog w) kvs) (x : CellsD kvs own)
    (x' : CellsD kvs' (cut own ((ns.filter fun k => !kept k).take i))) (h : (ns.filter fun k => !kept k)[i]? = some k) : (valueAt kvs' k).isSome = true := by
  have nd : (ns.filter fun k => !kept k).Nodup := (p.nodup_iff.mpr (keysNodup_of_isDictOf d)).filter _
  have h1 : k ∈ kvs.map (·.1) := p.mem_iff.mp (List.mem_filter.mp (List.mem_of_getElem? h)).1
  rw [(x'.2 k).isSome]
  unfold cut
  rw [if_neg, ← (x.2 k).isSome]
  · exact mem_keys.mp h1
  · intro hm
    obtain ⟨j, hj, e⟩ := List.getElem_of_mem hm
    rw [List.length_take] at hj
    rw [List.getElem_take] at e
    obtain ⟨hi, e2⟩ := List.getElem?_eq_some_iff.mp h
    exact (List.pairwise_iff_getElem.mp nd) j i (by omega) hi (by omega) (e.trans e2.symm)
end
end
section
section
theorem wtHBase : True := by
  w_top off
  trivial
structure RowR where
  k : Int
  r : Addr
  d : Addr
  il : Addr
  dd : Addr
  h1 : Int
  h2 : Int
  t1 : Tok
  t2 : Tok
  c : Nat
  vs : List Value
  ns : List Int
  odd : Obj
def RowR.objs (q : RowR) : List (Addr × Obj) := [(q.r, instObj 213 q.d), (q.d, dictOf [⟨q.h1, .str "items" q.t1, .ref q.il⟩, ⟨q.h2, .str "depths" q.t2, .ref q.dd⟩] 2), (q.il, listOf q.vs.toArray q.c), (q.dd, q.odd)]
structure RowR.Ok (prog : Program) (w : World) (q : RowR) : Prop where
  iv : IntsAre q.vs q.ns
  dd : q.odd.IsDictOf (PySem.intKind prog w) []
  ld : (q.dd == sysModules) = false
def rowsKvs (RL : List RowR) : List (Int × Value) := RL.map fun q => (q.k, Value.ref q.r)
def rowsF (RL : List RowR) (k : Int) : Option (List Int) := (RL.find? fun q => decide (q.k = k)).map (·.ns)
structure HookL (prog : Program) (w : World) (X Xd rd : Addr) (oX ord : Obj) (RL : List RowR) (f : Int → Option (List Int)) : Prop where
  nd : ((X :: Xd :: rd :: (RL.flatMap RowR.objs).map (·.1))).Nodup
  iX : ∃ k1 t1 n, oX = dictOf [⟨k1, .str "rows" t1, .ref rd⟩] n
  lrd : (rd == sysModules) = false
  drd : ord.IsDictOf (PySem.intKind prog w) (rowsKvs RL)
  kok : KOK (rowsKvs RL)
  ok : ∀ q ∈ RL, q.Ok prog w
  fn : ∀ k, f k = rowsF RL k
def hookObjs (X Xd rd : Addr) (oX ord : Obj) (RL : List RowR) : List (Addr × Obj) := (X, instObj 248 Xd) :: (Xd, oX) :: (rd, ord) :: RL.flatMap RowR.objs
def Hook (prog : Program) (w : World) (X : Addr) (f : Int → Option (List Int)) : Comp := fun fp h => ∃ Xd rd oX ord RL, fp = (hookObjs X Xd rd oX ord RL).map (·.1) ∧ HookL prog w X Xd rd oX ord RL f ∧ Holds h (hookObjs X Xd rd oX ord RL)
theorem hook_good {prog : Program} {w : World} {X : Addr} {f : Int → Option (List Int)} : Good (Hook prog w X f) where
  nodup := by
    rintro fp h ⟨Xd, rd, oX, ord, RL, rfl, l, k⟩
    exact l.nd
  alive := by
    rintro fp h ⟨Xd, rd, oX, ord, RL, rfl, l, k⟩ a ha
    obtain ⟨p, hp, rfl⟩ := List.mem_map.mp ha
    exact ⟨_, k p hp⟩
  keeps := by
    rintro fp h h' ⟨Xd, rd, oX, ord, RL, rfl, l, k⟩ z
    exact ⟨Xd, rd, oX, ord, RL, rfl, l, fun p hp => z p.1 p.2 (List.mem_map_of_mem hp) (k p hp)⟩
theorem rows_some {RL : List RowR} {k : Int} {q : RowR} (h : RL.find? (fun q => decide (q.k = k)) = some q) : valueAt (rowsKvs RL) k = some (.ref q.r) := by
  unfold valueAt rowsKvs
  rw [List.find?_map]
  have : ((fun kv : Int × Value => decide (kv.1 = k)) ∘ fun q : RowR => (q.k, Value.ref q.r)) = fun q => decide (q.k = k) := rfl
  rw [this, h]; rfl
theorem rows_none {RL : List RowR} {k : Int} (h : RL.find? (fun q => decide (q.k = k)) = none) : valueAt (rowsKvs RL) k = none := by
  unfold valueAt rowsKvs
  rw [List.find?_map]
  have : ((fun kv : Int × Value => decide (kv.1 = k)) ∘ fun q : RowR => (q.k, Value.ref q.r)) = fun q => decide (q.k = k) := rfl
  rw [this, h]; rfl
theorem vaSame (kvs : List (Int × Value)) (k : Int) (v : Value) : valueAt (stored kvs k v) k = some v := by rw [vaStored, if_pos rfl]
theorem find_split {RL : List RowR} {k : Int} {q : RowR} (h : RL.find? (fun q => decide (q.k = k)) = some q) : ∃ A B, RL = A ++ q :: B ∧ q.k = k ∧ ∀ p ∈ A, p.k ≠ k := by
  obtain ⟨h1, A, B, e, h2⟩ := List.find?_eq_some_iff_append.mp h
  exact ⟨A, B, e, of_decide_eq_true h1, fun p hp e' => by have := h2 p hp; simp [e'] at this⟩
section
variable {prog : Program} {w : World} {A : Around} {E : Value → Shared → Prop} {s : Shared} {h₀ : Heap} {L d : Addr} {m : Str → Option Value} {news : List (Addr × Obj)} {o : Obj} {kvs : List (Int × Value)} {k : Int} {t : Tok} {Q : Value → Shared → Prop}
theorem led_list {l : Addr} {its : Array Value} {n : Nat} (N : News h₀ L s.heap news) (hm : (l, listOf its n) ∈ news) : s.heap.IsList l its := ⟨_, (N _ hm).1, rfl, _, rfl⟩
theorem base_list {l : Addr} {its : Array Value} {n : Nat} (F : Fr h₀ L s.heap m) (hm : h₀.get? l = some (listOf its n)) : s.heap.IsList l its := ⟨_, F.keep _ _ hm, rfl, _, rfl⟩
theorem get_V {v u : Value} (N : News h₀ L s.heap news) (hp : (d, o) ∈ news) (hd : o.IsDictOf (PySem.intKind prog w) kvs) (lo : (d == sysModules) = false) (hv : valueAt kvs k = some v)
    (h : Q v { s with toks := s.toks + 1 }) : wpAny (model prog w) A (call (.builtin "dict.get") [.ref d, .int k t, u]) Q E s := kdg_get2 N hp hd lo (intKind_is _ _ _ _) _ hv h
theorem get_N {u : Value} (N : News h₀ L s.heap news) (hp : (d, o) ∈ news) (hd : o.IsDictOf (PySem.intKind prog w) kvs) (lo : (d == sysModules) = false) (hv : valueAt kvs k = none)
    (h : Q u { s with toks := s.toks + 1 }) : wpAny (model prog w) A (call (.builtin "dict.get") [.ref d, .int k t, u]) Q E s := kdg_get2 N hp hd lo (intKind_is _ _ _ _) _ hv h
theorem item_V {v : Value} {value slice : PySem.Expr} (N : News h₀ L s.heap news) (hp : (d, o) ∈ news) (hd : o.IsDictOf (PySem.intKind prog w) kvs) (hv : valueAt kvs k = some v) (h : Q v { s with toks := s.toks + 1 })
    (hs' : subscripted slice false (.ref d) (.int k t) = operate [.ref d, .int k t] (getItem (.ref d) (.int k t)) ) :
    wpAny (model prog w) A (subscriptTail value slice (.ref d) (.int k t)) Q E s := kdt_tail N hp hd (kdt_getItem N hp hd (intKind_is _ _ _ _) hv h) hs'
theorem add_L {l b : Addr} {vs ws : List Value} {ns ms : List Int} (F : Fr h₀ L s.heap m) (N : News h₀ L s.heap news) (hl : s.heap.IsList l vs.toArray) (hb : s.heap.IsList b ws.toArray) (hi : IntsAre vs ns) (hj : IntsAre ws ms) (hsz : ns.length + ms.length ≤ sizeLine)
    (h : ∀ h' D, Fr h₀ L h' m → News h₀ L h' ((D, listOf (vs ++ ws).toArray 0) :: news) → (∀ q ∈ news, q.1 < D) → IntsAre (vs ++ ws) (ns ++ ms) → Q (.ref D) { s with heap := h' }) :
    wpAny (model prog w) A (binaryOp .Add (.ref l) (.ref b)) Q E s := add_lists_ints (hsz := hsz) F N hl hb hi hj fun h' F' N' => h h' _ F' N' fun p hp => Heap.lt_size (N p hp).1
/-- no key at all -/
theorem in_E {oE : Obj} (F : Fr h₀ L s.heap m) (hp : h₀.get? d = some oE) (hd : oE.IsDictOf (PySem.intKind prog w) []) (lo : (d == sysModules) = false) (h : Q (.bool false) { s with toks := s.toks + 1 }) :
    wpAny (model prog w) A (compareOp .In (.int k t) (.ref d)) Q E s := wpAny_in_of (intKind_is _ _ _ _) lo (Heap.dictOf_iff.mpr ⟨_, F.keep _ _ hp, hd⟩ : s.heap.DictOf _ _ _).mapOf h
theorem ne_E {a b : Addr} {oa ob : Obj} (N : News h₀ L s.heap news) (ha : (a, oa) ∈ news) (hb : (b, ob) ∈ news) (da : oa.IsDictOf (PySem.intKind prog w) []) (db : ob.IsDictOf (PySem.intKind prog w) []) (la : (a == sysModules) = false) (lb : (b == sysModules) = false)
    (hu : A.units < cLine) (h : Q (.bool false) s) : wpAny (model prog w) A (compareOp .NotEq (.ref a) (.ref b)) Q E s :=
  keq_ne la lb (kda_dict N ha da) (kda_dict N hb db) hu (fun _ => .nil) h
end
end
end
section
section
theorem wtHBase2 : True := by
  w_top off
  trivial
theorem swap_nodup {P Q Q' R : List Addr} {alive : Addr → Prop} (n : (P ++ (Q ++ R)).Nodup) (n' : Q'.Nodup) (h1 : ∀ a ∈ Q', a ∈ Q ∨ ¬ alive a) (h2 : ∀ a ∈ P, alive a) (h3 : ∀ a ∈ R, alive a) : (P ++ (Q' ++ R)).Nodup := by
  refine hideG fun GG hGG => ?_
  obtain ⟨nP, nQR, d1⟩ := List.nodup_append.mp n
  obtain ⟨_, nR, d2⟩ := List.nodup_append.mp nQR
  refine hGG ?_; clear hGG GG
  refine List.nodup_append.mpr ⟨nP, List.nodup_append.mpr ⟨n', nR, fun a ha b hb e => ?_⟩, fun a ha b hb e => ?_⟩
  · subst e
    rcases h1 a ha with q | q
    · exact d2 a q a hb rfl
    · exact q (h3 a hb)
  · subst e
    rcases List.mem_append.mp hb with z | z
    · rcases h1 a z with q | q
      · exact d1 a ha a (List.mem_append_left _ q) rfl
      · exact q (h2 a ha)
    · exact d1 a ha a (List.mem_append_right _ z) rfl
theorem rowsF_swap {A B : List RowR} {q q' : RowR} {f : Int → Option (List Int)} (hf : ∀ k, f k = rowsF (A ++ q :: B) k) (hA : ∀ p ∈ A, p.k ≠ q.k) (hk : q'.k = q.k) (k : Int) : setAt f q.k (some q'.ns) k = rowsF (A ++ q' :: B) k := by
  unfold setAt
  split
  · rename_i e
    subst e
    unfold rowsF
    rw [List.find?_append, List.find?_eq_none.mpr (fun p hp => by simpa using hA p hp)]
    simp [List.find?_cons, hk]
  · rename_i e
    rw [hf]
    unfold rowsF
    rw [List.find?_append, List.find?_append, List.find?_cons, List.find?_cons]
    have h1 : ¬ q.k = k := fun z => e z.symm
    have h2 : ¬ q'.k = k := fun z => e (z.symm.trans hk)
    simp [h1, h2]
theorem rowsKvs_swap {A B : List RowR} {q q' : RowR} (hk : q'.k = q.k) (hr : q'.r = q.r) : rowsKvs (A ++ q' :: B) = rowsKvs (A ++ q :: B) := by
  simp [rowsKvs, hk, hr]
theorem hookObjs_split {X Xd rd : Addr} {oX ord : Obj} {A B : List RowR} {q : RowR} : (hookObjs X Xd rd oX ord (A ++ q :: B)).map (·.1) = ((X :: Xd :: rd :: (A.flatMap RowR.objs).map (·.1))) ++ (q.objs.map (·.1) ++ (B.flatMap RowR.objs).map (·.1)) := by
  simp [hookObjs, List.flatMap_append, List.flatMap_cons]
theorem all_hook {P : Addr × Obj → Prop} {X Xd rd : Addr} {oX ord : Obj} {A B : List RowR} {q : RowR} (h1 : P (X, instObj 248 Xd)) (h2 : P (Xd, oX)) (h3 : P (rd, ord)) (hq : ∀ p ∈ q.objs, P p) (hA : ∀ p ∈ A.flatMap RowR.objs, P p) (hB : ∀ p ∈ B.flatMap RowR.objs, P p) : ∀ p ∈ hookObjs X Xd rd oX ord (A ++ q :: B), P p :=
  allC h1 (allC h2 (allC h3 (by rw [List.flatMap_append, List.flatMap_cons]; exact allA hA (allA hq hB))))
theorem mem_hook {X Xd rd : Addr} {oX ord : Obj} {A B : List RowR} {q : RowR} {p : Addr × Obj} : p ∈ hookObjs X Xd rd oX ord (A ++ q :: B) ↔ (p = (X, instObj 248 Xd) ∨ p = (Xd, oX) ∨ p = (rd, ord)) ∨ p ∈ q.objs ∨ p ∈ A.flatMap RowR.objs ∨ p ∈ B.flatMap RowR.objs :=
  ⟨fun hp => all_hook (P := fun p => (p = (X, instObj 248 Xd) ∨ p = (Xd, oX) ∨ p = (rd, ord)) ∨ p ∈ q.objs ∨ p ∈ A.flatMap RowR.objs ∨ p ∈ B.flatMap RowR.objs) (.inl (.inl rfl)) (.inl (.inr (.inl rfl))) (.inl (.inr (.inr rfl))) (fun _ h => .inr (.inl h)) (fun _ h => .inr (.inr (.inl h))) (fun _ h => .inr (.inr (.inr h))) p hp,
    fun h => h.elim (fun h => h.elim (fun e => e ▸ .head _) fun h => h.elim (fun e => e ▸ .tail _ (.head _)) fun e => e ▸ .tail _ (.tail _ (.head _))) fun h => .tail _ (.tail _ (.tail _ (by
      rw [List.flatMap_append, List.flatMap_cons]
      exact h.elim (fun z => List.mem_append_right _ (List.mem_append_left _ z)) fun h => h.elim (List.mem_append_left _) fun z => List.mem_append_right _ (List.mem_append_right _ z))))⟩
/-- a row is changed in its place -/
theorem hook_swap {prog : Program} {w : World} {X Xd rd : Addr} {oX ord : Obj} {A B : List RowR} {q q' : RowR} {f : Int → Option (List Int)} {h h' : Heap} (l : HookL prog w X Xd rd oX ord (A ++ q :: B) f) (hh : Holds h (hookObjs X Xd rd oX ord (A ++ q :: B)))
    (hA : ∀ p ∈ A, p.k ≠ q.k) (stay : ∀ b o, h.get? b = some o → b ∉ X :: Xd :: rd :: q.objs.map (·.1) → h'.get? b = some o) (hn : Holds h' ((X, instObj 248 Xd) :: (Xd, oX) :: (rd, ord) :: q'.objs)) (hk : q'.k = q.k) (hr : q'.r = q.r) (ok : q'.Ok prog w)
    (nd' : (q'.objs.map (·.1)).Nodup) (fresh : ∀ p ∈ q'.objs, p.1 ∈ q.objs.map (·.1) ∨ h.get? p.1 = none) :
    Hook prog w X (setAt f q.k (some q'.ns)) ((hookObjs X Xd rd oX ord (A ++ q' :: B)).map (·.1)) h' := by
  have nd := l.nd
  have nd2 : ((X :: Xd :: rd :: (A.flatMap RowR.objs).map (·.1)) ++ (q.objs.map (·.1) ++ (B.flatMap RowR.objs).map (·.1))).Nodup := by rw [← hookObjs_split (oX := oX) (ord := ord)]; exact nd
  have live : ∀ p ∈ hookObjs X Xd rd oX ord (A ++ q :: B), ∃ o, h.get? p.1 = some o := fun p hp => ⟨_, hh p hp⟩
  have ndN := swap_nodup (alive := fun a => ∃ o, h.get? a = some o) nd2 nd' (fun a ha => by
      obtain ⟨p, hp, rfl⟩ := List.mem_map.mp ha
      rcases fresh p hp with z | z
      · exact .inl z
      · exact .inr fun ⟨o, e⟩ => by rw [z] at e; cases e) (fun a ha => by
      rcases List.mem_cons.mp ha with rfl | ha
      · exact live _ (mem_hook.mpr (.inl (.inl rfl)))
      rcases List.mem_cons.mp ha with rfl | ha
      · exact live _ (mem_hook.mpr (.inl (.inr (.inl rfl))))
      rcases List.mem_cons.mp ha with rfl | ha
      · exact live _ (mem_hook.mpr (.inl (.inr (.inr rfl))))
      obtain ⟨p, hp, rfl⟩ := List.mem_map.mp ha
      exact live _ (mem_hook.mpr (.inr (.inr (.inl hp))))) (fun a ha => by
      obtain ⟨p, hp, rfl⟩ := List.mem_map.mp ha
      exact live _ (mem_hook.mpr (.inr (.inr (.inr hp)))))
  refine hideG fun GG hGG => ?_
  obtain ⟨n1, n2, n3⟩ := List.nodup_append.mp nd2
  obtain ⟨n4, n5, n6⟩ := List.nodup_append.mp n2
  refine hGG ?_; clear hGG GG
  have nhead : ∀ a ∈ (A.flatMap RowR.objs).map (·.1), a ≠ X ∧ a ≠ Xd ∧ a ≠ rd := fun a ha => by
    refine hideG fun GG hGG => ?_
    obtain ⟨m1, m2⟩ := List.nodup_cons.mp n1
    obtain ⟨m3, m4⟩ := List.nodup_cons.mp m2
    obtain ⟨m5, _⟩ := List.nodup_cons.mp m4
    refine hGG ?_; clear hGG GG
    exact ⟨fun e => m1 (e ▸ .tail _ (.tail _ ha)), fun e => m3 (e ▸ .tail _ ha), fun e => m5 (e ▸ ha)⟩
  refine ⟨Xd, rd, oX, ord, _, rfl, ⟨by rw [← hookObjs_split (oX := oX) (ord := ord)] at ndN; exact ndN, l.iX, l.lrd, by rw [rowsKvs_swap hk hr]; exact l.drd, by rw [rowsKvs_swap hk hr]; exact l.kok, fun p hp => ?_, fun k => rowsF_swap l.fn hA hk k⟩, fun p hp => ?_⟩
  · rcases List.mem_append.mp hp with z | z
    · exact l.ok p (List.mem_append_left _ z)
    · rcases List.mem_cons.mp z with rfl | z
      · exact ok
      · exact l.ok p (List.mem_append_right _ (.tail _ z))
  · rcases mem_hook.mp hp with (rfl | rfl | rfl) | z | z | z
    · exact hn _ (.head _)
    · exact hn _ (.tail _ (.head _))
    · exact hn _ (.tail _ (.tail _ (.head _)))
    · exact hn _ (.tail _ (.tail _ (.tail _ z)))
    · have za : p.1 ∈ (A.flatMap RowR.objs).map (·.1) := List.mem_map_of_mem z
      refine stay _ _ (hh p (mem_hook.mpr (.inr (.inr (.inl z))))) fun y => ?_
      obtain ⟨a1, a2, a3⟩ := nhead _ za
      rcases List.mem_cons.mp y with e | y
      · exact a1 e
      rcases List.mem_cons.mp y with e | y
      · exact a2 e
      rcases List.mem_cons.mp y with e | y
      · exact a3 e
      exact n3 p.1 (.tail _ (.tail _ (.tail _ za))) p.1 (List.mem_append_left _ y) rfl
    · have zb : p.1 ∈ (B.flatMap RowR.objs).map (·.1) := List.mem_map_of_mem z
      refine stay _ _ (hh p (mem_hook.mpr (.inr (.inr (.inr z))))) fun y => ?_
      rcases List.mem_cons.mp y with e | y
      · exact n3 X (.head _) p.1 (List.mem_append_right _ zb) e.symm
      rcases List.mem_cons.mp y with e | y
      · exact n3 Xd (.tail _ (.head _)) p.1 (List.mem_append_right _ zb) e.symm
      rcases List.mem_cons.mp y with e | y
      · exact n3 rd (.tail _ (.tail _ (.head _))) p.1 (List.mem_append_right _ zb) e.symm
      exact n6 p.1 y p.1 zb rfl
theorem rowsKvs_new {RL : List RowR} {q : RowR} (h : RL.find? (fun p => decide (p.k = q.k)) = none) : rowsKvs (RL ++ [q]) = stored (rowsKvs RL) q.k (.ref q.r) := by
  rw [stored_absent (rows_none h)]
  simp [rowsKvs]
/-- a row is laid anew -/
theorem hook_new {prog : Program} {w : World} {X Xd rd : Addr} {oX ord ord' : Obj} {RL : List RowR} {q : RowR} {f : Int → Option (List Int)} {h h' : Heap} (l : HookL prog w X Xd rd oX ord RL f) (hh : Holds h (hookObjs X Xd rd oX ord RL))
    (hf : RL.find? (fun p => decide (p.k = q.k)) = none) (stay : ∀ b o, h.get? b = some o → b ∉ [X, Xd, rd] → h'.get? b = some o) (hn : Holds h' ((X, instObj 248 Xd) :: (Xd, oX) :: (rd, ord') :: q.objs)) (ok : q.Ok prog w)
    (dd : ord'.IsDictOf (PySem.intKind prog w) (stored (rowsKvs RL) q.k (.ref q.r))) (h0 : 0 ≤ q.k) (h9 : q.k < 9)
    (nd' : (q.objs.map (·.1)).Nodup) (fresh : ∀ p ∈ q.objs, h.get? p.1 = none) :
    Hook prog w X (setAt f q.k (some q.ns)) ((hookObjs X Xd rd oX ord' (RL ++ [q])).map (·.1)) h' := by
  have nd := l.nd
  have nd2 : ((X :: Xd :: rd :: (RL.flatMap RowR.objs).map (·.1)) ++ (([] : List Addr) ++ ([] : List Addr))).Nodup := by simpa using nd
  have ndN := swap_nodup (alive := fun a => ∃ o, h.get? a = some o) nd2 nd' (fun a ha => by
      obtain ⟨p, hp, rfl⟩ := List.mem_map.mp ha
      exact .inr fun ⟨o, e⟩ => by rw [fresh p hp] at e; cases e) (fun a ha => by
      have ha' : a ∈ (hookObjs X Xd rd oX ord RL).map (·.1) := ha
      obtain ⟨p, hp, rfl⟩ := List.mem_map.mp ha'
      exact ⟨_, hh p hp⟩) (fun a ha => nomatch ha)
  refine ⟨Xd, rd, oX, ord', _, rfl, ⟨?_, l.iX, l.lrd, by rw [rowsKvs_new hf]; exact dd, by rw [rowsKvs_new hf]; exact l.kok.stored h0 h9, fun p hp => ?_, fun k => ?_⟩, fun p hp => ?_⟩
  · show ((hookObjs X Xd rd oX ord' (RL ++ q :: [])).map (·.1)).Nodup
    rw [hookObjs_split]; exact ndN
  · rcases List.mem_append.mp hp with z | z
    · exact l.ok p z
    · rw [List.mem_singleton.mp z]; exact ok
  · unfold setAt
    split
    · rename_i e
      subst e
      unfold rowsF
      rw [List.find?_append, hf]
      simp [List.find?_cons]
    · rename_i e
      rw [l.fn]
      unfold rowsF
      have h1 : ¬ q.k = k := fun z => e z.symm
      rw [List.find?_append]
      simp [List.find?_cons, h1]
  · simp only [hookObjs, List.flatMap_append, List.flatMap_cons, List.flatMap_nil, List.append_nil, List.mem_cons, List.mem_append] at hp
    rcases hp with rfl | rfl | rfl | z | z
    · exact hn _ (.head _)
    · exact hn _ (.tail _ (.head _))
    · exact hn _ (.tail _ (.tail _ (.head _)))
    · have za : p.1 ∈ (RL.flatMap RowR.objs).map (·.1) := List.mem_map_of_mem z
      refine stay _ _ (hh p (.tail _ (.tail _ (.tail _ z)))) fun y => ?_
      refine hideG fun GG hGG => ?_
      obtain ⟨m1, m2⟩ := List.nodup_cons.mp nd
      obtain ⟨m3, m4⟩ := List.nodup_cons.mp m2
      obtain ⟨m5, _⟩ := List.nodup_cons.mp m4
      refine hGG ?_; clear hGG GG
      rcases List.mem_cons.mp y with e | y
      · exact m1 (e ▸ .tail _ (.tail _ za))
      rcases List.mem_cons.mp y with e | y
      · exact m3 (e ▸ .tail _ za)
      · exact m5 (List.mem_singleton.mp y ▸ za)
    · exact hn _ (.tail _ (.tail _ (.tail _ z)))
end
section
def addA (ns : List Int) (i : Int) : List Int := if ns.any (· == i) then ns else i :: ns
theorem mem_head3 {X Xd rd : Addr} {oX ord : Obj} {RL : List RowR} {p : Addr × Obj} (h : p ∈ [(X, instObj 248 Xd), (Xd, oX), (rd, ord)]) : p ∈ hookObjs X Xd rd oX ord RL := by
  simp only [List.mem_cons, List.not_mem_nil, or_false] at h
  rcases h with rfl | rfl | rfl <;> simp [hookObjs]
theorem mem_head7 {X Xd rd : Addr} {oX ord : Obj} {A B : List RowR} {q : RowR} {p : Addr × Obj} (h : p ∈ (X, instObj 248 Xd) :: (Xd, oX) :: (rd, ord) :: q.objs) : p ∈ hookObjs X Xd rd oX ord (A ++ q :: B) := by
  rcases List.mem_cons.mp h with rfl | h
  · exact mem_hook.mpr (.inl (.inl rfl))
  rcases List.mem_cons.mp h with rfl | h
  · exact mem_hook.mpr (.inl (.inr (.inl rfl)))
  rcases List.mem_cons.mp h with rfl | h
  · exact mem_hook.mpr (.inl (.inr (.inr rfl)))
  · exact mem_hook.mpr (.inr (.inl h))
theorem nd3 {a b c : Addr} {r : List Addr} (n : (a :: b :: c :: r).Nodup) : (a ≠ b ∧ a ≠ c) ∧ b ≠ c := by
  obtain ⟨m1, m2⟩ := List.nodup_cons.mp n
  obtain ⟨m3, m4⟩ := List.nodup_cons.mp m2
  exact ⟨⟨fun e => m1 (e ▸ .head _), fun e => m1 (e ▸ .tail _ (.head _))⟩, fun e => m3 (e ▸ .head _)⟩
theorem nd7_of {X Xd rd : Addr} {A B : List RowR} {q : RowR} (nd : ((X :: Xd :: rd :: ((A ++ q :: B).flatMap RowR.objs).map (·.1))).Nodup) : [X, Xd, rd, q.r, q.d, q.il, q.dd].Nodup := by
  have n2 : ((X :: Xd :: rd :: (A.flatMap RowR.objs).map (·.1)) ++ (q.objs.map (·.1) ++ (B.flatMap RowR.objs).map (·.1))).Nodup := by
    rw [← hookObjs_split (oX := default) (ord := default)]; exact nd
  refine List.Sublist.nodup ?_ n2
  show List.Sublist ([X, Xd, rd] ++ [q.r, q.d, q.il, q.dd]) _
  refine List.Sublist.append ?_ (List.sublist_append_left _ _)
  exact .cons₂ _ (.cons₂ _ (.cons₂ _ (List.nil_sublist _)))
theorem nd7e {a b c d e f g : Addr} {G9 : Prop} (n : [a, b, c, d, e, f, g].Nodup) (k9 : a ≠ b → a ≠ c → a ≠ d → a ≠ e → a ≠ f → a ≠ g → b ≠ c → b ≠ d → b ≠ e → b ≠ f → b ≠ g → c ≠ d → c ≠ e → c ≠ f → c ≠ g → d ≠ e → d ≠ f → d ≠ g → e ≠ f → e ≠ g → f ≠ g → G9) : G9 :=
  ndE n k9
end
section
variable {prog : Program} {w : World} {X Xd rd : Addr} {oX ord ord' : Obj} {RL A B : List RowR} {q : RowR} {f : Int → Option (List Int)} {h h' g : Heap} {L' : Addr} {m' : Str → Option Value} {news : List (Addr × Obj)}
  {k : Int} {x d il dd : Addr} {h1 h2 : Int} {t1 t2 : Tok} {c : Nat} {vs : List Value} {ns : List Int} {odd : Obj}
theorem hook_new' (l : HookL prog w X Xd rd oX ord RL f) (hh : Holds h (hookObjs X Xd rd oX ord RL)) (hf : RL.find? (fun p => decide (p.k = k)) = none)
    (keep : ∀ b o, h.get? b = some o → b ∉ [(X, instObj 248 Xd), (Xd, oX), (rd, ord)].map (·.1) → g.get? b = some o) (gone : ∀ b, g.get? b = none → h.get? b = none ∨ b ∈ [(X, instObj 248 Xd), (Xd, oX), (rd, ord)].map (·.1))
    (F : Fr g L' h' m') (N : News g L' h' news) (mX : (X, instObj 248 Xd) ∈ news) (mXd : (Xd, oX) ∈ news) (mrd : (rd, ord') ∈ news)
    (m1 : (x, instObj 213 d) ∈ news) (m2 : (d, dictOf [⟨h1, .str "items" t1, .ref il⟩, ⟨h2, .str "depths" t2, .ref dd⟩] 2) ∈ news) (m3 : (il, listOf vs.toArray c) ∈ news) (m4 : (dd, odd) ∈ news)
    (iv : IntsAre vs ns) (ddd : odd.IsDictOf (PySem.intKind prog w) []) (ldd : (dd == sysModules) = false) (dr : ord'.IsDictOf (PySem.intKind prog w) (stored (rowsKvs RL) k (.ref x))) (h0 : 0 ≤ k) (h9 : k < 9)
    (nd : [X, Xd, rd, x, d, il, dd].Nodup) : ∃ fp', Hook prog w X (setAt f k (some ns)) fp' h' ∧ ∀ a ∈ fp', a ∈ (hookObjs X Xd rd oX ord RL).map (·.1) ∨ ∃ p ∈ news, p.1 = a := by
  have ndq : [x, d, il, dd].Nodup := List.Sublist.nodup (.cons _ (.cons _ (.cons _ (List.Sublist.refl _)))) nd
  refine hideG fun GG hGG => ?_
  refine nd7e nd fun _ _ _ _ _ _ _ _ _ _ _ _ _ _ _ _ _ _ _ _ _ => ?_
  refine hGG ?_; clear hGG GG
  have hn : Holds h' ((X, instObj 248 Xd) :: (Xd, oX) :: (rd, ord') :: (RowR.mk k x d il dd h1 h2 t1 t2 c vs ns odd).objs) :=
    allC (N _ mX).1 (allC (N _ mXd).1 (allC (N _ mrd).1 (allC (N _ m1).1 (allC (N _ m2).1 (allC (N _ m3).1 (allC (N _ m4).1 allN))))))
  have fr : ∀ a o, (a, o) ∈ news → a ≠ X → a ≠ Xd → a ≠ rd → h.get? a = none := fun a o ha n1 n2 n3 =>
    (gone a (N _ ha).2.2).elim id fun z => absurd z fun z => (List.mem_cons.mp z).elim n1 fun z => (List.mem_cons.mp z).elim n2 fun z => n3 (List.mem_singleton.mp z)
  refine ⟨_, hook_new (q := RowR.mk k x d il dd h1 h2 t1 t2 c vs ns odd) l hh hf (fun b o e n => F.keep b o (keep b o e n)) hn ⟨iv, ddd, ldd⟩ dr h0 h9 ndq ?_, fun a ha => ?_⟩
  · exact allC (fr _ _ m1 (Ne.symm (by assumption)) (Ne.symm (by assumption)) (Ne.symm (by assumption))) (allC (fr _ _ m2 (Ne.symm (by assumption)) (Ne.symm (by assumption)) (Ne.symm (by assumption)))
      (allC (fr _ _ m3 (Ne.symm (by assumption)) (Ne.symm (by assumption)) (Ne.symm (by assumption))) (allC (fr _ _ m4 (Ne.symm (by assumption)) (Ne.symm (by assumption)) (Ne.symm (by assumption))) allN)))
  · obtain ⟨p, hp, rfl⟩ := List.mem_map.mp ha
    exact all_hook (P := fun p => p.1 ∈ (hookObjs X Xd rd oX ord RL).map (·.1) ∨ ∃ q ∈ news, q.1 = p.1) (B := []) (.inr ⟨_, mX, rfl⟩) (.inr ⟨_, mXd, rfl⟩) (.inr ⟨_, mrd, rfl⟩) (allC (.inr ⟨_, m1, rfl⟩) (allC (.inr ⟨_, m2, rfl⟩) (allC (.inr ⟨_, m3, rfl⟩) (allC (.inr ⟨_, m4, rfl⟩) allN))))
      (fun p z => .inl (List.mem_map_of_mem (f := Prod.fst) (show p ∈ hookObjs X Xd rd oX ord RL from .tail _ (.tail _ (.tail _ z))))) (fun _ z => nomatch z) p hp
theorem hook_swap' (l : HookL prog w X Xd rd oX ord (A ++ q :: B) f) (hh : Holds h (hookObjs X Xd rd oX ord (A ++ q :: B))) (hA : ∀ p ∈ A, p.k ≠ q.k)
    (keep : ∀ b o, h.get? b = some o → b ∉ [(X, instObj 248 Xd), (Xd, oX), (rd, ord), (q.r, instObj 213 q.d), (q.d, dictOf [⟨q.h1, .str "items" q.t1, .ref q.il⟩, ⟨q.h2, .str "depths" q.t2, .ref q.dd⟩] 2), (q.il, listOf q.vs.toArray q.c), (q.dd, q.odd)].map (·.1) → g.get? b = some o)
    (gone : ∀ b, g.get? b = none → h.get? b = none ∨ b ∈ [(X, instObj 248 Xd), (Xd, oX), (rd, ord), (q.r, instObj 213 q.d), (q.d, dictOf [⟨q.h1, .str "items" q.t1, .ref q.il⟩, ⟨q.h2, .str "depths" q.t2, .ref q.dd⟩] 2), (q.il, listOf q.vs.toArray q.c), (q.dd, q.odd)].map (·.1))
    (F : Fr g L' h' m') (N : News g L' h' news) (mX : (X, instObj 248 Xd) ∈ news) (mXd : (Xd, oX) ∈ news) (mrd : (rd, ord) ∈ news)
    (m1 : (q.r, instObj 213 q.d) ∈ news) (m2 : (q.d, dictOf [⟨h1, .str "items" t1, .ref il⟩, ⟨h2, .str "depths" t2, .ref q.dd⟩] 2) ∈ news) (m3 : (il, listOf vs.toArray c) ∈ news) (m4 : (q.dd, q.odd) ∈ news)
    (iv : IntsAre vs ns) (nd : [X, Xd, rd, q.r, q.d, il, q.dd].Nodup) : ∃ fp', Hook prog w X (setAt f q.k (some ns)) fp' h' ∧ ∀ a ∈ fp', a ∈ (hookObjs X Xd rd oX ord (A ++ q :: B)).map (·.1) ∨ ∃ p ∈ news, p.1 = a := by
  have ndq : [q.r, q.d, il, q.dd].Nodup := List.Sublist.nodup (.cons _ (.cons _ (.cons _ (List.Sublist.refl _)))) nd
  refine hideG fun GG hGG => ?_
  refine nd7e nd fun _ _ _ _ _ _ _ _ _ _ _ _ _ _ _ _ _ _ _ _ _ => ?_
  refine hGG ?_; clear hGG GG
  have okq := l.ok q (List.mem_append_right _ (.head _))
  have hn : Holds h' ((X, instObj 248 Xd) :: (Xd, oX) :: (rd, ord) :: (RowR.mk q.k q.r q.d il q.dd h1 h2 t1 t2 c vs ns q.odd).objs) :=
    allC (N _ mX).1 (allC (N _ mXd).1 (allC (N _ mrd).1 (allC (N _ m1).1 (allC (N _ m2).1 (allC (N _ m3).1 (allC (N _ m4).1 allN))))))
  refine ⟨_, hook_swap (q' := RowR.mk q.k q.r q.d il q.dd h1 h2 t1 t2 c vs ns q.odd) l hh hA (fun b o e n => F.keep b o (keep b o e n)) hn rfl rfl ⟨iv, okq.dd, okq.ld⟩ ndq ?_, fun a ha => ?_⟩
  · refine allC (.inl (.head _)) (allC (.inl (.tail _ (.head _))) (allC ?_ (allC (.inl (.tail _ (.tail _ (.tail _ (.head _))))) allN)))
    exact (gone _ (N _ m3).2.2).elim .inr fun z => (List.mem_cons.mp z).elim (fun e => absurd e (Ne.symm (by assumption))) fun z => (List.mem_cons.mp z).elim (fun e => absurd e (Ne.symm (by assumption))) fun z => (List.mem_cons.mp z).elim (fun e => absurd e (Ne.symm (by assumption))) fun z => .inl z
  · obtain ⟨p, hp, rfl⟩ := List.mem_map.mp ha
    exact all_hook (P := fun p => p.1 ∈ (hookObjs X Xd rd oX ord (A ++ q :: B)).map (·.1) ∨ ∃ q ∈ news, q.1 = p.1) (q := RowR.mk q.k q.r q.d il q.dd h1 h2 t1 t2 c vs ns q.odd) (.inr ⟨_, mX, rfl⟩) (.inr ⟨_, mXd, rfl⟩) (.inr ⟨_, mrd, rfl⟩) (allC (.inr ⟨_, m1, rfl⟩) (allC (.inr ⟨_, m2, rfl⟩) (allC (.inr ⟨_, m3, rfl⟩) (allC (.inr ⟨_, m4, rfl⟩) allN))))
      (fun p z => .inl (List.mem_map_of_mem (f := Prod.fst) (mem_hook (oX := oX) (ord := ord) (q := q) |>.mpr (.inr (.inr (.inl z)))))) (fun p z => .inl (List.mem_map_of_mem (f := Prod.fst) (mem_hook (oX := oX) (ord := ord) (q := q) |>.mpr (.inr (.inr (.inr z)))))) p hp
end
section
end
end
section
section
theorem wtFBase : True := by
  w_top off
  trivial
def ListV (v : Value) (ns : List Int) : Comp := fun fp h => ∃ D vs c, v = .ref D ∧ fp = [D] ∧ h.get? D = some (listOf vs.toArray c) ∧ IntsAre vs ns
theorem listV_good {v : Value} {ns : List Int} : Good (ListV v ns) where
  nodup := by rintro fp h ⟨D, vs, c, rfl, rfl, _⟩; simp
  alive := by rintro fp h ⟨D, vs, c, rfl, rfl, e, _⟩ a ha; rw [List.mem_singleton.mp ha]; exact ⟨_, e⟩
  keeps := by rintro fp h h' ⟨D, vs, c, rfl, rfl, e, iv⟩ k; exact ⟨D, vs, c, rfl, rfl, k _ _ (.head _) e, iv⟩
theorem leafList {C : Comp} {ns : List Int} {C' : Value → Comp} (hC' : ∀ v, C' v = Star C (ListV v ns)) (gC : Good C) {fp : List Addr} {h₀ h' g : Heap} {s : Shared} {L L' D : Addr} {m m' : Str → Option Value} {hid news : List (Addr × Obj)} {Q : Value → Shared → Prop} {tk c : Nat} {vs : List Value} (I : InC C fp h₀ L s.heap m)
    (keep : ∀ b o, s.heap.get? b = some o → b ∉ hid.map (·.1) → g.get? b = some o) (gone : ∀ b, g.get? b = none → s.heap.get? b = none ∨ b ∈ hid.map (·.1)) (hs : ∀ p ∈ hid, p.1 ∈ fp ∧ s.heap.get? p.1 = some p.2)
    (hk : ∀ v h' tk' fp', InC (C' v) fp' h₀ L h' m → Step fp s.heap fp' h' → Q v { s with heap := h', toks := tk' })
    (F : Fr g L' h' m') (N : News g L' h' news) (sub : ∀ p ∈ hid, p ∈ news) (hD : (D, listOf vs.toArray c) ∈ news) (off : ∀ p ∈ hid, p.1 ≠ D) (iv : IntsAre vs ns) : Q (.ref D) { s with heap := h', toks := tk } := by
  have fresh : s.heap.get? D = none := by
    rcases gone D (N _ hD).2.2 with z | z
    · exact z
    · obtain ⟨p, hp, e⟩ := List.mem_map.mp z
      exact absurd e (off p hp)
  have all : ∀ a o, s.heap.get? a = some o → h'.get? a = some o := fun a o e => by
    by_cases q : a ∈ hid.map (·.1)
    · obtain ⟨p, hp, rfl⟩ := List.mem_map.mp q
      have := (hs p hp).2
      rw [e] at this
      rw [Option.some.inj this]
      exact (N p (sub p hp)).1
    · exact F.keep a o (keep a o e q)
  refine leafDone (C' := C') I keep gone (fun p hp => (hs p hp).1) hk F N (fp ++ [D]) ?_ (fun a q => ?_)
  · rw [hC']
    refine ⟨fp, [D], rfl, fun a ha hm => ?_, gC.keeps I.C fun a o _ e => all a o e, D, vs, c, rfl, rfl, (N _ hD).1, iv⟩
    rw [List.mem_singleton.mp hm] at ha
    obtain ⟨o, e⟩ := gC.alive I.C D ha
    rw [fresh] at e; cases e
  · rcases List.mem_append.mp q with z | z
    · exact .inl z
    · rw [List.mem_singleton.mp z]; exact .inr ⟨_, hD, rfl⟩
def calledA (fk gk : Option (List Int)) : List Int := match gk with
  | none => fk.getD []
  | some ns => ns.flatMap fun i => if i == -1 then fk.getD [] else [i]
section
variable {prog : Program} {w : World} {A : Around} {E : Value → Shared → Prop} {s : Shared} {h₀ : Heap} {L d : Addr} {m : Str → Option Value} {news : List (Addr × Obj)} {g : Obj → List (Addr × Obj)} {Q : Value → Shared → Prop}
theorem copy_L {l : Addr} {vs : List Value} {c : Nat} (F : Fr h₀ L s.heap m) (N : News h₀ L s.heap news) (hm : (l, listOf vs.toArray c) ∈ news) (hsz : vs.length ≤ 100000)
    (h : ∀ D c' h' tk, Fr h₀ L h' m → News h₀ L h' ((D, listOf vs.toArray c') :: news) → (∀ q ∈ news, q.1 < D) → Q (.ref D) { s with heap := h', toks := tk }) :
    wpAny (model prog w) A (call (.type "list") [.ref l]) Q E s := by
  have e : vs.toArray.size ≤ sizeLine := by rw [List.size_toArray, sizeLine_eq]; omega
  exact list_copyK F N (led_list N hm) (fun D c' h' F' N' l => h D c' h' _ F' N' l) e
theorem ext_L {D b : Addr} {ys ws : List Value} {n n2 : Nat} {ns ms : List Int} (F : Fr h₀ L s.heap m) (N : News h₀ L s.heap news) (U : UpdF D (listOf ys.toArray n) news g) (hb : (b, listOf ws.toArray n2) ∈ news) (hi : IntsAre ys ns) (hj : IntsAre ws ms) (hsz : ns.length + ms.length ≤ sizeLine)
    (h : ∀ h' n', Fr h₀ L h' m → News h₀ L h' (g (listOf (ys ++ ws).toArray n')) → IntsAre (ys ++ ws) (ns ++ ms) → Q .none { s with heap := h' }) :
    wpAny (model prog w) A (call (.builtin "list.extend") [.ref D, .ref b]) Q E s := by
  refine hideG fun GG hGG => ?_
  obtain ⟨pre, post, rfl, hg, h1, h2⟩ := U.split
  refine hGG ?_; clear hGG GG
  have e1 := hi.length
  have e2 := hj.length
  refine extend_in_ints F N h1 h2 (N _ hb).1 hi (by simpa using hj) (fun h' n' F' N' hi' => ?_) (by rw [List.size_toArray]; omega)
  rw [List.toList_toArray] at N' hi'
  exact h h' n' F' (hg _ ▸ N') hi'
end
theorem star_objs {prog : Program} {w : World} {H R : Addr} {f g : Int → Option (List Int)} {fp : List Addr} {h : Heap} (c : Star (Hook prog w H f) (Hook prog w R g) fp h) :
    ∃ Hd hr oH ohr HL Rd rr oR orr RL, fp = (hookObjs H Hd hr oH ohr HL).map (·.1) ++ (hookObjs R Rd rr oR orr RL).map (·.1) ∧ HookL prog w H Hd hr oH ohr HL f ∧ HookL prog w R Rd rr oR orr RL g ∧ Holds h (hookObjs H Hd hr oH ohr HL) ∧ Holds h (hookObjs R Rd rr oR orr RL) ∧
      ∀ a ∈ (hookObjs H Hd hr oH ohr HL).map (·.1), a ∉ (hookObjs R Rd rr oR orr RL).map (·.1) := by
  refine hideG fun GG hGG => ?_
  obtain ⟨f1, f2, rfl, n, ⟨Hd, hr, oH, ohr, HL, rfl, l1, h1⟩, ⟨Rd, rr, oR, orr, RL, rfl, l2, h2⟩⟩ := c
  refine hGG ?_; clear hGG GG
  exact ⟨Hd, hr, oH, ohr, HL, Rd, rr, oR, orr, RL, rfl, l1, l2, h1, h2, n⟩
end
section
theorem calledA_succ {fk : Option (List Int)} {ns : List Int} {i : Nat} {it : Int} (h : ns[i]? = some it) : calledA fk (some (ns.take (i + 1))) = calledA fk (some (ns.take i)) ++ (if it == -1 then fk.getD [] else [it]) := by
  simp only [calledA]
  rw [List.take_add_one, h, List.flatMap_append]
  simp
theorem calledA_len {fk : Option (List Int)} (hf : (fk.getD []).length ≤ 60) (ns : List Int) : (calledA fk (some ns)).length ≤ 60 * ns.length := by
  simp only [calledA]
  induction ns with
  | nil => simp
  | cons x r ih =>
    rw [List.flatMap_cons, List.length_append, List.length_cons]
    have : (if x == -1 then fk.getD [] else [x]).length ≤ 60 := by
      split
      · exact hf
      · simp
    omega
end
end
section
section
theorem wtKLBase : True := by
  w_top off
  trivial
section
variable {prog : Program} {w : World} {A : Around} {s : Shared} {env : Env} {E : Value → Shared → Prop}
/-- as For_led, behind the evaluation of what is iterated -/
theorem Iter_led {target : Expr} {body : List Stmt} {Q : Flow → Shared → Prop} {g : Heap} {L : Addr} (hh : A.handled = none) {l : Addr} {items : Array Value} {m₀ : Str → Option Value} {nw₀ : List (Addr × Obj)} (F0 : Fr g L s.heap m₀) (N0 : News g L s.heap nw₀) (J : Nat → (Str → Option Value) → List (Addr × Obj) → Prop)
    (src : ∀ i m nw h, J i m nw → Fr g L h m → News g L h nw → h.IsList l items) (j0 : J 0 m₀ nw₀)
    (turn : ∀ i v it oi h tk m nw, items[i]? = some v → J i m nw → (∀ p ∈ nw, p.1 ≠ it) → Fr g L h m → News g L h ((it, oi) :: nw) →
      wpAny (model prog w) A (assign target env v) (fun _ s₂ => wpAny (model prog w) A (execs body env) (fun f s₃ => match f with
        | .next | .cont => LedEnd s g L it oi (J (i + 1)) s₃
        | .brk => Q .next s₃
        | .ret v => Q (.ret v) s₃) (fun _ _ => False) s₂) (fun _ _ => False) { s with heap := h, toks := tk })
    (done : ∀ h tk m nw, J items.size m nw → Fr g L h m → News g L h nw → Q .next { s with heap := h, toks := tk }) :
    wpAny (model prog w) A (pyIter (.ref l)) (fun it s₂ => codeAny (model prog w) A (.forLoop target it body [] env) (fun r s' => match r with | .ok f => Q f s' | .error e => cameBackBy (model prog w) A env E e s') s₂) E s :=
  Iter_ledT hh F0 N0 J src j0 turn done
end
def EmptyD (prog : Program) (w : World) (P : Addr) : Comp := fun fp h => fp = [P] ∧ (P == sysModules) = false ∧ ∃ o, h.get? P = some o ∧ o.IsDictOf (PySem.intKind prog w) []
theorem emptyD_good {prog : Program} {w : World} {P : Addr} : Good (EmptyD prog w P) where
  nodup := by rintro fp h ⟨rfl, _⟩; simp
  alive := by rintro fp h ⟨rfl, _, o, e, _⟩ a ha; rw [List.mem_singleton.mp ha]; exact ⟨_, e⟩
  keeps := by rintro fp h h' ⟨rfl, l, o, e, d⟩ k; exact ⟨rfl, l, o, k _ _ (.head _) e, d⟩
theorem rows_split {RL : List RowR} {k : Int} {ks : List Int} (p : (RL.map (·.k)).Perm (k :: ks)) (nd : (RL.map (·.k)).Nodup) : ∃ A q B, RL = A ++ q :: B ∧ q.k = k ∧ ((A ++ B).map (·.k)).Perm ks ∧ (∀ x ∈ A, x.k ≠ k) ∧ (∀ x ∈ B, x.k ≠ k) := by
  have hm : k ∈ RL.map (·.k) := p.mem_iff.mpr (.head _)
  refine hideG fun GG hGG => ?_
  obtain ⟨q, hq, hk⟩ := List.mem_map.mp hm
  obtain ⟨A, B, rfl⟩ := List.append_of_mem hq
  refine hGG ?_; clear hGG GG
  subst hk
  refine ⟨A, q, B, rfl, rfl, ?_, ?_, ?_⟩
  · have h1 : ((A ++ q :: B).map (·.k)).Perm (q.k :: (A ++ B).map (·.k)) := (List.perm_middle).map _
    exact List.Perm.cons_inv (h1.symm.trans p)
  · intro x hx e
    rw [List.map_append, List.map_cons] at nd
    exact (List.nodup_append.mp nd).2.2 x.k (List.mem_map_of_mem hx) q.k (.head _) e
  · intro x hx e
    rw [List.map_append, List.map_cons] at nd
    exact (List.nodup_cons.mp (List.nodup_append.mp nd).2.1).1 (e ▸ List.mem_map_of_mem hx)
theorem without_mid {A B : List RowR} {q : RowR} (hA : ∀ x ∈ A, x.k ≠ q.k) (hB : ∀ x ∈ B, x.k ≠ q.k) : without (rowsKvs (A ++ q :: B)) q.k = rowsKvs (A ++ B) := by
  unfold without rowsKvs
  rw [List.map_append, List.map_cons, List.filter_append, List.filter_cons, List.map_append]
  have h : ∀ (l : List RowR), (∀ x ∈ l, x.k ≠ q.k) → (l.map fun q => (q.k, Value.ref q.r)).filter (fun kv => decide (kv.1 ≠ q.k)) = l.map fun q => (q.k, Value.ref q.r) := fun l hl => by
    rw [List.filter_eq_self]
    intro x hx
    obtain ⟨y, hy, rfl⟩ := List.mem_map.mp hx
    simpa using hl y hy
  rw [h A hA, h B hB]
  simp
theorem find_mid {A B : List RowR} {q : RowR} (hA : ∀ x ∈ A, x.k ≠ q.k) : (A ++ q :: B).find? (fun x => decide (x.k = q.k)) = some q := by
  rw [List.find?_append, List.find?_eq_none.mpr (fun p hp => by simpa using hA p hp)]
  simp
theorem rowsKvs_keys {RL : List RowR} : (rowsKvs RL).map (·.1) = RL.map (·.k) := by simp [rowsKvs]
theorem objs_nodup_mid {P : List Addr} {A B : List RowR} {q : RowR} (nd : (P ++ ((A ++ q :: B).flatMap RowR.objs).map (·.1)).Nodup) :
    (P ++ ((A ++ B).flatMap RowR.objs).map (·.1)).Nodup ∧ (∀ p ∈ (A ++ B).flatMap RowR.objs, p.1 ∉ q.objs.map (·.1)) ∧ (P ++ q.objs.map (·.1)).Nodup := by
  have h1 : (((A ++ q :: B).flatMap RowR.objs).map (·.1)).Perm (q.objs.map (·.1) ++ ((A ++ B).flatMap RowR.objs).map (·.1)) := by
    rw [List.flatMap_append, List.flatMap_cons, List.flatMap_append, List.map_append, List.map_append, List.map_append, ← List.append_assoc]
    refine (List.perm_append_comm.append_right _).trans ?_
    rw [List.append_assoc]
  have h2 := (h1.append_left P).nodup_iff.mp nd
  refine hideG fun GG hGG => ?_
  obtain ⟨a, b, c⟩ := List.nodup_append.mp h2
  obtain ⟨d, e, f⟩ := List.nodup_append.mp b
  refine hGG ?_; clear hGG GG
  refine ⟨List.nodup_append.mpr ⟨a, e, fun x hx y hy => c x hx y (List.mem_append_right _ hy)⟩, fun p hp hq => f p.1 hq p.1 (List.mem_map_of_mem hp) rfl, List.nodup_append.mpr ⟨a, d, fun x hx y hy => c x hx y (List.mem_append_left _ hy)⟩⟩
end
section
theorem mem_flat_mid {A B : List RowR} {q : RowR} {p : Addr × Obj} (hp : p ∈ q.objs ++ (A ++ B).flatMap RowR.objs) : p ∈ (A ++ q :: B).flatMap RowR.objs := by
  rcases List.mem_append.mp hp with z | z
  · exact List.mem_flatMap.mpr ⟨q, List.mem_append_right _ (.head _), z⟩
  · obtain ⟨r, hr, hz⟩ := List.mem_flatMap.mp z
    exact List.mem_flatMap.mpr ⟨r, (List.mem_append.mp hr).elim (List.mem_append_left _) (fun h => List.mem_append_right _ (.tail _ h)), hz⟩
theorem news_midP {g h : Heap} {L : Addr} (pre : List (Addr × Obj)) {A B : List RowR} {q : RowR} (N : News g L h (pre ++ (A ++ q :: B).flatMap RowR.objs)) :
    News g L h (pre ++ ((q.r, instObj 213 q.d) :: (q.d, dictOf [⟨q.h1, .str "items" q.t1, .ref q.il⟩, ⟨q.h2, .str "depths" q.t2, .ref q.dd⟩] 2) :: (q.il, listOf q.vs.toArray q.c) :: (q.dd, q.odd) :: (A ++ B).flatMap RowR.objs)) := fun p hp =>
  N p ((List.mem_append.mp hp).elim (List.mem_append_left _) fun z => List.mem_append_right _ (mem_flat_mid z))
/-- all rows are gone -/
theorem hook_empty {prog : Program} {w : World} {R Rd rr : Addr} {oR orr : Obj} {h : Heap} (nd : [R, Rd, rr].Nodup) (iX : ∃ k1 t1 n, oR = dictOf [⟨k1, .str "rows" t1, .ref rr⟩] n) (l : (rr == sysModules) = false) (d : orr.IsDictOf (PySem.intKind prog w) []) (hh : Holds h [(R, instObj 248 Rd), (Rd, oR), (rr, orr)]) :
    Hook prog w R (fun _ => none) [R, Rd, rr] h :=
  ⟨Rd, rr, oR, orr, [], rfl, ⟨by simpa using nd, iX, l, d, fun p hp => (nomatch hp), fun q hq => (nomatch hq), fun k => rfl⟩, fun p hp => hh p (by simpa [hookObjs] using hp)⟩
end
section
theorem kok_sub {RL RLI : List RowR} (k : KOK (rowsKvs RL)) (s : ∀ q ∈ RLI, q ∈ RL) : KOK (rowsKvs RLI) := fun p hp => by
  obtain ⟨q, hq, rfl⟩ := List.mem_map.mp hp
  exact k _ (List.mem_map.mpr ⟨q, s q hq, rfl⟩)
theorem drop_cons {l : List Int} {i : Nat} {k : Int} (h : l[i]? = some k) : l.drop i = k :: l.drop (i + 1) := by
  obtain ⟨hi, e⟩ := List.getElem?_eq_some_iff.mp h
  rw [List.drop_eq_getElem_cons hi, e]
theorem rowsF_mem {RL : List RowR} {q : RowR} (nd : (RL.map (·.k)).Nodup) (h : q ∈ RL) : rowsF RL q.k = some q.ns := by
  obtain ⟨A, B, rfl⟩ := List.append_of_mem h
  unfold rowsF
  rw [find_mid]
  · rfl
  · intro x hx e
    rw [List.map_append, List.map_cons] at nd
    exact (List.nodup_append.mp nd).2.2 x.k (List.mem_map_of_mem hx) q.k (.head _) e
end
end
section
section
theorem wtWBase : True := by
  w_top off
  trivial
/-- the ledger's list ws is the part W, wherever its objects lie so -/
def Own (W : Comp) (ws : List (Addr × Obj)) : Prop := ∀ h, Holds h ws → W (ws.map (·.1)) h
theorem own_of {W : Comp} (gW : Good W) {fp : List Addr} {h : Heap} (c : W fp h) : ∃ ws, ws.map (·.1) = fp ∧ Holds h ws ∧ Own W ws := by
  have hm : ∀ a ∈ fp, h.get? a = some ((h.get? a).getD default) := fun a ha => by
    obtain ⟨o, e⟩ := gW.alive c a ha
    rw [e]; rfl
  have e1 : (fp.map fun a => (a, (h.get? a).getD default)).map (·.1) = fp := by
    rw [List.map_map]
    exact List.map_id'' (fun _ => rfl) fp
  refine ⟨fp.map fun a => (a, (h.get? a).getD default), e1, fun p hp => ?_, fun h' hh => ?_⟩
  · obtain ⟨a, ha, rfl⟩ := List.mem_map.mp hp
    exact hm a ha
  · rw [e1]
    refine gW.keeps c fun a o ha e => ?_
    have := hh (a, (h.get? a).getD default) (List.mem_map.mpr ⟨a, ha, rfl⟩)
    rw [e] at this
    exact this
theorem in_of {W : Comp} {g h : Heap} {L : Addr} {m : Str → Option Value} {ws : List (Addr × Obj)} (F : Fr g L h m) (N : News g L h ws) (O : Own W ws) : InC W (ws.map (·.1)) g L h m :=
  ⟨F, O h fun p hp => (N p hp).1, fun q => by
    obtain ⟨p, hp, e⟩ := List.mem_map.mp q
    exact (N p hp).2.1 e, fun a o e q => by
    obtain ⟨p, hp, rfl⟩ := List.mem_map.mp q
    rw [(N p hp).2.2] at e; cases e⟩
theorem news_of {W : Comp} {g h : Heap} {L : Addr} {m : Str → Option Value} {ws : List (Addr × Obj)} (I : InC W (ws.map (·.1)) g L h m) (hh : Holds h ws) : News g L h ws := I.news fun p hp => ⟨List.mem_map_of_mem hp, hh p hp⟩
theorem own_star {C D : Comp} (gC : Good C) (gD : Good D) {ws : List (Addr × Obj)} {h : Heap} (hh : Holds h ws) (O : Own (Star C D) ws) : ∃ w1 w2, ws = w1 ++ w2 ∧ Own C w1 ∧ Own D w2 ∧ ∀ p ∈ w1, p.1 ∉ w2.map (·.1) := by
  refine hideG fun GG hGG => ?_
  obtain ⟨f1, f2, e, n, c, d⟩ := O h hh
  obtain ⟨l1, l2, rfl, e1, e2⟩ := List.map_eq_append_iff.mp e
  refine hGG ?_; clear hGG GG
  subst e1 e2
  have h1 : Holds h l1 := fun p hp => hh p (List.mem_append_left _ hp)
  have h2 : Holds h l2 := fun p hp => hh p (List.mem_append_right _ hp)
  refine ⟨l1, l2, rfl, fun h' k => gC.keeps c fun a o ha e => ?_, fun h' k => gD.keeps d fun a o ha e => ?_, fun p hp => n p.1 (List.mem_map_of_mem hp)⟩
  · obtain ⟨p, hp, rfl⟩ := List.mem_map.mp ha
    rw [h1 p hp] at e
    rw [← Option.some.inj e]; exact k p hp
  · obtain ⟨p, hp, rfl⟩ := List.mem_map.mp ha
    rw [h2 p hp] at e
    rw [← Option.some.inj e]; exact k p hp
theorem star_own {C D : Comp} {w1 w2 : List (Addr × Obj)} (o1 : Own C w1) (o2 : Own D w2) (n : ∀ p ∈ w1, p.1 ∉ w2.map (·.1)) : Own (Star C D) (w1 ++ w2) := fun h hh =>
  ⟨w1.map (·.1), w2.map (·.1), List.map_append, fun a ha => by
    obtain ⟨p, hp, rfl⟩ := List.mem_map.mp ha
    exact n p hp, o1 h fun p hp => hh p (List.mem_append_left _ hp), o2 h fun p hp => hh p (List.mem_append_right _ hp)⟩
/-- a contract whose def also reads objects that lie still -/
def SpecS (prog : Program) (w : World) (p : Program) (loose : List Str) (mean : ExcName → Option Value) (mg mb : Str → Option Value) (St : List (Addr × Obj)) (n : Nat) (f : Addr) (args : List Value) (C : Comp) (C' : Value → Comp) : Prop :=
  ∀ {dp un : Nat} {gd : Option (List Code)} {cn : Str} {cs : Scope} {a : Addr} {ccd : Value} {cl : List (Str × Addr)} {outer : List Env} {A₀ : Around} {base h₀ : Heap} {L : Addr} {m : Str → Option Value} {s : Shared} {Q E : Value → Shared → Prop} {fp : List Addr},
    Below A₀ base outer h₀ → (hd.heap_1 w.params).In h₀ → Top p loose mean mg mb h₀ → cs.kind = .function → dp + n < 1000 → un + 20 * n < 9000 → (∀ q ∈ St, s.heap.get? q.1 = some q.2 ∧ q.1 ∉ fp) → InC C fp h₀ L s.heap m →
    (∀ v h' tk' fp', InC (C' v) fp' h₀ L h' m → Step fp s.heap fp' h' → Q v { s with heap := h', toks := tk' }) →
    wpAny (model prog w) (ktrTop dp un gd cn cs L a ccd cl outer) (call (.ref f) args) Q E s
section
variable {prog : Program} {w : World} {p : Program} {loose : List Str} {mean : ExcName → Option Value} {mg mb : Str → Option Value}
theorem Spec.toS {St : List (Addr × Obj)} {n : Nat} {f : Addr} {args : List Value} {C : Comp} {C' : Value → Comp} (S : Spec prog w p loose mean mg mb n f args C C') : SpecS prog w p loose mean mg mb St n f args C C' :=
  fun B X T hke hdp hu _ I hk => S B X T hke hdp hu I hk
/-- use of a contract, the frame's own objects beside the part -/
theorem call_W {St : List (Addr × Obj)} {n : Nat} {f : Addr} {args : List Value} {W : Comp} {W' : Value → Comp} (S : SpecS prog w p loose mean mg mb St n f args W W') (gW' : ∀ v, Good (W' v))
    {dp un : Nat} {gd : Option (List Code)} {cn : Str} {cs : Scope} {a : Addr} {ccd : Value} {cl : List (Str × Addr)} {outer : List Env} {A₀ : Around} {base g : Heap} {L : Addr} {m : Str → Option Value} {s : Shared} {Q E : Value → Shared → Prop} {own ws : List (Addr × Obj)}
    (B : Below A₀ base outer g) (X : (hd.heap_1 w.params).In g) (T : Top p loose mean mg mb g) (hke : cs.kind = .function) (hdp : dp + n < 1000) (hu : un + 20 * n < 9000) (F : Fr g L s.heap m) (N : News g L s.heap (own ++ ws)) (O : Own W ws) (off : ∀ q ∈ own, q.1 ∉ ws.map (·.1))
    (hst : ∀ q ∈ St, g.get? q.1 = some q.2 ∨ q ∈ own)
    (k : ∀ v h' tk' ws', Fr g L h' m → News g L h' (own ++ ws') → Own (W' v) ws' → (∀ q ∈ own, q.1 ∉ ws'.map (·.1)) → Q v { s with heap := h', toks := tk' }) :
    wpAny (model prog w) (ktrTop dp un gd cn cs L a ccd cl outer) (call (.ref f) args) Q E s := by
  have N1 : News g L s.heap ws := fun p hp => N p (List.mem_append_right _ hp)
  have N2 : News g L s.heap own := fun p hp => N p (List.mem_append_left _ hp)
  have I := in_of F N1 O
  refine S B X T hke hdp hu (fun q hq => ?_) I fun v h' tk' fp' I' st => ?_
  · rcases hst q hq with z | z
    · exact ⟨F.keep _ _ z, I.hb _ _ z⟩
    · exact ⟨(N2 q z).1, off q z⟩
  · obtain ⟨ws', e, hh, O'⟩ := own_of (gW' v) I'.C
    subst e
    have off' : ∀ q ∈ own, q.1 ∉ ws'.map (·.1) := fun q hq z => by
      rcases st.2 _ z with y | y
      · exact off q hq y
      · rw [(N2 q hq).1] at y; cases y
    refine k v h' tk' ws' I'.F (fun q hq => ?_) O' off'
    rcases List.mem_append.mp hq with z | z
    · exact ⟨st.1 _ _ (N2 q z).1 (off q z), (N2 q z).2⟩
    · exact news_of I' hh q z
/-- the end of a def over a part -/
theorem fin_W {W W' : Comp} {fp : List Addr} {h₀ h h' g : Heap} {L L' : Addr} {m m' : Str → Option Value} {ws ws' : List (Addr × Obj)} (I : InC W fp h₀ L h m) (e : ws.map (·.1) = fp)
    (keep : ∀ b o, h.get? b = some o → b ∉ ws.map (·.1) → g.get? b = some o) (gone : ∀ b, g.get? b = none → h.get? b = none ∨ b ∈ ws.map (·.1)) (F : Fr g L' h' m') (N : News g L' h' ws') (O : Own W' ws') :
    InC W' (ws'.map (·.1)) h₀ L h' m ∧ Step fp h (ws'.map (·.1)) h' := by
  have J := in_of F N O
  have st : Step fp h (ws'.map (·.1)) h' := by
    subst e
    refine ⟨fun a o z n => F.keep _ _ (keep a o z n), fun a q => ?_⟩
    have : g.get? a = none := by
      cases z : g.get? a with
      | none => rfl
      | some o => exact absurd q (J.hb a o z)
    rcases gone a this with z | z
    · exact .inr z
    · exact .inl z
  exact ⟨I.step J.C st, st⟩
end
end
end
section
section
theorem wtRBase : True := by
  w_top off
  trivial
inductive Ev where
  | change (m : Int)
  | fn (w f : Int)
  | body (m : Int)
  | behind (m : Int)
/-- the tuple's items tell the event -/
inductive EvIs : Ev → List Value → Prop
  | change (m : Int) (t t1 : Tok) : EvIs (.change m) [.str "change" t, .int m t1]
  | fn (w f : Int) (t t1 t2 : Tok) : EvIs (.fn w f) [.str "function" t, .int w t1, .int f t2]
  | body (m : Int) (t t1 : Tok) : EvIs (.body m) [.str "body" t, .int m t1]
  | behind (m : Int) (t t1 : Tok) : EvIs (.behind m) [.str "behind" t, .int m t1]
abbrev tupOf (vs : List Value) (n : Nat) : Obj := { cls := .type "tuple", data := .seq vs.toArray n }
inductive EvsAre : List Ev → List (Addr × Obj) → Prop
  | nil : EvsAre [] []
  | cons {e : Ev} {a : Addr} {vs : List Value} {n : Nat} {es : List Ev} {tt : List (Addr × Obj)} : EvIs e vs → EvsAre es tt → EvsAre (e :: es) ((a, tupOf vs n) :: tt)
theorem EvsAre.snoc {es : List Ev} {tt : List (Addr × Obj)} {e : Ev} {a : Addr} {vs : List Value} {n : Nat} (h : EvsAre es tt) (x : EvIs e vs) : EvsAre (es ++ [e]) (tt ++ [(a, tupOf vs n)]) := by
  induction h with
  | nil => exact .cons x .nil
  | cons y _ ih => exact .cons y ih
theorem EvsAre.length {es : List Ev} {tt : List (Addr × Obj)} (h : EvsAre es tt) : tt.length = es.length := by
  induction h with
  | nil => rfl
  | cons _ _ ih => simp [ih]
def refs (tt : List (Addr × Obj)) : List Value := tt.map fun p => .ref p.1
structure LR where
  k : Int
  il : Addr
  c : Nat
  vs : List Value
  ns : List Int
def LR.obj (q : LR) : Addr × Obj := (q.il, listOf q.vs.toArray q.c)
def lrKvs (l : List LR) : List (Int × Value) := l.map fun q => (q.k, Value.ref q.il)
def lrF (l : List LR) (k : Int) : Option (List Int) := (l.find? fun q => decide (q.k = k)).map (·.ns)
structure RecSt where
  x : VarSt
  every : Int → Option (List Int)
  rows : Int → Option (List Int)
  on : List Int
  told : List Ev
  mode : Int
structure RecP where
  dD : Addr
  dO : Addr
  dA : Addr
  dK : Addr
  dE : Addr
  dR : Addr
  lO : Addr
  lT : Addr
  oRC : Obj
  oD : Obj
  oO : Obj
  oA : Obj
  oK : Obj
  oE : Obj
  oR : Obj
  kD : List (Int × Value)
  kO : List (Int × Value)
  kA : List (Int × Value)
  kK : List (Int × Value)
  cO : Nat
  cT : Nat
  tm : Tok
  von : List Value
  EL : List LR
  WL : List LR
  TT : List (Addr × Obj)
def RecP.rest (P : RecP) : List (Addr × Obj) := P.EL.map LR.obj ++ (P.WL.map LR.obj ++ P.TT)
def RecP.objs (RC : Addr) (P : RecP) : List (Addr × Obj) := (RC, P.oRC) :: (P.dD, P.oD) :: (P.dO, P.oO) :: (P.dA, P.oA) :: (P.dK, P.oK) :: (P.dE, P.oE) :: (P.dR, P.oR) :: (P.lO, listOf P.von.toArray P.cO) :: (P.lT, listOf (refs P.TT).toArray P.cT) :: P.rest
def RecP.ks (RC : Addr) (P : RecP) (l : List Addr) : List Addr := RC :: P.dD :: P.dO :: P.dA :: P.dK :: P.dE :: P.dR :: P.lO :: P.lT :: l
theorem ks_perm {RC : Addr} {P : RecP} {l l' : List Addr} (h : l.Perm l') : (P.ks RC l).Perm (P.ks RC l') := h.append_left [RC, P.dD, P.dO, P.dA, P.dK, P.dE, P.dR, P.lO, P.lT]
theorem ks_add {RC : Addr} {P : RecP} {l : List (Addr × Obj)} {x : Addr × Obj} (h : l.Perm (P.rest ++ [x])) : (P.ks RC (l.map (·.1))).Perm ((P.objs RC).map (·.1) ++ [x.1]) :=
  (ks_perm (h.map _)).trans (.of_eq (congrArg (P.ks RC) List.map_append))
theorem perm_mid {α : Type} {W T : List α} {q : α} : (W ++ [q] ++ T).Perm (W ++ T ++ [q]) := by
  rw [List.append_assoc, List.append_assoc]; exact List.perm_append_comm.append_left W
abbrev recKvs (dD dO dA dK dE dR lO lT : Addr) (m : Int) (tm : Tok) : List (Str × Value) := [("default", .ref dD), ("own", .ref dO), ("automatic", .ref dA), ("kept", .ref dK), ("every", .ref dE), ("rows", .ref dR), ("on", .ref lO), ("told", .ref lT), ("mode", .int m tm)]
structure RecL (prog : Program) (w : World) (RC : Addr) (P : RecP) (r : RecSt) : Prop where
  nd : ((P.objs RC).map (·.1)).Nodup
  dRC : P.oRC.IsDictOf (PySem.strKind prog w) (recKvs P.dD P.dO P.dA P.dK P.dE P.dR P.lO P.lT r.mode P.tm)
  lRC : (RC == sysModules) = false
  lD : (P.dD == sysModules) = false
  lO' : (P.dO == sysModules) = false
  lA : (P.dA == sysModules) = false
  lK : (P.dK == sysModules) = false
  lE : (P.dE == sysModules) = false
  lR : (P.dR == sysModules) = false
  iD : P.oD.IsDictOf (PySem.intKind prog w) P.kD
  iO : P.oO.IsDictOf (PySem.intKind prog w) P.kO
  iA : P.oA.IsDictOf (PySem.intKind prog w) P.kA
  iK : P.oK.IsDictOf (PySem.intKind prog w) P.kK
  iE : P.oE.IsDictOf (PySem.intKind prog w) (lrKvs P.EL)
  iR : P.oR.IsDictOf (PySem.intKind prog w) (lrKvs P.WL)
  xD : IntsD P.kD r.x.dflt
  xO : CellsD P.kO r.x.own
  xA : BoolsD P.kA r.x.auto
  xK : BoolsD P.kK r.x.kept
  kE : KOK (lrKvs P.EL)
  kR : KOK (lrKvs P.WL)
  fE : ∀ k, r.every k = lrF P.EL k
  fR : ∀ k, r.rows k = lrF P.WL k
  vE : ∀ q ∈ P.EL, IntsAre q.vs q.ns
  vR : ∀ q ∈ P.WL, IntsAre q.vs q.ns
  von : IntsAre P.von r.on
  tt : EvsAre r.told P.TT
def Rec (prog : Program) (w : World) (RC : Addr) (r : RecSt) : Comp := fun fp h => ∃ P : RecP, fp = (P.objs RC).map (·.1) ∧ RecL prog w RC P r ∧ Holds h (P.objs RC)
theorem rec_good {prog : Program} {w : World} {RC : Addr} {r : RecSt} : Good (Rec prog w RC r) where
  nodup := by
    rintro fp h ⟨P, rfl, l, k⟩
    exact l.nd
  alive := by
    rintro fp h ⟨P, rfl, l, k⟩ a ha
    obtain ⟨p, hp, rfl⟩ := List.mem_map.mp ha
    exact ⟨_, k p hp⟩
  keeps := by
    rintro fp h h' ⟨P, rfl, l, k⟩ z
    exact ⟨P, rfl, l, fun p hp => z p.1 p.2 (List.mem_map_of_mem hp) (k p hp)⟩
theorem nd9e {a b c d e f g h i : Addr} {r : List (Addr × Obj)} {G9 : Prop} (n : (a :: b :: c :: d :: e :: f :: g :: h :: i :: r.map (·.1)).Nodup) (k9 : a ≠ b → a ≠ c → a ≠ d → a ≠ e → a ≠ f → a ≠ g → a ≠ h → a ≠ i → b ≠ c → b ≠ d → b ≠ e → b ≠ f → b ≠ g → b ≠ h → b ≠ i → c ≠ d → c ≠ e → c ≠ f → c ≠ g → c ≠ h → c ≠ i → d ≠ e → d ≠ f → d ≠ g → d ≠ h → d ≠ i → e ≠ f → e ≠ g → e ≠ h → e ≠ i → f ≠ g → f ≠ h → f ≠ i → g ≠ h → g ≠ i → h ≠ i → (∀ p ∈ r, p.1 ≠ a) → (∀ p ∈ r, p.1 ≠ b) → (∀ p ∈ r, p.1 ≠ c) → (∀ p ∈ r, p.1 ≠ d) → (∀ p ∈ r, p.1 ≠ e) → (∀ p ∈ r, p.1 ≠ f) → (∀ p ∈ r, p.1 ≠ g) → (∀ p ∈ r, p.1 ≠ h) → (∀ p ∈ r, p.1 ≠ i) → G9) : G9 :=
  have z := List.nodup_append.mp (show ([a, b, c, d, e, f, g, h, i] ++ r.map (·.1)).Nodup from n)
  ofE (l := [a, b, c, d, e, f, g, h, i]) (fun x hx p hp e => z.2.2 x hx p.1 (List.mem_map_of_mem hp) e.symm) (ndE z.1 k9)
/-- the record's part from the ledger at an end -/
theorem rec_mk {prog : Program} {w : World} {RC : Addr} {P : RecP} {r : RecSt} {g h' : Heap} {L' : Addr} {news : List (Addr × Obj)} (N : News g L' h' news) (sub : ∀ p ∈ P.objs RC, p ∈ news) (l : RecL prog w RC P r) : Rec prog w RC r ((P.objs RC).map (·.1)) h' :=
  ⟨P, rfl, l, fun p hp => (N p (sub p hp)).1⟩
section
variable {prog : Program} {w : World} {A : Around} {E : Value → Shared → Prop} {s : Shared} {h₀ : Heap} {L d : Addr} {m : Str → Option Value} {news : List (Addr × Obj)} {o : Obj} {kvs : List (Str × Value)} {k : Str} {t : Tok} {Q : Value → Shared → Prop}
theorem item_S {v : Value} {value slice : PySem.Expr} (N : News h₀ L s.heap news) (hp : (d, o) ∈ news) (hd : o.IsDictOf (PySem.strKind prog w) kvs) (hv : valueAt kvs k = some v) (h : Q v { s with toks := s.toks + 1 })
    (hs' : subscripted slice false (.ref d) (.str k t) = operate [.ref d, .str k t] (getItem (.ref d) (.str k t)) ) :
    wpAny (model prog w) A (subscriptTail value slice (.ref d) (.str k t)) Q E s := kdt_tail N hp hd (kdt_getItem N hp hd (strKind_is _ _ _ _) hv h) hs'
end
end
section
theorem lr_some {RL : List LR} {k : Int} {q : LR} (h : RL.find? (fun q => decide (q.k = k)) = some q) : valueAt (lrKvs RL) k = some (.ref q.il) := by
  unfold valueAt lrKvs
  rw [List.find?_map]
  have : ((fun kv : Int × Value => decide (kv.1 = k)) ∘ fun q : LR => (q.k, Value.ref q.il)) = fun q => decide (q.k = k) := rfl
  rw [this, h]; rfl
theorem lr_none {RL : List LR} {k : Int} (h : RL.find? (fun q => decide (q.k = k)) = none) : valueAt (lrKvs RL) k = none := by
  unfold valueAt lrKvs
  rw [List.find?_map]
  have : ((fun kv : Int × Value => decide (kv.1 = k)) ∘ fun q : LR => (q.k, Value.ref q.il)) = fun q => decide (q.k = k) := rfl
  rw [this, h]; rfl
theorem allLt_mem {d : Addr} {l : List (Addr × Obj)} (h : AllLt d l) : ∀ p ∈ l, p.1 ≠ d := by
  induction l with
  | nil => intro p hp; cases hp
  | cons x r ih =>
    intro p hp
    obtain ⟨h1, h2⟩ := h
    rcases List.mem_cons.mp hp with e | hp
    · rw [e]; exact Nat.ne_of_lt h1
    · exact ih h2 p hp
def lawCalled (e w : Option (List Int)) : List Int := w.getD [] ++ e.getD []
theorem off_cons {a D : Nat} {o : Obj} {r : List (Addr × Obj)} (h : a < D) (hr : ∀ p ∈ r, p.1 ≠ D) : ∀ p ∈ ((a, o) :: r : List (Addr × Obj)), p.1 ≠ D := by
  intro p hp
  cases hp with
  | head _ => exact Nat.ne_of_lt h
  | tail _ m => exact hr p m
end
section
theorem memOf {x : Addr × Obj} {l : List (Addr × Obj)} (h : x ∈ l) : List.Mem x l := h
end
end
section
section
theorem wtRBase2 : True := by
  w_top off
  trivial
theorem same_list {h : Heap} : ∀ {a b : List (Addr × Obj)}, a.map (·.1) = b.map (·.1) → Holds h a → Holds h b → a = b
  | [], [], _, _, _ => rfl
  | [], _ :: _, e, _, _ => by simp at e
  | _ :: _, [], e, _, _ => by simp at e
  | x :: r, y :: q, e, ha, hb => by
    simp only [List.map_cons, List.cons.injEq] at e
    have h1 := ha x (.head _)
    have h2 := hb y (.head _)
    rw [e.1, h2] at h1
    have h3 : x = y := Prod.ext e.1 (Option.some.inj h1).symm
    rw [h3, same_list e.2 (fun p hp => ha p (.tail _ hp)) fun p hp => hb p (.tail _ hp)]
theorem own_rec {prog : Program} {w : World} {RC : Addr} {r : RecSt} {ws : List (Addr × Obj)} {h : Heap} (O : Own (Rec prog w RC r) ws) (hh : Holds h ws) : ∃ P : RecP, ws = P.objs RC ∧ RecL prog w RC P r := by
  obtain ⟨P, e, l, k⟩ := O h hh
  exact ⟨P, same_list e hh k, l⟩
theorem rec_own {prog : Program} {w : World} {RC : Addr} {r : RecSt} {P : RecP} (l : RecL prog w RC P r) : Own (Rec prog w RC r) (P.objs RC) := fun _ hh => ⟨P, rfl, l, hh⟩
theorem own_listV {v : Value} {ns : List Int} {ws : List (Addr × Obj)} {h : Heap} (O : Own (ListV v ns) ws) (hh : Holds h ws) : ∃ D vs c, v = .ref D ∧ ws = [(D, listOf vs.toArray c)] ∧ IntsAre vs ns := by
  refine hideG fun GG hGG => ?_
  obtain ⟨D, vs, c, rfl, e, k, iv⟩ := O h hh
  refine hGG ?_; clear hGG GG
  refine ⟨D, vs, c, rfl, same_list (h := h) (by simpa using e) hh (fun p hp => ?_), iv⟩
  rw [List.mem_singleton.mp hp]; exact k
/-- one function of a hook, on the record's side and on the program's -/
def VarSt.fn (x : VarSt) (told : List Ev) (w f : Int) : VarSt := x.put (f % 6) (100 + (told.length + 1 : Nat))
def hookedR (r : RecSt) (w : Int) : List Int → RecSt
  | [] => r
  | f :: fs => hookedR { r with told := r.told ++ [.fn w f], x := r.x.fn r.told w f } w fs
theorem hookedR_snoc {r : RecSt} {w : Int} {l : List Int} {f : Int} : hookedR r w (l ++ [f]) = (let q := hookedR r w l; { q with told := q.told ++ [.fn w f], x := q.x.fn q.told w f }) := by
  induction l generalizing r with
  | nil => rfl
  | cons x l ih => exact ih
theorem hookedR_take {r : RecSt} {w : Int} {l : List Int} {i : Nat} {f : Int} (h : l[i]? = some f) : hookedR r w (l.take (i + 1)) = (let q := hookedR r w (l.take i); { q with told := q.told ++ [.fn w f], x := q.x.fn q.told w f }) := by
  rw [List.take_add_one, h]
  exact hookedR_snoc
theorem hookedR_told {r : RecSt} {w : Int} {l : List Int} : (hookedR r w l).told.length = r.told.length + l.length := by
  induction l generalizing r with
  | nil => rfl
  | cons x l ih => rw [hookedR, ih]; simp; omega
section
variable {prog : Program} {w : World} {A : Around} {E : Value → Shared → Prop} {s : Shared} {h₀ : Heap} {L : Addr} {m : Str → Option Value} {news : List (Addr × Obj)}
theorem app_T {D : Addr} {ys : List Value} {n : Nat} {x : Value} {g : Obj → List (Addr × Obj)} {Q : Value → Shared → Prop} (F : Fr h₀ L s.heap m) (N : News h₀ L s.heap news) (U : UpdF D (listOf ys.toArray n) news g) (hz : ys.length ≤ sizeLine)
    (h : ∀ h', Fr h₀ L h' m → News h₀ L h' (g (listOf (ys ++ [x]).toArray (n + 1))) → Q .none { s with heap := h' }) : wpAny (model prog w) A (call (.builtin "list.append") [.ref D, x]) Q E s := by
  refine hideG fun GG hGG => ?_
  obtain ⟨pre, post, rfl, hg, a, b⟩ := U.split
  refine hGG ?_; clear hGG GG
  have z := N (D, listOf ys.toArray n) (List.mem_append.mpr (.inr (.head _)))
  refine append_at (hsz := by rw [List.size_toArray]; exact hz) z.1 fun h' hs ho' => h h' (F.change hs z.2.1 z.2.2) ?_
  rw [hg, show (ys ++ [x]).toArray = ys.toArray.push x by simp]
  exact news_set N a b hs ho'
theorem len_T {D : Addr} {ys : List Value} {n : Nat} {Q : Value → Shared → Prop} (N : News h₀ L s.heap news) (hm : (D, listOf ys.toArray n) ∈ news) (hz : ys.length ≤ sizeLine)
    (h : Q (.int ys.length (s.toks + 1)) { s with toks := s.toks + 1 + 1 }) : wpAny (model prog w) A (call (.builtin "len") [.ref D]) Q E s := by
  refine call_len_list (led_list N hm) ?_ ?_
  · rw [sizeLine_eq] at hz; rw [List.size_toArray]; omega
  · rw [List.size_toArray]; exact h
end
theorem ks_tell {RC a : Addr} {P : RecP} {o : Obj} {c : Nat} : ((RecP.objs RC { P with cT := c, TT := P.TT ++ [(a, o)] }).map (·.1)).Perm ((P.objs RC).map (·.1) ++ [a]) :=
  ks_add (x := (a, o)) (.of_eq ((List.append_assoc _ _ _).trans (congrArg _ (List.append_assoc _ _ _))).symm)
/-- the record with one more event told -/
theorem RecL.tell {prog : Program} {w : World} {RC : Addr} {P : RecP} {r : RecSt} (l : RecL prog w RC P r) {e : Ev} {a : Addr} {vs : List Value} {n c : Nat} (x : EvIs e vs) (new : ∀ p ∈ P.objs RC, p.1 ≠ a) :
    RecL prog w RC { P with cT := c, TT := P.TT ++ [(a, tupOf vs n)] } { r with told := r.told ++ [e] } := by
  refine ⟨nd_add (ks_tell (c := c)) l.nd (nin_map new), l.dRC, l.lRC, l.lD, l.lO', l.lA, l.lK, l.lE, l.lR, l.iD, l.iO, l.iA, l.iK, l.iE, l.iR, l.xD, l.xO, l.xA, l.xK, l.kE, l.kR, l.fE, l.fR, l.vE, l.vR, l.von, l.tt.snoc x⟩
theorem refs_snoc {TT : List (Addr × Obj)} {a : Addr} {o : Obj} : refs (TT ++ [(a, o)]) = refs TT ++ [.ref a] := by simp [refs]
theorem tell_fst {RC : Addr} {P : RecP} {a x : Addr} {o : Obj} {c : Nat} (h1 : ∀ p ∈ P.objs RC, p.1 ≠ x) (h2 : a ≠ x) : ∀ p ∈ RecP.objs RC { P with cT := c, TT := P.TT ++ [(a, o)] }, p.1 ≠ x :=
  map_nin (nin_add (ks_tell (c := c)) (nin_map h1) h2)
theorem objs_tell {RC a : Addr} {P : RecP} {o : Obj} {c : Nat} : RecP.objs RC { P with cT := c, TT := P.TT ++ [(a, o)] } = (RC, P.oRC) :: (P.dD, P.oD) :: (P.dO, P.oO) :: (P.dA, P.oA) :: (P.dK, P.oK) :: (P.dE, P.oE) :: (P.dR, P.oR) :: (P.lO, listOf P.von.toArray P.cO) :: (P.lT, listOf (refs P.TT ++ [Value.ref a]).toArray c) :: (P.rest ++ [(a, o)]) := by
  rw [← refs_snoc (o := o)]
  exact congrArg (fun l => (RC, P.oRC) :: (P.dD, P.oD) :: (P.dO, P.oO) :: (P.dA, P.oA) :: (P.dK, P.oK) :: (P.dE, P.oE) :: (P.dR, P.oR) :: (P.lO, listOf P.von.toArray P.cO) :: (P.lT, listOf (refs (P.TT ++ [(a, o)])).toArray c) :: l) ((List.append_assoc _ _ _).trans (congrArg _ (List.append_assoc _ _ _))).symm
theorem fmod6 (f : Int) : f.fmod 6 = f % 6 := Int.fmod_eq_emod_of_nonneg _ (by decide)
/-- one mode's body, on the record's side -/
def bodiedR (r : RecSt) (m : Int) : RecSt :=
  { r with told := r.told ++ [Ev.body m], x := ({ r.x with own := setAt r.x.own m (some (some (10 + m))) } : VarSt).put (5 - m) (20 + m), rows := if m % 2 = 1 then setAt r.rows m (some [30 + m]) else r.rows }
theorem lrKvs_new {RL : List LR} {q : LR} (h : RL.find? (fun p => decide (p.k = q.k)) = none) : lrKvs (RL ++ [q]) = stored (lrKvs RL) q.k (.ref q.il) := by
  rw [stored_absent (lr_none h)]
  simp [lrKvs]
theorem lrF_new {RL : List LR} {q : LR} (h : RL.find? (fun p => decide (p.k = q.k)) = none) (k : Int) : lrF (RL ++ [q]) k = setAt (lrF RL) q.k (some q.ns) k := by
  unfold lrF setAt
  rw [List.find?_append]
  by_cases e : k = q.k
  · subst e
    rw [if_pos rfl, h]
    simp
  · rw [if_neg e]
    have : ([q].find? fun p => decide (p.k = k)) = none := by simp [Ne.symm e]
    rw [this, Option.or_none]
/-- the record with its own values changed -/
theorem RecL.setOwn {prog : Program} {w : World} {RC : Addr} {P : RecP} {r : RecSt} (l : RecL prog w RC P r) {o : Obj} {kvs : List (Int × Value)} {f : Int → Option (Option Int)} (d : o.IsDictOf (PySem.intKind prog w) kvs) (x : CellsD kvs f) :
    RecL prog w RC { P with oO := o, kO := kvs } { r with x := { r.x with own := f } } := by
  exact ⟨l.nd, l.dRC, l.lRC, l.lD, l.lO', l.lA, l.lK, l.lE, l.lR, l.iD, d, l.iA, l.iK, l.iE, l.iR, l.xD, x, l.xA, l.xK, l.kE, l.kR, l.fE, l.fR, l.vE, l.vR, l.von, l.tt⟩
theorem ks_row {RC : Addr} {P : RecP} {o : Obj} {q : LR} : ((RecP.objs RC { P with oR := o, WL := P.WL ++ [q] }).map (·.1)).Perm ((P.objs RC).map (·.1) ++ [q.il]) :=
  ks_add (x := q.obj) (by
    show (P.EL.map LR.obj ++ ((P.WL ++ [q]).map LR.obj ++ P.TT)).Perm ((P.EL.map LR.obj ++ (P.WL.map LR.obj ++ P.TT)) ++ [q.obj])
    rw [List.map_append, List.append_assoc (P.EL.map LR.obj)]
    exact (perm_mid (q := q.obj)).append_left _)
/-- the record with one more row -/
theorem RecL.row {prog : Program} {w : World} {RC : Addr} {P : RecP} {r : RecSt} (l : RecL prog w RC P r) {o : Obj} {k : Int} {a : Addr} {n : Nat} {vs : List Value} {ns : List Int} (h : P.WL.find? (fun p => decide (p.k = k)) = none)
    (d : o.IsDictOf (PySem.intKind prog w) (stored (lrKvs P.WL) k (.ref a))) (iv : IntsAre vs ns) (h0 : 0 ≤ k) (h9 : k < 9) (new : ∀ p ∈ P.objs RC, p.1 ≠ a) :
    RecL prog w RC { P with oR := o, WL := P.WL ++ [⟨k, a, n, vs, ns⟩] } { r with rows := setAt r.rows k (some ns) } := by
  refine ⟨nd_add ks_row l.nd (nin_map new), l.dRC, l.lRC, l.lD, l.lO', l.lA, l.lK, l.lE, l.lR, l.iD, l.iO, l.iA, l.iK, l.iE, by rw [lrKvs_new (q := ⟨k, a, n, vs, ns⟩) h]; exact d, l.xD, l.xO, l.xA, l.xK, l.kE, by rw [lrKvs_new (q := ⟨k, a, n, vs, ns⟩) h]; exact l.kR.stored h0 h9, l.fE, fun k' => ?_, l.vE, allA l.vR (allC iv allN), l.von, l.tt⟩
  rw [lrF_new (q := ⟨k, a, n, vs, ns⟩) h]
  dsimp only [setAt]
  split
  · rfl
  · exact l.fR k'
theorem row_fst {RC : Addr} {P : RecP} {o : Obj} {q : LR} {x : Addr} (h1 : ∀ p ∈ P.objs RC, p.1 ≠ x) (h2 : q.il ≠ x) : ∀ p ∈ RecP.objs RC { P with oR := o, WL := P.WL ++ [q] }, p.1 ≠ x :=
  map_nin (nin_add ks_row (nin_map h1) h2)
end
end
section
section
theorem wtPBase : True := by
  w_top off
  trivial
/-- the list D holds the whole numbers ns -/
def Deck (D : Addr) (ns : List Int) : Comp := fun fp h => fp = [D] ∧ ∃ vs c, h.get? D = some (listOf vs.toArray c) ∧ IntsAre vs ns
theorem deck_good {D : Addr} {ns : List Int} : Good (Deck D ns) where
  nodup := by rintro fp h ⟨rfl, _⟩; simp
  alive := by rintro fp h ⟨rfl, vs, c, e, _⟩ a ha; rw [List.mem_singleton.mp ha]; exact ⟨_, e⟩
  keeps := by rintro fp h h' ⟨rfl, vs, c, e, iv⟩ k; exact ⟨rfl, vs, c, k _ _ (.head _) e, iv⟩
/-- one draw -/
def drawD (ns : List Int) (m : Int) : Int := match ns with | [] => 0 | x :: _ => x % m
section
variable {prog : Program} {w : World} {A : Around} {E : Value → Shared → Prop} {s : Shared} {h₀ : Heap} {L : Addr} {m : Str → Option Value} {news : List (Addr × Obj)}
theorem updOf {D : Addr} {o o' : Obj} {pre post : List (Addr × Obj)} (a : ∀ p ∈ pre, p.1 ≠ D) (b : ∀ p ∈ post, p.1 ≠ D) : Upd D o o' (pre ++ (D, o) :: post) (pre ++ (D, o') :: post) := by
  induction pre with
  | nil => exact .head b
  | cons q r ih => exact .tail (a q (.head _)) (ih fun p hp => a p (.tail _ hp))
theorem pop0_T {D : Addr} {y : Value} {ys : List Value} {n : Nat} {u : Tok} {g : Obj → List (Addr × Obj)} {Q : Value → Shared → Prop} (F : Fr h₀ L s.heap m) (N : News h₀ L s.heap news) (U : UpdF D (listOf (y :: ys).toArray n) news g) (hz : ys.length + 1 ≤ sizeLine)
    (h : ∀ h', Fr h₀ L h' m → News h₀ L h' (g (listOf ys.toArray (n + 1))) → Q y { s with heap := h' }) : wpAny (model prog w) A (call (.builtin "list.pop") [.ref D, .int 0 u]) Q E s := by
  refine hideG fun GG hGG => ?_
  obtain ⟨pre, post, rfl, hg, a, b⟩ := U.split
  refine hGG ?_; clear hGG GG
  have z := N (D, listOf (y :: ys).toArray n) (List.mem_append.mpr (.inr (.head _)))
  refine kl_popAt (its := (y :: ys).toArray) (n := n) (k := 0) (p := []) (q := ys) (news' := pre ++ (D, listOf ([] ++ ys).toArray (n + 1)) :: post) F N rfl ?_ rfl ?_ (by simp only [List.length_cons]; exact hz) fun h' F' N' => h h' F' (hg _ ▸ N')
  · simp [seqIndex?]
  · exact updOf a b
end
end
end
section
open Sem (wp)
section
theorem wtDPair : True := by
  w_top off
  trivial
theorem list_keys_none : typeLookup (.type "list") "keys" = pure none := by rw [typeLookup_type, builtinLookup_eq_fast]; kernel_rfl
theorem keys_miss_list {prog : Program} {w : World} {A : Around} {E : Value → Shared → Prop} {s : Shared} {a : Addr} {xs : Array Value} {k : Nat} {Q : Option Value → Shared → Prop}
    (hx : s.heap.get? a = some (listOf xs k)) (hA : A.handled = none)
    (h : ∀ h' tk e, Heap.NewExcOf s.heap h' e "AttributeError" → Q none { s with heap := h', toks := tk }) :
    wpAny (model prog w) A (getAttr? (.ref a) "keys") Q E s := by
  obtain ⟨hp, g, d, tk, os⟩ := s
  have hT : ∀ tk', (⟨hp, g, d, tk', os⟩ : Shared).TypeIs (.ref a) "list" := fun _ => ⟨_, hx, rfl⟩
  have f1 := sub_AttributeError
  have f3 := F.slot_list_getattribute.lookup
  have f4 := F.slot_list_getattribute.bind (.ref a)
  have f5 := am_list_getattr_none
  unfold getAttr? getAttrBy? getAttrBy
  repeat (any_goals (first | assumption | exact hT _ | ((with_reducible show wpAny _ _ (call (Value.builtin "list.__getattribute__") _ _) _ _ _); refine call_meets F.slot_list_getattribute (hT _) am_entry_list_getattribute (F.args_list_getattribute_2 _ _) (meets_getattribute_miss_list a xs k #[] "keys" _ list_keys_none (by decide) (by decide)) ⟨hx, hA, fun h' tk' e hx' => ?_⟩) | wp_step))
  obtain ⟨t', u', he⟩ := hx'.there
  show wpAny _ _ (getattributeRaised _ _ _ _ _ _ _) _ _ _
  unfold getattributeRaised
  repeat (any_goals (first | assumption | wp_step))
  exact h _ _ _ hx'.of
theorem entry_dict_loop : entryFor table "dict.update.loop" = some Builtin.«dict.update.loop» := entryFor_of_tree (by kernel_rfl)
theorem plain_dict_loop : plainId "dict.update.loop" = true := by decide +kernel
inductive PairsAre : List (Int × Value) → List (Addr × Obj) → Prop
  | nil : PairsAre [] []
  | cons {ps : List (Int × Value)} {tt : List (Addr × Obj)} (k : Int) (t : Tok) (v : Value) (a : Addr) (n : Nat) : PairsAre ps tt → PairsAre ((k, v) :: ps) ((a, tupOf [.int k t, v] n) :: tt)
theorem PairsAre.length {ps : List (Int × Value)} {tt : List (Addr × Obj)} (h : PairsAre ps tt) : tt.length = ps.length := by
  induction h with
  | nil => rfl
  | cons _ _ _ _ _ _ ih => simp [ih]
theorem PairsAre.at {ps : List (Int × Value)} {tt : List (Addr × Obj)} (h : PairsAre ps tt) {i : Nat} {p : Int × Value} (e : ps[i]? = some p) : ∃ a t n, tt[i]? = some (a, tupOf [.int p.1 t, p.2] n) := by
  induction h generalizing i with
  | nil => simp at e
  | cons k t v a n _ ih =>
    cases i with
    | zero => simp at e; subst e; exact ⟨a, t, n, rfl⟩
    | succ i => exact ih (by simpa using e)
theorem PairsAre.snoc {ps : List (Int × Value)} {tt : List (Addr × Obj)} (h : PairsAre ps tt) (k : Int) (t : Tok) (v : Value) (a : Addr) (n : Nat) : PairsAre (ps ++ [(k, v)]) (tt ++ [(a, tupOf [.int k t, v] n)]) := by
  induction h with
  | nil => exact .cons k t v a n .nil
  | cons k' t' v' a' n' _ ih => exact .cons k' t' v' a' n' ih
section
variable {prog : Program} {w : World} {A : Around} {R : Result → Shared → Prop}
theorem dict_loop {ps : List (Int × Value)} {tt : List (Addr × Obj)} {S I l : Addr} {res : Value} (hA : A.handled = none) (hps : PairsAre ps tt) (hSI : S ≠ I) (hlS : l ≠ S) (hlI : l ≠ I) (htS : ∀ p ∈ tt, p.1 ≠ S) (htI : ∀ p ∈ tt, p.1 ≠ I) :
    ∀ (n i : Nat) (t : Tok) (acc : List (Int × Value)) (s : Shared), ps.length - i = n → i ≤ ps.length → acc.length + (ps.length - i) ≤ sizeLine → s.heap.DictOf (PySem.intKind prog w) S acc → s.heap.IsListIter I l i → s.heap.IsList l (refs tt).toArray → (∀ p ∈ tt, s.heap.get? p.1 = some p.2) →
      (∀ h' tk, (∀ b o, b ≠ S → b ≠ I → s.heap.get? b = some o → h'.get? b = some o) → h'.DictOf (PySem.intKind prog w) S (merged acc (ps.drop i)) → R (.ok (.ret res)) { s with heap := h', toks := tk }) →
      codeAny (model prog w) A (.builtin "dict.update.loop" ⟨[.ref S, .ref I, .int i t, res], []⟩) R s := by
  intro n
  induction n with
  | zero =>
    intro i t acc s hn hi hsz hS hI hl ht hR
    have e : i = ps.length := by omega
    subst e
    refine codeAny_builtin entry_dict_loop ?_
    rw [Around.under_plainId plain_dict_loop _]
    show wpAny _ A.in1 (pyNext (.ref I) >>= _) _ _ s
    refine wpAny_bind (wpAny_pyNext_list_end hA hI hl (by simp [refs, hps.length]) fun h' eb => ?_)
    show wpAny _ A.in1 (Builtin.Dict.addKeywords S [] >>= _) _ _ _
    refine wpAny_bind (wpAny_pure ?_)
    refine wpAny_pure (hR h' _ (fun b o _ hb e => eb b o hb e) ?_)
    rw [List.drop_length]
    obtain ⟨o, es, ep, ho, r⟩ := hS
    exact ⟨o, es, ep, eb _ _ hSI ho, r⟩
  | succ n ih =>
    intro i t acc s hn hi hsz hS hI hl ht hR
    have hlt : i < ps.length := by omega
    refine hideG fun GG hGG => ?_
    suffices kk : ∀ p, ps[i]? = some p → GG by exact kk _ (List.getElem?_eq_getElem hlt)
    intro p hp
    obtain ⟨T, tT, nT, hT⟩ := hps.at hp
    refine hGG ?_; clear hGG GG
    have hTm : (T, tupOf [.int p.1 tT, p.2] nT) ∈ tt := List.mem_of_getElem? hT
    refine codeAny_builtin entry_dict_loop ?_
    rw [Around.under_plainId plain_dict_loop _]
    show wpAny _ A.in1 (pyNext (.ref I) >>= _) _ _ s
    refine wpAny_bind (wpAny_pyNext_list_item (x := .ref T) hI hl (by simp [refs, hT]) fun h' hI' sb => ?_)
    have hS' : h'.DictOf (PySem.intKind prog w) S acc := by
      obtain ⟨o, es, ep, ho, r⟩ := hS
      exact ⟨o, es, ep, (sb.2 _ hSI).trans ho, r⟩
    have hT' : h'.get? T = some (tupOf [.int p.1 tT, p.2] nT) := (sb.2 _ (htI _ hTm)).trans (ht _ hTm)
    have hTT : ∀ tk, ({ s with heap := h', toks := tk } : Shared).TypeIs (.ref T) "tuple" := fun _ => ⟨_, hT', rfl⟩
    refine wpAny_bind (wpAny_holding ?_)
    refine wpAny_bind (wpAny_tryCatch ?_)
    unfold Builtin.Dict.pairItems
    refine wpAny_bind (wpAny_typeOf (hTT _) ?_)
    rw [if_pos (by decide)]
    refine wpAny_bind (wpAny_seqItems hT' rfl (wpAny_pure ?_))
    show wpAny _ A.in1 (holding [.int p.1 tT, p.2] (dictSet S (.int p.1 tT) p.2)) _ _ _
    refine wpAny_holding (wpAny_dictSet_pairs (knd := PySem.intKind prog w) (intKind_is _ _ _ _) hS' (hsz := by omega) fun h2 hS2 sb2 => ?_)
    have hd : ps.drop i = p :: ps.drop (i + 1) := by
      rw [List.drop_eq_getElem_cons hlt]
      rw [List.getElem?_eq_getElem hlt] at hp
      rw [Option.some.inj hp]
    have hl2 := stored_length_le acc p.1 p.2
    refine wpAny_pure ⟨plainId_quiet plain_dict_loop _, ?_⟩
    refine ih (i + 1) _ (stored acc p.1 p.2) _ (by omega) hlt (by omega) hS2 ?_ ?_ (fun q hq => ?_) fun h' tk kp hd' => ?_
    · obtain ⟨o, ho, r⟩ := hI'
      exact ⟨o, (sb2.2 _ (Ne.symm hSI)).trans ho, r⟩
    · obtain ⟨o, ho, r⟩ := hl
      exact ⟨o, (sb2.2 _ hlS).trans ((sb.2 _ hlI).trans ho), r⟩
    · exact (sb2.2 _ (htS q hq)).trans ((sb.2 _ (htI q hq)).trans (ht q hq))
    · refine hR h' tk (fun b o h1 h2 e => kp b o h1 h2 ((sb2.2 _ h1).trans ((sb.2 _ h2).trans e))) ?_
      rw [hd]
      exact hd'
end
end
end
section
theorem wtPBase2 : True := by
  w_top off
  trivial
/-- the list T tells the events es -/
def Told (T : Addr) (es : List Ev) : Comp := fun fp h => ∃ c TT, fp = T :: TT.map (·.1) ∧ (T :: TT.map (·.1)).Nodup ∧ Holds h ((T, listOf (refs TT).toArray c) :: TT) ∧ EvsAre es TT
theorem told_good {T : Addr} {es : List Ev} : Good (Told T es) where
  nodup := by rintro fp h ⟨c, TT, rfl, nd, _⟩; exact nd
  alive := by
    rintro fp h ⟨c, TT, rfl, nd, hh, _⟩ a ha
    rcases List.mem_cons.mp ha with rfl | ha
    · exact ⟨_, hh _ (.head _)⟩
    · obtain ⟨p, hp, rfl⟩ := List.mem_map.mp ha
      exact ⟨_, hh p (.tail _ hp)⟩
  keeps := by
    rintro fp h h' ⟨c, TT, rfl, nd, hh, ev⟩ k
    refine ⟨c, TT, rfl, nd, fun p hp => ?_, ev⟩
    rcases List.mem_cons.mp hp with rfl | hp
    · exact k _ _ (.head _) (hh _ (.head _))
    · exact k _ _ (.tail _ (List.mem_map_of_mem hp)) (hh p (.tail _ hp))
/-- the told list and its tuples in a ledger -/
theorem own_told {T : Addr} {es : List Ev} {ws : List (Addr × Obj)} {h : Heap} (O : Own (Told T es) ws) (hh : Holds h ws) : ∃ c TT, ws = (T, listOf (refs TT).toArray c) :: TT ∧ (T :: TT.map (·.1)).Nodup ∧ EvsAre es TT := by
  refine hideG fun GG hGG => ?_
  obtain ⟨c, TT, e, nd, k, ev⟩ := O h hh
  refine hGG ?_; clear hGG GG
  exact ⟨c, TT, same_list (h := h) (by simpa using e) hh k, nd, ev⟩
theorem told_own {T : Addr} {es : List Ev} {c : Nat} {TT : List (Addr × Obj)} (nd : (T :: TT.map (·.1)).Nodup) (ev : EvsAre es TT) : Own (Told T es) ((T, listOf (refs TT).toArray c) :: TT) := fun _ hh => ⟨c, TT, rfl, nd, hh, ev⟩
/-- the state of a buffer's modes: S with its dict, the list of the minor modes -/
def ModeS (S : Addr) (major : Int) (on : List Int) : Comp := fun fp h => ∃ d l k1 k2 t1 t2 tm c vs, fp = [S, d, l] ∧ [S, d, l].Nodup ∧ IntsAre vs on ∧
  Holds h [(S, instObj 163 d), (d, dictOf [⟨k1, .str "major" t1, .int major tm⟩, ⟨k2, .str "on" t2, .ref l⟩] 2), (l, listOf vs.toArray c)]
theorem modeS_good {S : Addr} {major : Int} {on : List Int} : Good (ModeS S major on) where
  nodup := by rintro fp h ⟨d, l, k1, k2, t1, t2, tm, c, vs, rfl, nd, _⟩; exact nd
  alive := by
    rintro fp h ⟨d, l, k1, k2, t1, t2, tm, c, vs, rfl, nd, iv, hh⟩ a ha
    simp only [List.mem_cons, List.not_mem_nil, or_false] at ha
    rcases ha with rfl | rfl | rfl
    · exact ⟨_, hh _ (.head _)⟩
    · exact ⟨_, hh _ (.tail _ (.head _))⟩
    · exact ⟨_, hh _ (.tail _ (.tail _ (.head _)))⟩
  keeps := by
    rintro fp h h' ⟨d, l, k1, k2, t1, t2, tm, c, vs, rfl, nd, iv, hh⟩ k
    refine ⟨d, l, k1, k2, t1, t2, tm, c, vs, rfl, nd, iv, fun p hp => k p.1 p.2 ?_ (hh p hp)⟩
    simp only [List.mem_cons, List.not_mem_nil, or_false] at hp
    rcases hp with rfl | rfl | rfl <;> simp
end
section
section
theorem wtRangeL : True := by
  w_top off
  trivial
section
variable {prog : Program} {w : World} {A : Around} {s : Shared} {env : Env} {E : Value → Shared → Prop}
/-- a loop over a range of n numbers from a on, the invariant as in Iter_led -/
theorem Iter_range {target : Expr} {body : List Stmt} {Q : Flow → Shared → Prop} {g : Heap} {L : Addr} (hh : A.handled = none) {r : Addr} {a b : Int} {t u v : Tok} {n : Nat} {m₀ : Str → Option Value} {nw₀ : List (Addr × Obj)}
    (hr : IsRange s.heap r a b 1 t u v) (hsmall : Builtin.Range.small a b 1 = true) (hn : Builtin.Range.rangeSize a b 1 = (n : Int)) (F0 : Fr g L s.heap m₀) (N0 : News g L s.heap nw₀) (J : Nat → (Str → Option Value) → List (Addr × Obj) → Prop) (j0 : J 0 m₀ nw₀)
    (turn : ∀ i it oi h tk m nw t', i < n → J i m nw → (∀ p ∈ nw, p.1 ≠ it) → Fr g L h m → News g L h ((it, oi) :: nw) →
      wpAny (model prog w) A (assign target env (.int (a + (i : Int)) t')) (fun _ s₂ => wpAny (model prog w) A (execs body env) (fun f s₃ => match f with
        | .next | .cont => LedEnd s g L it oi (J (i + 1)) s₃
        | .brk => Q .next s₃
        | .ret v => Q (.ret v) s₃) (fun _ _ => False) s₂) (fun _ _ => False) { s with heap := h, toks := tk })
    (done : ∀ h tk m nw, J n m nw → Fr g L h m → News g L h nw → Q .next { s with heap := h, toks := tk })
    (ht : ∀ it v, letOwnedTupleGo target it v = pure ()) :
    wpAny (model prog w) A (pyIter (.ref r)) (fun it s₂ => codeAny (model prog w) A (.forLoop target it body [] env) (fun r s' => match r with | .ok f => Q f s' | .error e => cameBackBy (model prog w) A env E e s') s₂) E s :=
  wpAny_pyIter_range hr hsmall (led_G (s := s) (n := n) (fun i o => o = { cls := .type "range_iterator", data := .fields #[rawInt (a + (i : Nat)), rawInt ((n : Int) - (i : Nat)), rawInt 1] }) (fun i v => ∃ t, v = .int (a + (i : Nat)) t) J (F0.push _) (N0.push F0 _) (fun p hp => Nat.ne_of_lt (Heap.lt_size (N0 p hp).1)) (by rw [hn]; simp) j0
    (fun i h tk m nw oi Q' E' hi j F N sh k => wpAny_pyNext_range_item (s := { s with heap := h, toks := tk }) (it := s.heap.objs.size) (x := a + (i : Nat)) (left := (n : Int) - (i : Nat)) (step := 1) ((N _ (.head _)).1.trans (congrArg some sh)) (by omega) fun h' e sb => k h' (tk + 1) _ _ ⟨_, rfl⟩ (by rw [show a + ((i + 1 : Nat) : Int) = a + (i : Int) + 1 by push_cast; omega, show (n : Int) - ((i + 1 : Nat) : Int) = (n : Int) - (i : Int) - 1 by push_cast; omega]) e sb)
    (fun h tk m nw oi Q' E' j F N sh k => wpAny_pyNext_range_end (s := { s with heap := h, toks := tk }) (it := s.heap.objs.size) (x := a + (n : Nat)) (left := (n : Int) - (n : Nat)) (step := 1) hh ((N _ (.head _)).1.trans (congrArg some sh)) (by omega) k)
    (fun i oi v h tk Q' E' _ _ k => go_pure (ht _ _) k)
    (fun i v oi h tk m nw hi hv j off F N => let ⟨t, e⟩ := hv; e ▸ turn i _ oi h tk m nw t hi j off F N) done)
end
end
end
section
open Sem (wp)
section
theorem wtDPair2 : True := by
  w_top off
  trivial
section
variable {prog : Program} {w : World} {A : Around} {E : Value → Shared → Prop} {s : Shared} {h₀ : Heap} {L : Addr} {m : Str → Option Value} {news : List (Addr × Obj)}
theorem frExt {h h' : Heap} (F : Fr h₀ L h m) (k : ∀ b o, h.get? b = some o → h'.get? b = some o) : Fr h₀ L h' m := by
  refine hideG fun GG hGG => ?_
  obtain ⟨⟨oL, es, ep, hL, r⟩, kp, ab⟩ := F
  refine hGG ?_; clear hGG GG
  exact ⟨⟨oL, es, ep, k _ _ hL, r⟩, fun b o e => k _ _ (kp b o e), ab⟩
theorem newsExt {h h' : Heap} (N : News h₀ L h news) (k : ∀ b o, h.get? b = some o → h'.get? b = some o) : News h₀ L h' news := fun p hp => ⟨k _ _ (N p hp).1, (N p hp).2⟩
theorem dict_pairs {ps : List (Int × Value)} {tt : List (Addr × Obj)} {l : Addr} {c : Nat} {Q : Value → Shared → Prop} (hA : A.handled = none) (hbig : sysModules < h₀.objs.size) (FF : Fr h₀ L s.heap m) (N : News h₀ L s.heap news) (hm : (l, listOf (refs tt).toArray c) ∈ news) (hps : PairsAre ps tt) (ht : ∀ p ∈ tt, p ∈ news) (nd : (ps.map (·.1)).Nodup) (hz : ps.length ≤ sizeLine)
    (k : ∀ d h' tk o, Fr h₀ L h' m → News h₀ L h' ((d, o) :: news) → (∀ p ∈ news, p.1 < d) → (d == sysModules) = false → o.IsDictOf (PySem.intKind prog w) ps → Q (.ref d) { s with heap := h', toks := tk }) :
    wpAny (model prog w) A (call (.type "dict") [.ref l]) Q E s := by
  have hl : s.heap.get? l = some (listOf (refs tt).toArray c) := (N _ hm).1
  refine callType_codes (Q₁ := fun obj s₁ => obj = .ref s.heap.objs.size ∧ s₁ = { s with heap := s.heap.push { cls := .type "dict", data := .dict #[] } }) F.kt_called_dict (F.kt_typeCall_dict_1 _) F.entry_dict_init (kt_code_dict_new _ ⟨rfl, rfl⟩) ?_
  rintro obj s₁ ⟨rfl, rfl⟩
  have hnew : (s.heap.push { cls := .type "dict", data := .dict #[] }).DictOf (PySem.intKind prog w) s.heap.objs.size [] := Heap.DictOf.new s.heap
  refine ⟨hnew.typeIs, F.args_dict_init_2 _ _, ?_⟩
  have hl2 : (s.heap.push { cls := .type "dict", data := .dict #[] }).get? l = some (listOf (refs tt).toArray c) := by
    rw [Heap.get?_push_ne _ _ _ (Nat.ne_of_lt (Heap.lt_size hl))]; exact hl
  unfold Builtin.«dict.__init__»
  refine wpAny_bind ?_
  unfold Builtin.Dict.selfAndRest
  refine wpAny_bind (wpAny_notOrdered_dict hnew.typeIs ?_)
  show wpAny _ _ (pure (s.heap.objs.size, [Value.ref l])) _ _ _
  refine wpAny_pure ?_
  show wpAny _ _ (Builtin.Dict.updateFrom "dict.__init__" s.heap.objs.size (.ref l) [] .none) _ _ _
  unfold Builtin.Dict.updateFrom
  refine wpAny_bind (wpAny_typeOf (T := "list") ⟨_, hl2, rfl⟩ ?_)
  rw [if_pos (by decide)]
  refine wpAny_bind (keys_miss_list hl2 hA fun h1 tk1 e1 hx => ?_)
  rw [if_pos (by rfl)]
  refine wpAny_bind (wpAny_rule ?_)
  refine wpAny_bind (wpAny_pyIter_list (items := (refs tt).toArray) ⟨_, hx.keeps _ _ hl2, rfl, _, rfl⟩ ?_)
  refine wpAny_pure ⟨plainId_quiet plain_dict_loop _, ?_⟩
  have al : ∀ b o, s.heap.get? b = some o → h1.get? b = some o := fun b o e => hx.keeps _ _ (by
    show (s.heap.push _).get? b = _
    rw [Heap.get?_push_ne _ _ _ (Nat.ne_of_lt (Heap.lt_size e))]; exact e)
  obtain ⟨oS, hoS, dS⟩ := Heap.dictOf_iff.mp hnew
  have hS1 : h1.get? s.heap.objs.size = some oS := hx.keeps _ _ hoS
  have hSlt : @LT.lt Nat _ s.heap.objs.size h1.objs.size := Heap.lt_size hS1
  have hllt : @LT.lt Nat _ l s.heap.objs.size := Heap.lt_size hl
  have htlt : ∀ p ∈ tt, @LT.lt Nat _ p.1 s.heap.objs.size := fun p hp => Heap.lt_size (N p (ht p hp)).1
  have pk : ∀ (x : Obj) b o, h1.get? b = some o → (h1.push x).get? b = some o := fun x b o e => by
    rw [Heap.get?_push_ne _ _ _ (Nat.ne_of_lt (Heap.lt_size e))]; exact e
  refine dict_loop (A := A.in1) (ps := ps) (tt := tt) (S := s.heap.objs.size) (I := h1.objs.size) (l := l) (res := .none) hA hps (Nat.ne_of_lt hSlt) (Nat.ne_of_lt hllt) (Nat.ne_of_lt (Nat.lt_trans hllt hSlt)) (fun p hp => Nat.ne_of_lt (htlt p hp)) (fun p hp => Nat.ne_of_lt (Nat.lt_trans (htlt p hp) hSlt)) ps.length 0 _ [] _ rfl (Nat.zero_le _) (by simpa using hz) ?_ ?_ ?_ (fun p hp => ?_) fun h' tk kp hd => ?_
  · exact Heap.dictOf_iff.mpr ⟨oS, pk _ _ _ hS1, dS⟩
  · exact ⟨_, Heap.get?_push_size _ rfl, rfl, rfl⟩
  · exact ⟨_, pk _ _ _ (al _ _ hl), rfl, _, rfl⟩
  · exact pk _ _ _ (al _ _ (N p (ht p hp)).1)
  · rw [List.drop_zero, merged_nil_of_nodup _ nd] at hd
    obtain ⟨o', ho', d'⟩ := Heap.dictOf_iff.mp hd
    have keep : ∀ b o, s.heap.get? b = some o → h'.get? b = some o := fun b o e => kp b o (Nat.ne_of_lt (Heap.lt_size e)) (Nat.ne_of_lt (Nat.lt_trans (Heap.lt_size e) hSlt)) (pk _ _ _ (al _ _ e))
    have NP := News.push FF N { cls := .type "dict", data := .dict #[] }
    refine ⟨rfl, k _ h' _ o' (frExt FF keep) (fun p hp => ?_) (fun p hp => Heap.lt_size (N p hp).1) (FF.notModules hbig) d'⟩
    rcases List.mem_cons.mp hp with rfl | hp
    · exact ⟨ho', (NP _ (.head _)).2⟩
    · exact newsExt N keep p hp
end
end
end
section
section
theorem wtClo0 : True := by
  w_top off
  trivial
def stmtAt : List Stmt → Nat → Stmt
  | x :: _, 0 => x
  | _ :: r, n + 1 => stmtAt r n
  | [], _ => .Pass ⟨0, 0, 0, 0⟩
def bodyOf : Stmt → List Stmt
  | .FunctionDef _ _ b _ _ _ _ _ _ _ => b
  | _ => []
def fnO (d : Stmt) (qual : Str) (cl : List (Str × Addr)) (doc pm : Value) (c : Addr) (ctv : Value) : Obj := match d with
  | .FunctionDef name params body _ _ _ scope _ _ _ => fnMade name qual params body scope cl doc pm c ctv
  | _ => default
def lawBody : List Stmt := bodyOf (stmtAt PySem.Challenge.pw_pq0278_01.main.body 37)
def calledD : Stmt := stmtAt lawBody 5
def hookedD : Stmt := stmtAt lawBody 6
def doD : Stmt := stmtAt lawBody 7
/-- what lies still in the law's frame: the cells, the nested defs and their codes -/
structure LS where
  T : Addr
  V : Addr
  H : Addr
  HK : Addr
  R : Addr
  cVar : Addr
  cTold : Addr
  cRows : Addr
  cHooks : Addr
  cHooked : Addr
  cHere : Addr
  cCalled : Addr
  oVar : Obj
  oTold : Obj
  oRows : Obj
  oHooks : Obj
  oHooked : Obj
  oHere : Obj
  oCalled : Obj
  fC : Addr
  kC : Addr
  xC : Obj
  qC : Str
  dC : Value
  pC : Value
  tC : Value
  fH : Addr
  kH : Addr
  xH : Obj
  qH : Str
  dH : Value
  pH : Value
  tH : Value
  fD : Addr
  kD : Addr
  xD : Obj
  qD : Str
  dD : Value
  pD : Value
  tD : Value
abbrev LS.called (q : LS) : Obj := fnO calledD q.qC [("variables", q.cVar), ("told_here", q.cTold), ("here", q.cHere)] q.dC q.pC q.kC q.tC
abbrev LS.hooked (q : LS) : Obj := fnO hookedD q.qH [("rows", q.cRows), ("hooks", q.cHooks), ("called", q.cCalled)] q.dH q.pH q.kH q.tH
abbrev LS.do (q : LS) : Obj := fnO doD q.qD [("variables", q.cVar), ("told_here", q.cTold), ("rows", q.cRows), ("hooked", q.cHooked), ("here", q.cHere)] q.dD q.pD q.kD q.tD
def LS.st1 (q : LS) : List (Addr × Obj) := [(q.fC, q.called), (q.kC, q.xC), (q.cVar, q.oVar), (q.cTold, q.oTold), (q.cHere, q.oHere)]
def LS.st2 (q : LS) : List (Addr × Obj) := (q.fH, q.hooked) :: (q.kH, q.xH) :: (q.cRows, q.oRows) :: (q.cHooks, q.oHooks) :: (q.cCalled, q.oCalled) :: q.st1
def LS.st3 (q : LS) : List (Addr × Obj) := (q.fD, q.do) :: (q.kD, q.xD) :: (q.cHooked, q.oHooked) :: q.st2
theorem LS.m12 {q : LS} {p : Addr × Obj} (h : p ∈ q.st1) : p ∈ q.st2 := List.Mem.tail _ (List.Mem.tail _ (List.Mem.tail _ (List.Mem.tail _ (List.Mem.tail _ h))))
theorem LS.m23 {q : LS} {p : Addr × Obj} (h : p ∈ q.st2) : p ∈ q.st3 := List.Mem.tail _ (List.Mem.tail _ (List.Mem.tail _ h))
structure LS.Ok (q : LS) : Prop where
  var : q.oVar.data = .cell (some (.ref q.V))
  told : q.oTold.data = .cell (some (.ref q.T))
  rows : q.oRows.data = .cell (some (.ref q.R))
  hooks : q.oHooks.data = .cell (some (.ref q.HK))
  hooked : q.oHooked.data = .cell (some (.ref q.fH))
  here : q.oHere.data = .cell (some (.ref q.H))
  called : q.oCalled.data = .cell (some (.ref q.fC))
  codeC : ∃ vs t, q.xC.data = .fields vs ∧ vs[1]? = some (.str q.qC t)
  codeH : ∃ vs t, q.xH.data = .fields vs ∧ vs[1]? = some (.str q.qH t)
  codeD : ∃ vs t, q.xD.data = .fields vs ∧ vs[1]? = some (.str q.qD t)
section
variable {M : Model} {A : Around} {E : Value → Shared → Prop} {s : Shared} {h₀ : Heap} {L a : Addr} {m : Str → Option Value} {cn : Str} {cs : Scope} {ccd : Value} {cl : List (Str × Addr)} {x : Str} {pos : Pos} {v : Value} {Q : Value → Shared → Prop} {c : Addr} {oc : Obj}
/-- a free name, its cell in the base -/
theorem nameX_FB (F : Fr h₀ L s.heap m) (hc : cl.lookup x = some c) (hv : h₀.get? c = some oc) (hd : oc.data = .cell (some v)) (h : Q v s)
    (hk : cs.kind = .function) (hx : (envX cn cs L a ccd cl).kindOf x = some .free) (hb : (x == ("__debug__" : Str)) = false) (hn : (x == ("__classdict__" : Str)) = false) :
    wpAny M A (eval (.Name x pos) (envX cn cs L a ccd cl)) Q E s := wpAny_Name (wpAny_loadName_free hk hx hc ⟨_, F.keep _ _ hv, hd⟩ h hn) hb
end
end
end
section
section
theorem wtTab0 : True := by
  w_top off
  trivial
/-- a mode of the table: its object, its dict -/
structure MR where
  k : Int
  M : Addr
  d : Addr
  h1 : Int
  h2 : Int
  h3 : Int
  h4 : Int
  h5 : Int
  h6 : Int
  h7 : Int
  t1 : Tok
  t2 : Tok
  t3 : Tok
  t4 : Tok
  t5 : Tok
  t6 : Tok
  t7 : Tok
  tk : Tok
  tm : Tok
  tp : Tok
def MR.objs (q : MR) : List (Addr × Obj) := [(q.M, instObj 58 q.d), (q.d, dictOf [⟨q.h1, .str "symbol" q.t1, .int q.k q.tk⟩, ⟨q.h2, .str "title" q.t2, .str "m" q.tm⟩, ⟨q.h3, .str "parent" q.t3, .int (q.k - 1) q.tp⟩, ⟨q.h4, .str "keymap" q.t4, .none⟩, ⟨q.h5, .str "syntax" q.t5, .none⟩, ⟨q.h6, .str "body" q.t6, .none⟩, ⟨q.h7, .str "hook" q.t7, .none⟩] 7)]
def mrKvs (l : List MR) : List (Int × Value) := l.map fun q => (q.k, Value.ref q.M)
structure TabL (prog : Program) (w : World) (TB d mj : Addr) (oD oM : Obj) (l : List MR) (n : Nat) : Prop where
  nd : (TB :: d :: mj :: (l.flatMap MR.objs).map (·.1)).Nodup
  iD : ∃ k1 k2 k3 t1 t2 t3 mi od, oD = dictOf [⟨k1, .str "majors" t1, .ref mj⟩, ⟨k2, .str "minors" t2, .ref mi⟩, ⟨k3, .str "order" t3, .ref od⟩] 3
  lo : (mj == sysModules) = false
  dM : oM.IsDictOf (PySem.intKind prog w) (mrKvs l)
  ks : l.map (·.k) = rangeKs 0 n
def tabObjs (TB d mj : Addr) (oD oM : Obj) (l : List MR) : List (Addr × Obj) := (TB, instObj 135 d) :: (d, oD) :: (mj, oM) :: l.flatMap MR.objs
/-- the table of modes with the modes 0, 1 .. n - 1, one behind another in line -/
def TableC (prog : Program) (w : World) (TB : Addr) (n : Nat) : Comp := fun fp h => ∃ d mj oD oM l, fp = (tabObjs TB d mj oD oM l).map (·.1) ∧ TabL prog w TB d mj oD oM l n ∧ Holds h (tabObjs TB d mj oD oM l)
theorem table_good {prog : Program} {w : World} {TB : Addr} {n : Nat} : Good (TableC prog w TB n) where
  nodup := by
    rintro fp h ⟨d, mj, oD, oM, l, rfl, t, k⟩
    exact t.nd
  alive := by
    rintro fp h ⟨d, mj, oD, oM, l, rfl, t, k⟩ a ha
    obtain ⟨p, hp, rfl⟩ := List.mem_map.mp ha
    exact ⟨_, k p hp⟩
  keeps := by
    rintro fp h h' ⟨d, mj, oD, oM, l, rfl, t, k⟩ z
    exact ⟨d, mj, oD, oM, l, rfl, t, fun p hp => z p.1 p.2 (List.mem_map_of_mem hp) (k p hp)⟩
theorem own_table {prog : Program} {w : World} {TB : Addr} {n : Nat} {ws : List (Addr × Obj)} {h : Heap} (O : Own (TableC prog w TB n) ws) (hh : Holds h ws) : ∃ d mj oD oM l, ws = tabObjs TB d mj oD oM l ∧ TabL prog w TB d mj oD oM l n := by
  refine hideG fun GG hGG => ?_
  obtain ⟨d, mj, oD, oM, l, e, t, k⟩ := O h hh
  refine hGG ?_; clear hGG GG
  exact ⟨d, mj, oD, oM, l, same_list (h := h) e hh k, t⟩
theorem table_own {prog : Program} {w : World} {TB d mj : Addr} {oD oM : Obj} {l : List MR} {n : Nat} (t : TabL prog w TB d mj oD oM l n) : Own (TableC prog w TB n) (tabObjs TB d mj oD oM l) := fun _ hh => ⟨d, mj, oD, oM, l, rfl, t, hh⟩
theorem four {l : List MR} (h : l.map (·.k) = rangeKs 0 4) : ∃ a b c d, l = [a, b, c, d] ∧ a.k = 0 ∧ b.k = 1 ∧ c.k = 2 ∧ d.k = 3 := by
  have e : rangeKs 0 4 = [0, 1, 2, 3] := by rfl
  rw [e] at h
  rcases l with _ | ⟨a, _ | ⟨b, _ | ⟨c, _ | ⟨d, _ | ⟨e, r⟩⟩⟩⟩⟩
  case cons.cons.cons.cons.nil =>
    simp only [List.map_cons, List.map_nil, List.cons.injEq] at h
    exact ⟨a, b, c, d, rfl, h.1, h.2.1, h.2.2.1, h.2.2.2.1⟩
  all_goals simp at h
section
variable {prog : Program} {w : World} {A : Around} {E : Value → Shared → Prop} {s : Shared} {h₀ : Heap} {L d : Addr} {m : Str → Option Value} {news : List (Addr × Obj)} {o : Obj} {kvs : List (Int × Value)} {k : Int} {t : Tok} {Q : Value → Shared → Prop}
theorem notin_V {v : Value} (N : News h₀ L s.heap news) (hp : (d, o) ∈ news) (hd : o.IsDictOf (PySem.intKind prog w) kvs) (lo : (d == sysModules) = false) (hv : valueAt kvs k = some v) (h : Q (.bool false) { s with toks := s.toks + 1 }) :
    wpAny (model prog w) A (compareOp .NotIn (.int k t) (.ref d)) Q E s := kdg_notin N hp hd lo (intKind_is _ _ _ _) true (by rw [hv]; rfl) h
end
end
end
section
theorem wtLoopT : True := by
  w_top off
  trivial
end
section
section
theorem wtLoopU : True := by
  w_top off
  trivial
section
variable {prog : Program} {w : World} {A : Around} {s : Shared} {env : Env} {E : Value → Shared → Prop}
theorem go_tup {target : Expr} {I l : Addr} {i : Nat} {v : Value} {Q' : Unit → Shared → Prop} {E' : Value → Shared → Prop} {s' : Shared} (hit : s'.heap.IsTupleIter I l i) (h : Q' () s') :
    wpAny (model prog w) A (letOwnedTupleGo target (.ref I) v) Q' E' s' := by
  obtain ⟨o, ho, hc, hd⟩ := hit
  unfold letOwnedTupleGo
  cases target <;> first
    | exact wpAny_pure h
    | (cases v <;> first
        | exact wpAny_pure h
        | (refine wpAny_bind (wpAny_load ho ?_)
           rw [hc, hd]
           exact wpAny_pure h))
theorem Iter_tup {target : Expr} {body : List Stmt} {Q : Flow → Shared → Prop} {g : Heap} {L : Addr} (hh : A.handled = none) {l : Addr} {items : Array Value} {m₀ : Str → Option Value} {nw₀ : List (Addr × Obj)} (F0 : Fr g L s.heap m₀) (N0 : News g L s.heap nw₀) (J : Nat → (Str → Option Value) → List (Addr × Obj) → Prop)
    (src : ∀ i m nw h, J i m nw → Fr g L h m → News g L h nw → h.IsTuple l items) (j0 : J 0 m₀ nw₀)
    (turn : ∀ i v it oi h tk m nw, items[i]? = some v → J i m nw → (∀ p ∈ nw, p.1 ≠ it) → Fr g L h m → News g L h ((it, oi) :: nw) →
      wpAny (model prog w) A (assign target env v) (fun _ s₂ => wpAny (model prog w) A (execs body env) (fun f s₃ => match f with
        | .next | .cont => LedEnd s g L it oi (J (i + 1)) s₃
        | .brk => Q .next s₃
        | .ret v => Q (.ret v) s₃) (fun _ _ => False) s₂) (fun _ _ => False) { s with heap := h, toks := tk })
    (done : ∀ h tk m nw, J items.size m nw → Fr g L h m → News g L h nw → Q .next { s with heap := h, toks := tk }) :
    wpAny (model prog w) A (pyIter (.ref l)) (fun it s₂ => codeAny (model prog w) A (.forLoop target it body [] env) (fun r s' => match r with | .ok f => Q f s' | .error e => cameBackBy (model prog w) A env E e s') s₂) E s :=
  wpAny_pyIter_tuple (src _ _ _ _ j0 F0 N0) (led_G (s := s) (n := items.size) (fun i o => o.cls = .type "tuple_iterator" ∧ o.data = .fields #[.ref l, .int i 0]) (fun i v => items[i]? = some v) J (F0.push _) (N0.push F0 _) (fun p hp => Nat.ne_of_lt (Heap.lt_size (N0 p hp).1)) ⟨rfl, rfl⟩ j0
    (fun i h tk m nw oi Q' E' hi j F N sh k => wpAny_pyNext_tuple_item ⟨oi, (N _ (.head _)).1, sh⟩ (src _ _ _ _ j F fun p hp => N p (.tail _ hp)) (Array.getElem?_eq_getElem hi) fun h' ⟨oj, e, sh'⟩ sb => k h' tk _ oj (Array.getElem?_eq_getElem hi) sh' e sb)
    (fun h tk m nw oi Q' E' j F N sh k => wpAny_pyNext_tuple_end hh ⟨oi, (N _ (.head _)).1, sh⟩ (src _ _ _ _ j F fun p hp => N p (.tail _ hp)) (Array.getElem?_eq_none (Nat.le_refl _)) k)
    (fun i oi v h tk Q' E' sh e k => go_tup (s' := { s with heap := h, toks := tk }) ⟨oi, e, sh⟩ k)
    (fun i v oi h tk m nw _ => turn i v _ oi h tk m nw) done)
end
end
end
section
open PySem PySem.W PyProof.Rows PySem.Calls PySem.Spec
set_option maxHeartbeats 2000000
section
theorem wtDComp : True := by
  w_top off
  trivial
theorem kwDComp1 : True := by
  k_with "tlg_ne" => first | exact List.Mem.head _ | (apply List.Mem.tail; tlg_ne) | (apply List.mem_append_left; tlg_ne) | (apply List.mem_append_right; tlg_ne)
  k_with "lcg_off" => first | exact List.Subset.refl _ | exact List.nil_subset _ | (refine List.Sublist.subset ?_; (repeat first | exact List.Sublist.refl _ | apply List.Sublist.cons_cons | apply List.Sublist.cons); done) | (refine Mine.subC ?_ ?_; (focus tlg_ne); lcg_off) | (refine Mine.subA ?_ ?_ <;> lcg_off) | (apply List.subset_cons_of_subset; lcg_off) | (apply List.subset_append_of_subset_left; lcg_off) | (apply List.subset_append_of_subset_right; lcg_off)
  trivial
open LCg LCt
section
variable {prog : Program} {w : World} {A : Around} {E : Value → Shared → Prop} {s : Shared} {h₀ : Heap} {L : Addr} {m : Str → Option Value} {env : Env}
def SrcD (prog : Program) (w : World) (A : Around) (h₀ : Heap) (L : Addr) (m : Str → Option Value) (env : Env) (ct elt : Expr) (x : Str) (scope : Scope) (cl : List (Str × Addr)) (Fin : Shared → List Value → List (Addr × Obj) → Prop) (xv : Value) (s₁ : Shared) : Prop :=
  ∃ d o kvs news, xv = .ref d ∧ A.handled = none ∧ (d == sysModules) = false ∧ Fr h₀ L s₁.heap m ∧ News h₀ L s₁.heap news ∧ (d, o) ∈ news ∧ o.IsDictOf (PySem.intKind prog w) kvs ∧ kvs.length ≤ sizeLine ∧
    ∀ s₂ : Shared, (∃ h, s₂ = { s₁ with heap := h }) → CompRestT prog w A h₀ L m env ct elt x scope cl s₂ (fun nw => (d, o) ∈ nw) (fun i v => ∃ k y, kvs[i]? = some (k, y) ∧ (PySem.intKind prog w).is k v = true) (Fin s₂) kvs.length 0 [] news
theorem ListComp_D {ct elt iter : Expr} {x : Str} {px : Pos} {scope : Scope} {cl : List (Str × Addr)} {pos : Pos} {Q : Value → Shared → Prop} (F₀ : Fr h₀ L s.heap m)
    (hclos : closureFor scope env = pure cl) (hcell : ∀ y ∈ scope.names, y.2 ≠ .cell) (hkind : scope.kind = .function)
    (hnames : ∀ y ∈ scope.names, y.2 = .local → scope.names.lookup y.1 = some .local) (hx : scope.names.lookup x = some .local)
    (h : wpAny (model prog w) A (eval iter env) (SrcD prog w A h₀ L m env ct elt x scope cl (fun s₂ => FinE h₀ L m s₂ Q)) E s)
    (hs : ∀ x, foldedSetIterable iter env x = pure x) :
    wpAny (model prog w) A (eval (.ListComp elt [⟨.Name x px, iter, [ct], 0⟩] scope pos) env) Q E s := by
  rw [eval_ListComp]
  refine wpAny_comprehension_free (use := none) rfl hs hclos hkind hnames (wpAny_mono h (fun xv s₁ h₁ => ?_) fun _ _ e => e)
  refine hideG fun GG hGG => ?_
  obtain ⟨d, o, kvs, news, rfl, hh, lo, F, N, hm, hd, hsz, R⟩ := h₁
  obtain ⟨ep, ha⟩ := KdkAt.of hd
  refine hGG ?_; clear hGG GG
  have hdo := (N _ hm).1
  have hlt : d < s₁.heap.objs.size := Heap.lt_size hdo
  refine wpAny_pyIter_dict lo (ha.dictAt hdo) ?_
  have up : ∀ b o, s₁.heap.get? b = some o → (s₁.heap.push { cls := .type "dict_keyiterator", data := .fields #[.ref d, .int 0 0, .int kvs.length 0, .int ep 0] }).get? b = some o := fun b o e => Heap.get?_push_of_some _ e
  refine block_T (St := fun i h => h.IsKeyIter s₁.heap.objs.size d i kvs.length ep ∧ h.DictAt (PySem.intKind prog w) d kvs ep) (S := fun nw => (d, o) ∈ nw) (Walks.dictKeys hh s₁.heap.objs.size d (Nat.ne_of_lt hlt) kvs ep) hsz (fun i h st => by obtain ⟨o, e, _⟩ := st.1; exact ⟨o, e⟩)
    (fun i h h' oI nw st e e' k N S => ⟨st.1.at fun o' q => by rw [e] at q; cases q; exact e', ha.dictAt (N _ S).1⟩) hcell hkind hx ⟨⟨_, Heap.get?_push_size _ rfl, rfl, rfl⟩, ha.dictAt (up _ _ hdo)⟩ (fun b hb => ?_)
    (F.keeps up) (N.grown up) (Nat.ne_of_lt F.ns.lt) (next_is_new F) (fun p hp => Nat.ne_of_lt (Heap.lt_size (N p hp).1)) hm (R _ ⟨_, rfl⟩) ?_
  · show b < (s₁.heap.push _).objs.size
    rw [Heap.size_push]
    rcases List.mem_cons.mp hb with rfl | hb
    · exact Nat.lt_succ_self _
    · rw [List.mem_singleton.mp hb]; exact Nat.lt_succ_of_lt hlt
  · intro D C h tk m' ys news' F' N' o1 hn hC₀ hD₀ hCL hDL hCD offC fin
    refine ⟨m', hn, fun h'' hs'' => fin D h'' tk (F'.change hs'' hCL hC₀) (fun p hp => ?_) o1⟩
    refine ⟨hs''.extBut _ _ ?_ (N' p hp).1, (N' p hp).2⟩
    rcases List.mem_cons.mp hp with rfl | hp
    · exact Ne.symm hCD
    · exact offC p hp
end
section
variable {prog : Program} {w : World} {A : Around} {h₀ : Heap} {L : Addr} {m : Str → Option Value} {env : Env} {ct elt : Expr} {x : Str} {scope : Scope} {cl : List (Str × Addr)} {s : Shared} {S : List (Addr × Obj) → Prop} {Fin : List Value → List (Addr × Obj) → Prop} {news : List (Addr × Obj)}
def PairT (h₀ : Heap) (L : Addr) (m : Str → Option Value) (s₁ : Shared) (led : List (Addr × Obj)) (k : Int) (v : Value) (y : Value) (s₂ : Shared) : Prop :=
  ∃ T t n h' tk, y = .ref T ∧ s₂ = { s₁ with heap := h', toks := tk } ∧ Fr h₀ L h' m ∧ News h₀ L h' ((T, tupOf [.int k t, v] n) :: led) ∧ ∀ p ∈ led, p.1 ≠ T
theorem memAppR {x : Addr × Obj} {a b : List (Addr × Obj)} (h : x ∈ b) : List.Mem x (a ++ b) := List.mem_append_right a h
theorem refs_app {tt : List (Addr × Obj)} {a : Addr} {o : Obj} : refs (tt ++ [(a, o)]) = refs tt ++ [.ref a] := by simp [refs]
theorem pair_rest {p : Int → Bool} {kvs : List (Int × Value)} (hS : ∀ tt, S (news ++ tt))
    (turn : ∀ k v t I oI C oC D m₂ ys h tk tt (E' : Value → Shared → Prop), (k, v) ∈ kvs → NsObj oC m₂ → m₂ x = some (.int k t) → Fr h₀ L h m → News h₀ L h ((I, oI) :: (C, oC) :: (D, lst ys) :: (news ++ tt)) → ((@Ne Nat I C) ∧ (@Ne Nat I D) ∧ (@Ne Nat C D)) →
      wpAny (model prog w) A (isTrue ct (compEnvC scope cl C env) (eval ct (compEnvC scope cl C env))) (FltT h₀ L m { s with heap := h, toks := tk } ((I, oI) :: (C, oC) :: (D, lst ys) :: (news ++ tt)) (p k)) E' { s with heap := h, toks := tk })
    (elm : ∀ k v t I oI C oC D m₂ ys h tk tt (E' : Value → Shared → Prop), (k, v) ∈ kvs → NsObj oC m₂ → m₂ x = some (.int k t) → Fr h₀ L h m → News h₀ L h ((I, oI) :: (C, oC) :: (D, lst ys) :: (news ++ tt)) → ((@Ne Nat I C) ∧ (@Ne Nat I D) ∧ (@Ne Nat C D)) →
      wpAny (model prog w) A (eval elt (compEnvC scope cl C env)) (PairT h₀ L m { s with heap := h, toks := tk } ((I, oI) :: (C, oC) :: (D, lst ys) :: (news ++ tt)) k v) E' { s with heap := h, toks := tk })
    (fin : ∀ tt, PairsAre (kvs.filter fun q => p q.1) tt → Fin (refs tt) (news ++ tt)) : CompRestT prog w A h₀ L m env ct elt x scope cl s S (fun i v => ∃ k y, kvs[i]? = some (k, y) ∧ (PySem.intKind prog w).is k v = true) Fin kvs.length 0 [] news := by
  have key : ∀ (j i : Nat) (tt : List (Addr × Obj)), i + j = kvs.length → PairsAre ((kvs.take i).filter fun q => p q.1) tt → CompRestT prog w A h₀ L m env ct elt x scope cl s S (fun i v => ∃ k y, kvs[i]? = some (k, y) ∧ (PySem.intKind prog w).is k v = true) Fin j i (refs tt) (news ++ tt) := by
    intro j
    induction j with
    | zero =>
      intro i tt hij hy
      have e : i = kvs.length := by omega
      subst e
      rw [List.take_length] at hy
      exact CompRestT.zero (fin tt hy)
    | succ j ih =>
      intro i tt hij hy
      refine CompRestT.succ ?_
      rintro v I oI C oC D m₂ h tk E' ⟨k, y, hk, hkv⟩ hC hx F N off ne
      obtain ⟨t, rfl⟩ : ∃ t, v = .int k t := isInt_shape hkv
      have hmem := List.mem_of_getElem? hk
      have hs : ∀ b, p k = b → ((kvs.take (i + 1)).filter fun q => p q.1) = ((kvs.take i).filter fun q => p q.1) ++ (if b then [(k, y)] else []) := by
        intro b hb
        rw [List.take_add_one, hk]
        cases b <;> simp [List.filter_append, hb]
      refine wpAny_mono (turn k y t I oI C oC D m₂ _ h tk tt E' hmem hC hx F N ne) (fun b s₂ hq => ?_) fun _ _ e => e
      refine hideG fun GG hGG => ?_
      obtain ⟨hb, h', tk', rfl, F', N'⟩ := hq
      refine hGG ?_; clear hGG GG
      cases b with
      | true =>
        simp only [if_true]
        refine wpAny_mono (elm k y t I oI C oC D m₂ _ h' tk' tt E' hmem hC hx F' N' ne) (fun z s₃ hz => ?_) fun _ _ e => e
        refine hideG fun GG hGG => ?_
        obtain ⟨T, t2, n2, h3, tk3, rfl, rfl, F3, N3, offT⟩ := hz
        refine hGG ?_; clear hGG GG
        refine ⟨h3, tk3, news ++ (tt ++ [(T, tupOf [.int k t2, y] n2)]), rfl, F3, fun q hq => N3 q ?_, Off3.of fun q hq => ?_, hS _, ?_⟩
        · refine subOf ?_ hq; lcg_off
        · have hq' : q ∈ news ++ tt ∨ q = (T, tupOf [.int k t2, y] n2) := by
            simp only [List.mem_append, List.mem_singleton] at hq ⊢
            rcases hq with h | h | h <;> simp [h]
          rcases hq' with h | rfl
          · exact off.mem q h
          · exact ⟨Ne.symm (offT (I, oI) (.head _)), Ne.symm (offT (C, oC) (.tail _ (.head _))), Ne.symm (offT (D, _) (.tail _ (.tail _ (.head _))))⟩
        · have z := ih (i + 1) (tt ++ [(T, tupOf [.int k t2, y] n2)]) (by omega) (by rw [hs true hb.symm]; exact hy.snoc k t2 y T n2)
          rw [refs_app] at z
          exact z
      | false =>
        simp only [Bool.false_eq_true, if_false]
        refine ⟨h', tk', news ++ tt, rfl, F', N', off, hS _, ih (i + 1) _ (by omega) ?_⟩
        rw [hs false hb.symm]
        simpa using hy
  have z := key kvs.length 0 [] (by omega) (by simp only [List.take_zero, List.filter_nil]; exact .nil)
  rw [List.append_nil] at z
  exact z
end
/-- one hook's run, on the record's side -/
def hookR (r : RecSt) (w : Int) : RecSt := hookedR r w (lawCalled (r.every w) (r.rows w))
theorem off_map2 {l ws : List (Addr × Obj)} (h : ∀ q ∈ l, ∀ p ∈ ws, p.1 ≠ q.1) : ∀ q ∈ l, q.1 ∉ ws.map (·.1) := fun q hq z => by
  obtain ⟨p, hp, e⟩ := List.mem_map.mp z
  exact h q hq p hp e
theorem valueAt_mem {kvs : List (Int × Value)} {k : Int} {v : Value} (nd : (kvs.map (·.1)).Nodup) (h : (k, v) ∈ kvs) : valueAt kvs k = some v := by
  unfold valueAt
  induction kvs with
  | nil => cases h
  | cons q r ih =>
    rw [List.map_cons, List.nodup_cons] at nd
    rw [List.find?_cons]
    rcases List.mem_cons.mp h with rfl | h
    · simp
    · have hne : q.1 ≠ k := fun e => nd.1 (e ▸ List.mem_map.mpr ⟨(k, v), h, rfl⟩)
      simp only [hne, decide_false, Bool.false_eq_true]
      exact ih nd.2 h
theorem hookedR_on {r : RecSt} {w : Int} {l : List Int} : (hookedR r w l).on = r.on := by
  induction l generalizing r with
  | nil => rfl
  | cons x l ih => rw [hookedR, ih]
theorem hookedR_every {r : RecSt} {w : Int} {l : List Int} : (hookedR r w l).every = r.every := by
  induction l generalizing r with
  | nil => rfl
  | cons x l ih => rw [hookedR, ih]
theorem hookedR_rows {r : RecSt} {w : Int} {l : List Int} : (hookedR r w l).rows = r.rows := by
  induction l generalizing r with
  | nil => rfl
  | cons x l ih => rw [hookedR, ih]
theorem hookedR_mode {r : RecSt} {w : Int} {l : List Int} : (hookedR r w l).mode = r.mode := by
  induction l generalizing r with
  | nil => rfl
  | cons x l ih => rw [hookedR, ih]
end
end
section
theorem wtSwLem : True := by
  w_top off
  trivial
theorem valueAt_filter {kvs : List (Int × Value)} {p : Int → Bool} {k : Int} : valueAt (kvs.filter fun q => p q.1) k = if p k then valueAt kvs k else none := by
  unfold valueAt
  induction kvs with
  | nil => simp
  | cons q r ih =>
    by_cases e : q.1 = k
    · subst e
      by_cases hp : p q.1 = true
      · simp [hp]
      · simp only [Bool.not_eq_true] at hp
        simp [hp] at ih ⊢
        exact ih
    · by_cases hp : p q.1 = true
      · rw [List.filter_cons, if_pos hp, List.find?_cons, List.find?_cons]
        simp only [e, decide_false]
        exact ih
      · rw [List.filter_cons, if_neg hp, List.find?_cons]
        simp only [e, decide_false]
        exact ih
theorem stored_three {dD dO dA dK dE dR lO lT d4 d5 d6 : Addr} {m : Int} {tm : Tok} : stored (stored (stored (recKvs dD dO dA dK dE dR lO lT m tm) (Str.ofString "own") (Value.ref d4)) (Str.ofString "rows") (Value.ref d5)) (Str.ofString "on") (Value.ref d6) = recKvs dD d4 dA dK dE d5 d6 lT m tm := by rfl
theorem CellsD.keep {kvs : List (Int × Value)} {f : Int → Option (Option Int)} (x : CellsD kvs f) (p : Int → Bool) : CellsD (kvs.filter fun q => p q.1) (fun k => if p k then f k else none) := by
  refine ⟨fun q hq => x.1 q (List.mem_filter.mp hq).1, fun k => ?_⟩
  rw [valueAt_filter]
  dsimp only
  by_cases h : p k = true
  · rw [if_pos h, if_pos h]; exact x.2 k
  · rw [if_neg h, if_neg h]; exact .none
/-- what a switch sheds, on the record's side -/
def shedR (r : RecSt) : RecSt := { r with x := { r.x with own := fun k => if r.x.kept k then r.x.own k else none }, rows := fun _ => none, on := r.on.filter fun i => decide (i = 40) }
theorem rest_shed {P : RecP} : List.Sublist ((P.EL.map LR.obj ++ P.TT).map fun p : Addr × Obj => p.1) (P.rest.map fun p : Addr × Obj => p.1) := ((List.sublist_append_right _ _).append_left _).map _
theorem RecL.shed {prog : Program} {w : World} {RC : Addr} {P : RecP} {r : RecSt} (l : RecL prog w RC P r) {a b c : Addr} {o ob oRC : Obj} {ys : List Value} {n : Nat} (loa : (a == sysModules) = false) (lob : (b == sysModules) = false)
    (dRC : oRC.IsDictOf (PySem.strKind prog w) (recKvs P.dD a P.dA P.dK P.dE b c P.lT r.mode P.tm)) (da : o.IsDictOf (PySem.intKind prog w) (P.kO.filter fun q => r.x.kept q.1)) (db : ob.IsDictOf (PySem.intKind prog w) [])
    (hys : IntsAre ys (r.on.filter fun i => decide (i = 40))) (na : ∀ p ∈ P.objs RC, p.1 ≠ a) (nb : ∀ p ∈ P.objs RC, p.1 ≠ b) (nc : ∀ p ∈ P.objs RC, p.1 ≠ c) (nab : a ≠ b) (nac : a ≠ c) (nbc : b ≠ c) :
    RecL prog w RC { P with oRC := oRC, dO := a, oO := o, kO := P.kO.filter fun q => r.x.kept q.1, dR := b, oR := ob, WL := [], lO := c, von := ys, cO := n } (shedR r) := by
  refine ⟨?_, dRC, l.lRC, l.lD, loa, l.lA, l.lK, l.lE, lob, l.iD, da, l.iA, l.iK, l.iE, db, l.xD, l.xO.keep _, l.xA, l.xK, l.kE, fun p hp => (nomatch hp), l.fE, fun k => rfl, l.vE, fun q hq => (nomatch hq), hys, l.tt⟩
  have n1 := nd_swap (l := [RC, P.dD]) (x := P.dO) (a := a) l.nd (nin_map na)
  have n2 := nd_swap (l := [RC, P.dD, a, P.dA, P.dK, P.dE]) (x := P.dR) (a := b) n1 (nin_swap (l := [RC, P.dD]) (x := P.dO) (nin_map nb) (Ne.symm nab))
  have n3 := nd_swap (l := [RC, P.dD, a, P.dA, P.dK, P.dE, b]) (x := P.lO) (a := c) n2 (nin_swap (l := [RC, P.dD, a, P.dA, P.dK, P.dE]) (x := P.dR) (nin_swap (l := [RC, P.dD]) (x := P.dO) (nin_map nc) (Ne.symm nac)) (Ne.symm nbc))
  exact ((rest_shed (P := P)).append_left [RC, P.dD, a, P.dA, P.dK, P.dE, b, c, P.lT]).nodup n3
theorem off1_mem {D : Addr} {l : List (Addr × Obj)} (h : LCg.Off1 D l) : ∀ p ∈ l, p.1 ≠ D := by
  induction l with
  | nil => intro p hp; cases hp
  | cons q r ih =>
    intro p hp
    rcases List.mem_cons.mp hp with rfl | hp
    · exact h.1
    · exact ih h.2 p hp
theorem foldl_rows_none {l : List Int} {r : RecSt} {w : Int} (hw : w ∉ l) (h : r.rows w = none) : (l.foldl bodiedR r).rows w = none := by
  induction l generalizing r with
  | nil => exact h
  | cons k l ih =>
    rw [List.foldl_cons]
    refine ih (fun z => hw (.tail _ z)) ?_
    unfold bodiedR
    dsimp only
    split
    · unfold setAt
      rw [if_neg (fun e : w = k => hw (by rw [e]; exact .head _))]; exact h
    · exact h
theorem foldl_told {l : List Int} {r : RecSt} : (l.foldl bodiedR r).told.length = r.told.length + l.length := by
  induction l generalizing r with
  | nil => rfl
  | cons k l ih =>
    rw [List.foldl_cons, ih]
    simp only [bodiedR, List.length_append, List.length_cons, List.length_nil]
    omega
theorem foldl_small {l : List Int} {r : RecSt} (h : ∀ w ns, r.rows w = some ns → ns.length < 60) : ∀ w ns, (l.foldl bodiedR r).rows w = some ns → ns.length < 60 := by
  induction l generalizing r with
  | nil => exact h
  | cons k l ih =>
    rw [List.foldl_cons]
    refine ih fun w ns e => ?_
    unfold bodiedR at e
    dsimp only at e
    split at e
    · unfold setAt at e
      split at e
      · cases e; simp
      · exact h w ns e
    · exact h w ns e
theorem foldl_every {l : List Int} {r : RecSt} : (l.foldl bodiedR r).every = r.every := by
  induction l generalizing r with
  | nil => rfl
  | cons k l ih => rw [List.foldl_cons, ih]; rfl
theorem shed_fst {RC : Addr} {P : RecP} {a b c x : Addr} {o ob oRC : Obj} {kO : List (Int × Value)} {ys : List Value} {n : Nat} (h1 : ∀ p ∈ P.objs RC, p.1 ≠ x) (ha : a ≠ x) (hb : b ≠ x) (hc : c ≠ x) :
    ∀ p ∈ RecP.objs RC { P with oRC := oRC, dO := a, oO := o, kO := kO, dR := b, oR := ob, WL := [], lO := c, von := ys, cO := n }, p.1 ≠ x :=
  map_nin fun z => nin_swap (l := [RC, P.dD, a, P.dA, P.dK, P.dE, b]) (x := P.lO) (nin_swap (l := [RC, P.dD, a, P.dA, P.dK, P.dE]) (x := P.dR) (nin_swap (l := [RC, P.dD]) (x := P.dO) (nin_map h1) (Ne.symm ha)) (Ne.symm hb)) (Ne.symm hc)
    (((rest_shed (P := P)).append_left [RC, P.dD, a, P.dA, P.dK, P.dE, b, c, P.lT]).subset z)
theorem range_at {n i : Nat} {f : Int} (h : (rangeKs 0 n)[i]? = some f) : f = (i : Int) ∧ i < n := by
  unfold rangeKs at h
  rw [List.getElem?_map] at h
  by_cases hi : i < n
  · rw [List.getElem?_range hi] at h
    simp at h
    exact ⟨h.symm, hi⟩
  · rw [List.getElem?_eq_none (by simpa using hi)] at h
    cases h
theorem range_new {n i : Nat} {f : Int} (h : (rangeKs 0 n)[i]? = some f) : f ∉ (rangeKs 0 n).take i := by
  obtain ⟨rfl, hi⟩ := range_at h
  intro z
  obtain ⟨j, hj, e⟩ := List.mem_iff_getElem.mp z
  rw [List.length_take] at hj
  simp [rangeKs] at e
  omega
theorem hookR_rows {r : RecSt} {w : Int} : (hookR r w).rows = r.rows := hookedR_rows
theorem hookR_every {r : RecSt} {w : Int} : (hookR r w).every = r.every := hookedR_every
theorem getD_small {o : Option (List Int)} (h : ∀ ns, o = some ns → ns.length < 60) : (o.getD []).length < 60 := by
  cases o with
  | none => decide
  | some z => exact h z rfl
theorem hookR_told {r : RecSt} {w : Int} (h1 : ∀ ns, r.rows w = some ns → ns.length < 60) (h2 : ∀ ns, r.every w = some ns → ns.length < 60) : (hookR r w).told.length ≤ r.told.length + 120 := by
  unfold hookR
  rw [hookedR_told, lawCalled, List.length_append]
  have a1 := getD_small h1
  have a2 := getD_small h2
  omega
theorem foldlH_rows {l : List Int} {r : RecSt} : (l.foldl hookR r).rows = r.rows := by
  induction l generalizing r with
  | nil => rfl
  | cons k l ih => rw [List.foldl_cons, ih, hookR_rows]
theorem foldlH_every {l : List Int} {r : RecSt} : (l.foldl hookR r).every = r.every := by
  induction l generalizing r with
  | nil => rfl
  | cons k l ih => rw [List.foldl_cons, ih, hookR_every]
theorem foldlH_told {l : List Int} {r : RecSt} (h1 : ∀ w ns, r.rows w = some ns → ns.length < 60) (h2 : ∀ w ns, r.every w = some ns → ns.length < 60) : (l.foldl hookR r).told.length ≤ r.told.length + 120 * l.length := by
  induction l generalizing r with
  | nil => exact Nat.le_refl _
  | cons k l ih =>
    rw [List.foldl_cons]
    have z := ih (r := hookR r k) (by rw [hookR_rows]; exact h1) (by rw [hookR_every]; exact h2)
    have y := hookR_told (h1 k) (h2 k)
    rw [List.length_cons]
    omega
/-- the whole switch, on the record's side -/
def switchedR (r : RecSt) (m : Int) : RecSt :=
  let ks := rangeKs 0 (m + 1 - 0).toNat
  let r2 := hookR { r with told := r.told ++ [Ev.change m] } 7
  let r4 := ks.foldl bodiedR (shedR r2)
  let r5 := ks.foldl hookR r4
  let r6 := hookR { r5 with told := r5.told ++ [Ev.behind m] } 8
  { r6 with mode := m }
theorem stored_mode {dD dO dA dK dE dR lO lT : Addr} {m m' : Int} {tm t' : Tok} : stored (recKvs dD dO dA dK dE dR lO lT m tm) (Str.ofString "mode") (Value.int m' t') = recKvs dD dO dA dK dE dR lO lT m' t' := by rfl
theorem RecL.setMode {prog : Program} {w : World} {RC : Addr} {P : RecP} {r : RecSt} (l : RecL prog w RC P r) {o : Obj} {m : Int} {t : Tok} (d : o.IsDictOf (PySem.strKind prog w) (recKvs P.dD P.dO P.dA P.dK P.dE P.dR P.lO P.lT m t)) :
    RecL prog w RC { P with oRC := o, tm := t } { r with mode := m } := by
  refine hideG fun GG hGG => ?_
  obtain ⟨nd, dRC, lRC, lD, lO', lA, lK, lE, lR, iD, iO, iA, iK, iE, iR, xD, xO, xA, xK, kE, kR, fE, fR, vE, vR, ivon, tt⟩ := l
  refine hGG ?_; clear hGG GG
  exact ⟨nd, d, lRC, lD, lO', lA, lK, lE, lR, iD, iO, iA, iK, iE, iR, xD, xO, xA, xK, kE, kR, fE, fR, vE, vR, ivon, tt⟩
end
section
open PySem PySem.W PyProof.Rows PySem.Calls PySem.Spec
set_option maxHeartbeats 2000000
section
theorem wtTupR : True := by
  w_top off
  trivial
open LCg
/-- pairs of numbers as tuples -/
inductive PairsA : List (Int × Int) → List (Addr × Obj) → Prop
  | nil : PairsA [] []
  | cons {x y : Int} {a : Addr} {t u : Tok} {n : Nat} {ps : List (Int × Int)} {tt : List (Addr × Obj)} : PairsA ps tt → PairsA ((x, y) :: ps) ((a, tupOf [.int x t, .int y u] n) :: tt)
theorem PairsA.length {ps : List (Int × Int)} {tt : List (Addr × Obj)} (h : PairsA ps tt) : tt.length = ps.length := by
  induction h with
  | nil => rfl
  | cons _ ih => simp [ih]
theorem PairsA.append {ps qs : List (Int × Int)} {tt uu : List (Addr × Obj)} (h : PairsA ps tt) (k : PairsA qs uu) : PairsA (ps ++ qs) (tt ++ uu) := by
  induction h with
  | nil => exact k
  | cons _ ih => exact .cons ih
theorem PairsA.at {ps : List (Int × Int)} {tt : List (Addr × Obj)} (h : PairsA ps tt) (i : Nat) (v : Value) (e : (refs tt)[i]? = some v) : ∃ a x y t u n, v = .ref a ∧ ps[i]? = some (x, y) ∧ (a, tupOf [.int x t, .int y u] n) ∈ tt := by
  induction h generalizing i with
  | nil => simp [refs] at e
  | @cons x y a t u n ps tt h ih =>
    cases i with
    | zero =>
      simp [refs] at e
      exact ⟨a, x, y, t, u, n, e.symm, rfl, .head _⟩
    | succ j =>
      simp only [refs, List.map_cons, List.getElem?_cons_succ] at e
      refine hideG fun GG hGG => ?_
      obtain ⟨a, x, y, t, u, n, h1, h2, h3⟩ := ih j e
      refine hGG ?_; clear hGG GG
      exact ⟨a, x, y, t, u, n, h1, by simpa using h2, .tail _ h3⟩
section
variable {prog : Program} {w : World} {A : Around} {h₀ : Heap} {L : Addr} {m : Str → Option Value} {env : Env} {elt : Expr} {x : Str} {scope : Scope} {cl : List (Str × Addr)} {s : Shared} {S : List (Addr × Obj) → Prop} {Fin : List Value → List (Addr × Obj) → Prop} {news : List (Addr × Obj)}
def TupT (h₀ : Heap) (L : Addr) (m : Str → Option Value) (s₁ : Shared) (led : List (Addr × Obj)) (c k : Int) (y : Value) (s₂ : Shared) : Prop :=
  ∃ T t u n h' tk, y = .ref T ∧ s₂ = { s₁ with heap := h', toks := tk } ∧ Fr h₀ L h' m ∧ News h₀ L h' ((T, tupOf [.int c t, .int k u] n) :: led) ∧ ∀ p ∈ led, p.1 ≠ T
theorem tup_rest {c : Int} {vs : List Value} {ns : List Int} (hi : IntsAre vs ns) (hS : ∀ tt, S (news ++ tt))
    (elm : ∀ k t I oI C oC D m₂ ys h tk tt (E' : Value → Shared → Prop), k ∈ ns → NsObj oC m₂ → m₂ x = some (.int k t) → Fr h₀ L h m → News h₀ L h ((I, oI) :: (C, oC) :: (D, lst ys) :: (news ++ tt)) → ((@Ne Nat I C) ∧ (@Ne Nat I D) ∧ (@Ne Nat C D)) →
      wpAny (model prog w) A (eval elt (compEnvC scope cl C env)) (TupT h₀ L m { s with heap := h, toks := tk } ((I, oI) :: (C, oC) :: (D, lst ys) :: (news ++ tt)) c k) E' { s with heap := h, toks := tk })
    (fin : ∀ tt, PairsA (ns.map fun k => (c, k)) tt → (tt.map (·.1)).Nodup → (∀ p ∈ tt, ∀ q ∈ news, p.1 ≠ q.1) → Fin (refs tt) (news ++ tt)) : CompRest prog w A h₀ L m env elt x scope cl s S (fun i v => vs.toArray[i]? = some v) Fin vs.toArray.size 0 [] news := by
  have hlen : vs.toArray.size = ns.length := by rw [List.size_toArray]; exact hi.length
  rw [hlen]
  have key : ∀ (j i : Nat) (tt : List (Addr × Obj)), i + j = ns.length → PairsA ((ns.take i).map fun k => (c, k)) tt → (tt.map (·.1)).Nodup → (∀ p ∈ tt, ∀ q ∈ news, p.1 ≠ q.1) → CompRest prog w A h₀ L m env elt x scope cl s S (fun i v => vs.toArray[i]? = some v) Fin j i (refs tt) (news ++ tt) := by
    intro j
    induction j with
    | zero =>
      intro i tt hij hy hn hd
      have e : i = ns.length := by omega
      subst e
      rw [List.take_length] at hy
      exact CompRest.zero (fin tt hy hn hd)
    | succ j ih =>
      intro i tt hij hy hn hd
      refine CompRest.succ ?_
      intro v I oI C oC D m₂ h tk E' hv hC hx F N off ne
      obtain ⟨k, t, hv', hk⟩ := IntsAre.at hi i v (by simpa using hv)
      rw [hv'] at hx
      have hs : ((ns.take (i + 1)).map fun k => (c, k)) = ((ns.take i).map fun k => (c, k)) ++ [(c, k)] := by
        rw [List.take_add_one, hk]
        simp
      refine wpAny_mono (elm k t I oI C oC D m₂ _ h tk tt E' (List.mem_of_getElem? hk) hC hx F N ne) (fun z s₃ hz => ?_) fun _ _ e => e
      refine hideG fun GG hGG => ?_
      obtain ⟨T, t2, u2, n2, h3, tk3, rfl, rfl, F3, N3, offT⟩ := hz
      refine hGG ?_; clear hGG GG
      refine ⟨h3, tk3, news ++ (tt ++ [(T, tupOf [.int c t2, .int k u2] n2)]), rfl, F3, fun q hq => N3 q ?_, Off3.of fun q hq => ?_, hS _, ?_⟩
      · refine subOf ?_ hq; lcg_off
      · have hq' : q ∈ news ++ tt ∨ q = (T, tupOf [.int c t2, .int k u2] n2) := by
          simp only [List.mem_append, List.mem_singleton] at hq ⊢
          rcases hq with h | h | h <;> simp [h]
        rcases hq' with h | rfl
        · exact off.mem q h
        · exact ⟨Ne.symm (offT (I, oI) (.head _)), Ne.symm (offT (C, oC) (.tail _ (.head _))), Ne.symm (offT (D, _) (.tail _ (.tail _ (.head _))))⟩
      · have z := ih (i + 1) (tt ++ [(T, tupOf [.int c t2, .int k u2] n2)]) (by omega) (by rw [hs]; exact hy.append (.cons .nil)) (by
          rw [List.map_append]
          refine List.nodup_append.mpr ⟨hn, by simp, fun y hy z hz e => ?_⟩
          simp only [List.map_cons, List.map_nil, List.mem_singleton] at hz
          obtain ⟨p, hp, h⟩ := List.mem_map.mp hy
          exact offT p (.tail _ (.tail _ (.tail _ (List.mem_append_right _ hp)))) (h.trans (e.trans hz))) (fun p hp q hq => by
          rcases List.mem_append.mp hp with hp | hp
          · exact hd p hp q hq
          · rw [List.mem_singleton.mp hp]
            exact Ne.symm (offT q (.tail _ (.tail _ (.tail _ (List.mem_append_left _ hq))))))
        rw [refs_app] at z
        exact z
  have z := key ns.length 0 [] (by omega) (by simp only [List.take_zero, List.map_nil]; exact .nil) (by simp) (fun p hp => (nomatch hp))
  rw [List.append_nil] at z
  exact z
end
end
end
section
theorem wtVars : True := by
  w_top off
  trivial
set_option maxHeartbeats 4000000
theorem kwVars1 : True := by
  k_with_none
  k_with "W1" => ((fail_if_success (with_reducible show wpAny _ _ (PySem.call (Value.ref _) _ _) _ _ _)); (fail_if_success (with_reducible show wpAny _ _ (pyIter _) _ _ _)); (fail_if_success (with_reducible show wpAny _ _ (PySem.exec (Stmt.For _ _ _ _ _) _) _ _ _)); first | (k_unfold; (try dsimp only)) | walk1 | (dsimp only; walk1) | fail "no step")
  k_with "k_enter" => (first | (refine' code_def (by k_asm) (by k_asm) (by k_asm) (by k_asm) (by k_asm) rfl rfl (by first | exact rfl | assumption) (by k_is) (by k_is) (by k_room) (by first | exact BindsTo.of_eq rfl | exact binds_K (by k_in) rfl (by k_is) rfl rfl rfl) (by exact locs rfl) ?_ (by exact rfl) (by exact rfl) (by exact rfl) (by decide); k_whole; intro _ _ _ _ _ _ Bz9 _ _; (try dsimp only); (try k_lift Bz9); (try k_fold)) | (refine' code_defC (by k_asm) (by k_asm) (by k_asm) (by k_asm) (by k_asm) rfl rfl (by first | exact rfl | assumption) (by k_is) (by k_is) (by k_room) (by first | exact BindsTo.of_eq rfl | exact binds_K (by k_in) rfl (by k_is) rfl rfl rfl) (by exact rfl) (by decide +kernel) ?_ (by exact rfl) (by exact rfl) (by exact rfl); k_whole; intro _ _ _ _ _ _ _ Nz9 Yz9 Bz9 _ _ lz9; (try k_lt lz9); k_cells Yz9; (try simp only [List.cons_append, List.nil_append] at Nz9); (try dsimp only); (try k_lift Bz9); (try k_fold)) | fail)
  k_with "execs cons" => (k_fold; (first | show wpAny _ AB (PySem.execs _ eB) _ _ _ | (show (let eB := _; let AB := _; wpAny _ AB (PySem.execs _ eB) _ _ _); intro eB AB)); refine wpAny_execs_cons ?_)
  k_with "omega" => first | exact Nat.le_of_ble_eq_true rfl | with_reducible assumption | exact Mine.o1 (by with_reducible assumption) (by exact rfl) | exact Mine.o3 (by with_reducible assumption) (by exact rfl) | exact Mine.o2 (by with_reducible assumption) (by exact rfl) | exact Mine.o4 (by with_reducible assumption) (by exact rfl) | exact Mine.o5 (by with_reducible assumption) (by exact rfl) | exact Mine.o6 (by with_reducible assumption) (by exact rfl) | exact Mine.o7 (by with_reducible assumption) (by exact rfl) | exact Mine.o8 (by with_reducible assumption) (by exact rfl) | exact Mine.o9 (by with_reducible assumption) (by exact rfl) | exact Mine.o10 (by with_reducible assumption) (by exact rfl) | exact Mine.o11 (by with_reducible assumption) (by exact rfl) | exact Mine.o12 (by with_reducible assumption) (by exact rfl) | exact Mine.o13 (by with_reducible assumption) (by exact rfl) | exact Nat.ne_of_lt (by with_reducible assumption) | exact Nat.ne_of_gt (by with_reducible assumption) | exact Nat.le_of_lt (by with_reducible assumption) | fail
  k_with "k_room" => ((try simp only [depth_deeper, depth_in1]); first | assumption | (show _ < 1000; (try dsimp only); omega))
  k_with "k_ne" => ((refine neN ?_); (try dsimp only); first | assumption | exact Ne.symm (by assumption))
  k_with "compareOp In int ref" => (k_here; k_dflt (first | (refine' in_C (by k_asm) (by k_mem) (by k_asm) (by k_asm) (by k_asm) ?_) | (refine' in_I (by k_asm) (by k_mem) (by k_asm) (by k_asm) (by k_asm) ?_) | (refine' in_B (by k_asm) (by k_mem) (by k_asm) (by k_asm) (by k_asm) ?_)))
  k_with "compareOp NotIn int ref" => (k_here; k_dflt ( (refine' notin_C (by k_asm) (by k_mem) (by k_asm) (by k_asm) (by k_asm) ?_)))
  k_with "call builtin:dict.get" => (k_here; k_dflt (first | (refine' get_I (by k_asm) (by k_mem) (by k_asm) (by k_asm) (by k_asm) ?_; refine ⟨fun _ _ _ => ?_, fun _ => ?_⟩) | (refine' get_B (by k_asm) (by k_mem) (by k_asm) (by k_asm) (by k_asm) ?_; (try simp only [Bool.or_false]))))
  k_with "getMethod ref" => (k_here; (with_reducible show wpAny _ _ (getMethod (Value.ref _) (Str.ofString "get") _) _ _ _); k_dflt (refine' kdg_method (knd := PySem.intKind _ _) (by k_asm) (by k_mem) (by k_asm) ?_))
  k_with "subscriptTail" => (k_here; (with_reducible show wpAny _ _ (subscriptTail _ _ (Value.ref _) (Value.int _ _)) _ _ _); k_dflt (refine' item_C (by k_asm) (by k_mem) (by k_asm) (by k_asm) (by k_asm) ?_ (by with_unfolding_all rfl); intro _ _ _ _))
  k_with "setItem ref int" => (k_here; k_dflt (refine' kda_set (knd := PySem.intKind _ _) (by k_asm) (by k_asm) (by k_updF) (by k_asm) (intKind_is _ _ _ _) (by exact KOK.line (by k_asm) (by k_asm)) ?_; intro hz9 oz9 Fz9 Nz9 hdz9; (try dsimp only at Nz9); (try k_sweep); revert hz9 oz9 Fz9 Nz9 hdz9; intro _ _ _ _ _))
  trivial
variable {prog : Program} {w : World} {p : Program} {loose : List Str} {mean : ExcName → Option Value} {mg mb : Str → Option Value}
theorem set_in_s {V H : Addr} {x : VarSt} {k i : Int} {t ti : Tok} (h0 : 0 ≤ k) (h9 : k < 9) : Spec prog w p loose mean mg mb 4 416 [.ref V, .ref H, .int k t, .int i ti] (Vars prog w V H x) (fun _ => Vars prog w V H (x.put k i)) := by
  refine vars_spec fun dp un gd cn cs a ccd cl outer A₀ base h₀ L m s Q E Vd df au pe Hd va odf oau ope ova kdf kau kpe kva k1 k2 k3 t1 t2 t3 n1 k4 t4 n2 B X T hke hdp hu I hk nd ddf dau dpe dva ldf lau lpe lva xdf xau xpe xva N _ _ _ _ _ _ _ _ _ _ _ _ _ _ _ _ _ _ _ _ _ _ _ _ _ _ _ _ => ?_
  have odf9 := xdf.1
  have oau9 := xau.1
  have ope9 := xpe.1
  have ova9 := xva.1
  have F := I.F
  refine wpAny_call ?_
  refine enter (K := hd.heap_1 w.params) (f := 416) (cl := []) B F X T N rfl rfl hke ((X.keeps F.keep) _ _ (by k_is)) rfl (codeRec_of (X.keeps F.keep) (by k_is)) (by k_room) (BindsTo.of_eq rfl) (locs rfl) ?_ (by decide) rfl rfl rfl
  intro g' L' h' keep gone fresh F' N' B' X' T' lt
  clear N F B X T
  try dsimp only
  k_fold
  repeat' (first | (k_unfold; (try dsimp only)) | walk1 | (dsimp only; walk1) | fail "no step")
  · (with_reducible rename (x.own k).isSome = _ => e1)
    rw [show x.put k i = { x with own := setAt x.own k (some (some i)) } by simp only [VarSt.put, e1, Bool.true_or, if_true]] at hk
    refine leafDone I keep gone (fun p hp => List.mem_map_of_mem (f := Prod.fst) hp) hk (by assumption) (by assumption) [V, Vd, df, au, pe, H, Hd, va] ?_ (fun a q => .inl q)
    exact vars_mk (by assumption) nd (by assumption) (by assumption) (by assumption) (by assumption) ldf lau lpe lva xdf xau xpe (xva.put (.some _ _) h0 h9)
  · (with_reducible rename (x.own k).isSome = _ => e1)
    (with_reducible rename x.auto k = _ => e2)
    rw [show x.put k i = { x with own := setAt x.own k (some (some i)) } by simp only [VarSt.put, e1, e2, Bool.or_true, if_true]] at hk
    refine leafDone I keep gone (fun p hp => List.mem_map_of_mem (f := Prod.fst) hp) hk (by assumption) (by assumption) [V, Vd, df, au, pe, H, Hd, va] ?_ (fun a q => .inl q)
    exact vars_mk (by assumption) nd (by assumption) (by assumption) (by assumption) (by assumption) ldf lau lpe lva xdf xau xpe (xva.put (.some _ _) h0 h9)
  · (with_reducible rename (x.own k).isSome = _ => e1)
    (with_reducible rename x.auto k = _ => e2)
    rw [show x.put k i = { x with dflt := setAt x.dflt k (some i) } by simp only [VarSt.put, e1, e2, Bool.or_false, Bool.false_eq_true, if_false]] at hk
    refine leafDone I keep gone (fun p hp => List.mem_map_of_mem (f := Prod.fst) hp) hk (by assumption) (by assumption) [V, Vd, df, au, pe, H, Hd, va] ?_ (fun a q => .inl q)
    exact vars_mk (by assumption) nd (by assumption) (by assumption) (by assumption) (by assumption) ldf lau lpe lva (xdf.put h0 h9) xau xpe xva
theorem value_in_s {V H : Addr} {x : VarSt} {k : Int} {t : Tok} : Spec prog w p loose mean mg mb 4 409 [.ref V, .ref H, .int k t] (Vars prog w V H x) (fun v fp h => Vars prog w V H x fp h ∧ IsOpt v (x.val k)) := by
  refine vars_spec fun dp un gd cn cs a ccd cl outer A₀ base h₀ L m s Q E Vd df au pe Hd va odf oau ope ova kdf kau kpe kva k1 k2 k3 t1 t2 t3 n1 k4 t4 n2 B X T hke hdp hu I hk nd ddf dau dpe dva ldf lau lpe lva xdf xau xpe xva N _ _ _ _ _ _ _ _ _ _ _ _ _ _ _ _ _ _ _ _ _ _ _ _ _ _ _ _ => ?_
  have odf9 := xdf.1
  have oau9 := xau.1
  have ope9 := xpe.1
  have ova9 := xva.1
  have F := I.F
  refine wpAny_call ?_
  refine enter (K := hd.heap_1 w.params) (f := 409) (cl := []) B F X T N rfl rfl hke ((X.keeps F.keep) _ _ (by k_is)) rfl (codeRec_of (X.keeps F.keep) (by k_is)) (by k_room) (BindsTo.of_eq rfl) (locs rfl) ?_ (by decide) rfl rfl rfl
  intro g' L' h' keep gone fresh F' N' B' X' T' lt
  clear N F B X T
  try dsimp only
  k_fold
  repeat' (first | (k_unfold; (try dsimp only)) | walk1 | (dsimp only; walk1) | fail "no step")
  all_goals (repeat' (first | k_unfold | (dsimp only)))
  · (with_reducible rename x.own k = some _ => e1)
    (with_reducible rename IsOpt _ _ => e2)
    refine leafDone I keep gone (fun p hp => List.mem_map_of_mem (f := Prod.fst) hp) hk (by assumption) (by assumption) [V, Vd, df, au, pe, H, Hd, va] ?_ (fun a q => .inl q)
    refine ⟨by exact vars_mk (by assumption) nd (by assumption) (by assumption) (by assumption) (by assumption) ldf lau lpe lva xdf xau xpe xva, ?_⟩
    rw [show x.val k = _ by simp only [VarSt.val, e1]; rfl]
    exact e2
  · (with_reducible rename (x.own k).isSome = false => e1)
    (with_reducible rename x.dflt k = _ => e2)
    refine leafDone I keep gone (fun p hp => List.mem_map_of_mem (f := Prod.fst) hp) hk (by assumption) (by assumption) [V, Vd, df, au, pe, H, Hd, va] ?_ (fun a q => .inl q)
    refine ⟨by exact vars_mk (by assumption) nd (by assumption) (by assumption) (by assumption) (by assumption) ldf lau lpe lva xdf xau xpe xva, ?_⟩
    have e3 : x.own k = none := by simpa using e1
    rw [show x.val k = _ by simp only [VarSt.val, e3, e2]; rfl]
    exact .some _ _
  · (with_reducible rename (x.own k).isSome = false => e1)
    (with_reducible rename x.dflt k = _ => e2)
    refine leafDone I keep gone (fun p hp => List.mem_map_of_mem (f := Prod.fst) hp) hk (by assumption) (by assumption) [V, Vd, df, au, pe, H, Hd, va] ?_ (fun a q => .inl q)
    refine ⟨by exact vars_mk (by assumption) nd (by assumption) (by assumption) (by assumption) (by assumption) ldf lau lpe lva xdf xau xpe xva, ?_⟩
    have e3 : x.own k = none := by simpa using e1
    rw [show x.val k = _ by simp only [VarSt.val, e3, e2]; rfl]
    exact .none
theorem is_local_s {V H : Addr} {x : VarSt} {k : Int} {t : Tok} : Spec prog w p loose mean mg mb 4 369 [.ref H, .int k t] (Vars prog w V H x) (fun v fp h => Vars prog w V H x fp h ∧ v = .bool (x.own k).isSome) := by
  refine vars_spec fun dp un gd cn cs a ccd cl outer A₀ base h₀ L m s Q E Vd df au pe Hd va odf oau ope ova kdf kau kpe kva k1 k2 k3 t1 t2 t3 n1 k4 t4 n2 B X T hke hdp hu I hk nd ddf dau dpe dva ldf lau lpe lva xdf xau xpe xva N _ _ _ _ _ _ _ _ _ _ _ _ _ _ _ _ _ _ _ _ _ _ _ _ _ _ _ _ => ?_
  have odf9 := xdf.1
  have oau9 := xau.1
  have ope9 := xpe.1
  have ova9 := xva.1
  have F := I.F
  refine wpAny_call ?_
  refine enter (K := hd.heap_1 w.params) (f := 369) (cl := []) B F X T N rfl rfl hke ((X.keeps F.keep) _ _ (by k_is)) rfl (codeRec_of (X.keeps F.keep) (by k_is)) (by k_room) (BindsTo.of_eq rfl) (locs rfl) ?_ (by decide) rfl rfl rfl
  intro g' L' h' keep gone fresh F' N' B' X' T' lt
  clear N F B X T
  try dsimp only
  k_fold
  repeat' (first | (k_unfold; (try dsimp only)) | walk1 | (dsimp only; walk1) | fail "no step")
  all_goals (repeat' (first | k_unfold | (dsimp only)))
  refine leafDone I keep gone (fun p hp => List.mem_map_of_mem (f := Prod.fst) hp) hk (by assumption) (by assumption) [V, Vd, df, au, pe, H, Hd, va] ?_ (fun a q => .inl q)
  exact ⟨by exact vars_mk (by assumption) nd (by assumption) (by assumption) (by assumption) (by assumption) ldf lau lpe lva xdf xau xpe xva, rfl⟩
theorem make_automatic_s {V H : Addr} {x : VarSt} {k i : Int} {t ti : Tok} (h0 : 0 ≤ k) (h9 : k < 9) : Spec prog w p loose mean mg mb 4 320 [.ref V, .int k t, .int i ti] (Vars prog w V H x) (fun _ => Vars prog w V H (x.makeAuto k i)) := by
  refine vars_spec fun dp un gd cn cs a ccd cl outer A₀ base h₀ L m s Q E Vd df au pe Hd va odf oau ope ova kdf kau kpe kva k1 k2 k3 t1 t2 t3 n1 k4 t4 n2 B X T hke hdp hu I hk nd ddf dau dpe dva ldf lau lpe lva xdf xau xpe xva N _ _ _ _ _ _ _ _ _ _ _ _ _ _ _ _ _ _ _ _ _ _ _ _ _ _ _ _ => ?_
  have odf9 := xdf.1
  have oau9 := xau.1
  have ope9 := xpe.1
  have ova9 := xva.1
  have F := I.F
  refine wpAny_call ?_
  refine enter (K := hd.heap_1 w.params) (f := 320) (cl := []) B F X T N rfl rfl hke ((X.keeps F.keep) _ _ (by k_is)) rfl (codeRec_of (X.keeps F.keep) (by k_is)) (by k_room) (BindsTo.of_eq rfl) (locs rfl) ?_ (by decide) rfl rfl rfl
  intro g' L' h' keep gone fresh F' N' B' X' T' lt
  clear N F B X T
  try dsimp only
  k_fold
  repeat' (first | (k_unfold; (try dsimp only)) | walk1 | (dsimp only; walk1) | fail "no step")
  all_goals (repeat' (first | k_unfold | (dsimp only)))
  · (with_reducible rename x.dflt k = some _ => e1)
    rw [show x.makeAuto k i = { x with auto := setAt x.auto k true } by simp only [VarSt.makeAuto, e1, Option.isSome_some, if_true]] at hk
    refine leafDone I keep gone (fun p hp => List.mem_map_of_mem (f := Prod.fst) hp) hk (by assumption) (by assumption) [V, Vd, df, au, pe, H, Hd, va] ?_ (fun a q => .inl q)
    exact vars_mk (by assumption) nd (by assumption) (by assumption) (by assumption) (by assumption) ldf lau lpe lva xdf (xau.put h0 h9) xpe xva
  · (with_reducible rename x.dflt k = none => e1)
    rw [show x.makeAuto k i = { x with dflt := setAt x.dflt k (some i), auto := setAt x.auto k true } by simp only [VarSt.makeAuto, e1, Option.isSome_none, Bool.false_eq_true, if_false]] at hk
    refine leafDone I keep gone (fun p hp => List.mem_map_of_mem (f := Prod.fst) hp) hk (by assumption) (by assumption) [V, Vd, df, au, pe, H, Hd, va] ?_ (fun a q => .inl q)
    exact vars_mk (by assumption) nd (by assumption) (by assumption) (by assumption) (by assumption) ldf lau lpe lva (xdf.put h0 h9) (xau.put h0 h9) xpe xva
theorem make_permanent_s {V H : Addr} {x : VarSt} {k : Int} {t : Tok} (h0 : 0 ≤ k) (h9 : k < 9) : Spec prog w p loose mean mg mb 4 327 [.ref V, .int k t, .bool true] (Vars prog w V H x) (fun _ => Vars prog w V H (x.makeKept k)) := by
  refine vars_spec fun dp un gd cn cs a ccd cl outer A₀ base h₀ L m s Q E Vd df au pe Hd va odf oau ope ova kdf kau kpe kva k1 k2 k3 t1 t2 t3 n1 k4 t4 n2 B X T hke hdp hu I hk nd ddf dau dpe dva ldf lau lpe lva xdf xau xpe xva N _ _ _ _ _ _ _ _ _ _ _ _ _ _ _ _ _ _ _ _ _ _ _ _ _ _ _ _ => ?_
  have odf9 := xdf.1
  have oau9 := xau.1
  have ope9 := xpe.1
  have ova9 := xva.1
  have F := I.F
  refine wpAny_call ?_
  refine enter (K := hd.heap_1 w.params) (f := 327) (cl := []) B F X T N rfl rfl hke ((X.keeps F.keep) _ _ (by k_is)) rfl (codeRec_of (X.keeps F.keep) (by k_is)) (by k_room) (BindsTo.of_eq rfl) (locs rfl) ?_ (by decide) rfl rfl rfl
  intro g' L' h' keep gone fresh F' N' B' X' T' lt
  clear N F B X T
  try dsimp only
  k_fold
  repeat' (first | (k_unfold; (try dsimp only)) | walk1 | (dsimp only; walk1) | fail "no step")
  all_goals (repeat' (first | k_unfold | (dsimp only)))
  refine leafDone I keep gone (fun p hp => List.mem_map_of_mem (f := Prod.fst) hp) hk (by assumption) (by assumption) [V, Vd, df, au, pe, H, Hd, va] ?_ (fun a q => .inl q)
  exact vars_mk (by assumption) nd (by assumption) (by assumption) (by assumption) (by assumption) ldf lau lpe lva xdf xau (xpe.put h0 h9) xva
theorem make_local_s {V H : Addr} {x : VarSt} {k : Int} {t : Tok} (h0 : 0 ≤ k) (h9 : k < 9) : Spec prog w p loose mean mg mb 4 383 [.ref H, .ref V, .int k t] (Vars prog w V H x) (fun _ => Vars prog w V H (x.makeLocal k)) := by
  refine vars_spec fun dp un gd cn cs a ccd cl outer A₀ base h₀ L m s Q E Vd df au pe Hd va odf oau ope ova kdf kau kpe kva k1 k2 k3 t1 t2 t3 n1 k4 t4 n2 B X T hke hdp hu I hk nd ddf dau dpe dva ldf lau lpe lva xdf xau xpe xva N _ _ _ _ _ _ _ _ _ _ _ _ _ _ _ _ _ _ _ _ _ _ _ _ _ _ _ _ => ?_
  have odf9 := xdf.1
  have oau9 := xau.1
  have ope9 := xpe.1
  have ova9 := xva.1
  have F := I.F
  refine wpAny_call ?_
  refine enter (K := hd.heap_1 w.params) (f := 383) (cl := []) B F X T N rfl rfl hke ((X.keeps F.keep) _ _ (by k_is)) rfl (codeRec_of (X.keeps F.keep) (by k_is)) (by k_room) (BindsTo.of_eq rfl) (locs rfl) ?_ (by decide) rfl rfl rfl
  intro g' L' h' keep gone fresh F' N' B' X' T' lt
  clear N F B X T
  try dsimp only
  k_fold
  repeat' (first | (k_unfold; (try dsimp only)) | walk1 | (dsimp only; walk1) | fail "no step")
  all_goals (repeat' (first | k_unfold | (dsimp only)))
  · (with_reducible rename (x.own k).isSome = _ => e1)
    rw [show x.makeLocal k = x by simp only [VarSt.makeLocal]; rw [if_pos e1]] at hk
    refine leafDone I keep gone (fun p hp => List.mem_map_of_mem (f := Prod.fst) hp) hk (by assumption) (by assumption) [V, Vd, df, au, pe, H, Hd, va] ?_ (fun a q => .inl q)
    exact vars_mk (by assumption) nd (by assumption) (by assumption) (by assumption) (by assumption) ldf lau lpe lva xdf xau xpe xva
  · (with_reducible rename (x.own k).isSome = _ => e1)
    (with_reducible rename x.dflt k = _ => e2)
    rw [show x.makeLocal k = { x with own := setAt x.own k (some (some _)) } by simp only [VarSt.makeLocal]; rw [if_neg (by rw [e1]; exact Bool.false_ne_true), e2]] at hk
    refine leafDone I keep gone (fun p hp => List.mem_map_of_mem (f := Prod.fst) hp) hk (by assumption) (by assumption) [V, Vd, df, au, pe, H, Hd, va] ?_ (fun a q => .inl q)
    exact vars_mk (by assumption) nd (by assumption) (by assumption) (by assumption) (by assumption) ldf lau lpe lva xdf xau xpe (xva.put (.some _ _) h0 h9)
  · (with_reducible rename (x.own k).isSome = _ => e1)
    (with_reducible rename x.dflt k = _ => e2)
    rw [show x.makeLocal k = { x with own := setAt x.own k (some none) } by simp only [VarSt.makeLocal]; rw [if_neg (by rw [e1]; exact Bool.false_ne_true), e2]] at hk
    refine leafDone I keep gone (fun p hp => List.mem_map_of_mem (f := Prod.fst) hp) hk (by assumption) (by assumption) [V, Vd, df, au, pe, H, Hd, va] ?_ (fun a q => .inl q)
    exact vars_mk (by assumption) nd (by assumption) (by assumption) (by assumption) (by assumption) ldf lau lpe lva xdf xau xpe (xva.put .none h0 h9)
end
section
theorem wtKill : True := by
  w_top off
  trivial
variable {prog : Program} {w : World} {p : Program} {loose : List Str} {mean : ExcName → Option Value} {mg mb : Str → Option Value}
theorem kwKill2 : True := by
  k_with "exec Assign cons ListComp" => (k_here; k_dflt (refine LCt.Assign_ListComp_T (F₀ := by k_asm) (by rfl) (by with_unfolding_all rfl) (by with_unfolding_all rfl) (by decide) (by rfl) (by decide) (by rfl) (by rfl) (by rfl) ?_))
  k_with "eval ListComp" => (k_here; k_dflt (refine LCt.ListComp_T (F₀ := by k_asm) (by with_unfolding_all rfl) (by decide) (by rfl) (by decide) (by rfl) ?_))
  k_with "CompSrcT" => (k_here; k_dflt (first | (refine' LCt.CompSrcT.ledger rfl (by k_asm) (by k_asm) (by k_mem) (by k_asm) ?_) | (refine' LCt.CompSrcT.base rfl (by k_asm) (by k_asm) (by k_asm) (by k_asm) ?_)); intro _; k_dflt (refine' flt_rest (by k_asm) (by k_asm) (by first | exact .inl (by k_asm) | exact .inr ⟨_, by k_mem, rfl, _, rfl⟩) rfl rfl (by decide) (fun _ _ _ _ _ _ _ _ _ _ _ _ _ _ _ _ _ _ _ => ?_) (fun _ _ => ?_)); (all_goals (try (simp only [LCg.Off3, and_true] at off'))))
  k_with "FltT" => (k_here; k_dflt (refine' flt_t (by k_asm) (by k_asm) (by intro pz9 hpz9; first | exact hpz9 | exact .tail _ hpz9 | exact .tail _ (.tail _ hpz9) | exact .tail _ (.tail _ (.tail _ hpz9))) ?_); (try rfl))
  k_with "call type:list" => (k_here; k_dflt (refine' list_D rfl (by k_asm) (by k_asm) (by k_mem) (by k_asm) (by k_asm) (by k_asm) ?_); intro Bz9 cz9 hz9 tkz9 vsz9 Fz9 Nz9 l1z9 hiz9 h64z9 hszz9; (try k_lt l1z9); (try k_sweep); revert Bz9 cz9 hz9 tkz9 vsz9 Fz9 Nz9 l1z9 hiz9 h64z9 hszz9; intro _ _ _ _ _ _ _ _ _ _ _)
  k_with "call builtin:sorted" => (k_here; k_dflt (refine' sorted_L (by k_asm) (by k_asm) (by k_mem) (by k_asm) (by k_asm) ?_); intro Bz9 vsz9 nsz9 cz9 hz9 Fz9 Nz9 l1z9 hiz9 hpmz9 h64z9 hszz9; (try k_lt l1z9); (try k_sweep); revert Bz9 vsz9 nsz9 cz9 hz9 Fz9 Nz9 l1z9 hiz9 hpmz9 h64z9 hszz9; intro _ _ _ _ _ _ _ _ _ _ _ _)
  k_with "call builtin:dict.pop" => (k_here; k_dflt (refine' pop_C (by k_asm) (by k_asm) (by k_updF) (by k_asm) (by k_asm) (by k_asm) ?_); intro hz9 oz9 vz9 Fz9 Nz9 hdz9; (try dsimp only at Nz9); (try k_sweep); revert hz9 oz9 vz9 Fz9 Nz9 hdz9; intro _ _ _ _ _ _)
  k_with "getMethod ref" => (k_here; (with_reducible show wpAny _ _ (getMethod (Value.ref _) (Str.ofString "pop") _) _ _ _); k_dflt (refine' popm_D (by k_asm) (by k_mem) (by k_asm) ?_))
  k_with "eval Name" => (k_here; k_dflt (refine' nameX_L (by k_asm) (by first | exact rfl | assumption) ?_ (by rfl) (by rfl); k_whole))
  trivial
theorem kill_all_s {V H : Addr} {x : VarSt}  : Spec prog w p loose mean mg mb 6 395 [.ref H, .ref V] (Vars prog w V H x) (fun _ => Vars prog w V H x.kill) := by
  refine vars_spec fun dp un gd cn cs a ccd cl outer A₀ base h₀ L m s Q E Vd df au pe Hd va odf oau ope ova kdf kau kpe kva k1 k2 k3 t1 t2 t3 n1 k4 t4 n2 B X T hke hdp hu I hk nd ddf dau dpe dva ldf lau lpe lva xdf xau xpe xva N _ _ _ _ _ _ _ _ _ _ _ _ _ _ _ _ _ _ _ _ _ _ _ _ _ _ _ _ => ?_
  have odf9 := xdf.1
  have oau9 := xau.1
  have ope9 := xpe.1
  have ova9 := xva.1
  have F := I.F
  refine wpAny_call ?_
  refine enterC (K := hd.heap_1 w.params) (f := 395) B F X T N rfl rfl hke ((X.keeps F.keep) _ _ (by k_is)) rfl (codeRec_of (X.keeps F.keep) (by k_is)) (by k_room) rfl rfl (by decide +kernel) ?_ rfl rfl rfl
  intro g' L' h' tk' cells' keep gone fresh F' N' Y' B' X' T' lt
  clear N F B X T
  k_cells Y'
  simp only [List.cons_append, List.nil_append] at N'
  try dsimp only
  try k_fold
  have hP : FltP (fun k => !x.kept k) := trivial
  repeat' ((fail_if_success (with_reducible show wpAny _ _ (PySem.exec (Stmt.For _ _ _ _ _) _) _ _ _)); first | (k_unfold; (try dsimp only)) | walk1 | (dsimp only; walk1) | fail "no step")
  rename_i nsZ cZ hOZ FNZ NNZ hiZ hpmZ h64Z hszZ l1Z kFZ kNZ TcZ kXZ gZ ysZ hysZ DZ hZ tkZ FZ NZ oZ
  refine hideG fun GG hGG => ?_
  obtain ⟨_, _, _, _, _, _, _, _, _, _, _⟩ := oZ
  suffices kk : ∀ m0 : Str → Option Value, Fr g' L' hZ m0 → m0 (Str.ofString "self") = some (.ref H) → m0 (Str.ofString "found") = some (.ref DZ) → GG by exact kk _ FZ rfl rfl
  intro m0 F0 e1 e2
  refine hGG ?_; clear hGG GG
  clear FZ
  refine For_led (g := g') (L := L') rfl (fun i m nw => ∃ u ovaI kvaI, m = (fun y => if y = Str.ofString "symbol" then u else m0 y) ∧ nw = [(DZ, LCg.lst ysZ), (V, instObj 344 Vd), (Vd, dictOf [⟨k1, .str "defaults" t1, .ref df⟩, ⟨k2, .str "automatic" t2, .ref au⟩, ⟨k3, .str "permanent" t3, .ref pe⟩] n1), (df, odf), (au, oau), (pe, ope), (H, instObj 398 Hd), (Hd, dictOf [⟨k4, .str "values" t4, .ref va⟩] n2), (va, ovaI)] ∧ ovaI.IsDictOf (PySem.intKind prog w) kvaI ∧ CellsD kvaI (cut x.own ((List.filter (fun k => !x.kept k) nsZ).take i))) DZ ysZ.toArray ?_ ?_ ?_ ?_ (fun _ => rfl)
  · rintro i m nw h ⟨u, o1, kv1, rfl, rfl, _, _⟩ F N
    exact ⟨_, (N _ (.head _)).1, rfl, _, rfl⟩
  · walk1
    refine ⟨rfl, hZ, _, _, _, rfl, F0, fun p hp => NZ p ?_, m0 (Str.ofString "symbol"), ova, kva, ?_, rfl, dva, ?_⟩
    · rcases List.mem_cons.mp hp with rfl | hp
      · exact .head _
      · exact .tail _ (.tail _ (.tail _ (.tail _ hp)))
    · funext y
      split
      · rename_i e; rw [e]
      · rfl
    · rw [List.take_zero, cut_nil]; exact xva
  · rintro i v it oi h tk m nw hx ⟨u, o1, kv1, rfl, rfl, d1, x1⟩ off F1 N1
    obtain ⟨kZ, tZ, rfl, hkZ⟩ := IntsAre.at hysZ i v (by simpa using hx)
    have hs1 := cut_there hpmZ dva xva x1 hkZ
    have ho1 := x1.1
    have n1 := off (DZ, _) (.head _)
    have n2 := off (V, _) (.tail _ (.head _))
    have n3 := off (Vd, _) (.tail _ (.tail _ (.head _)))
    have n4 := off (df, _) (.tail _ (.tail _ (.tail _ (.head _))))
    have n5 := off (au, _) (.tail _ (.tail _ (.tail _ (.tail _ (.head _)))))
    have n6 := off (pe, _) (.tail _ (.tail _ (.tail _ (.tail _ (.tail _ (.head _))))))
    have n7 := off (H, _) (.tail _ (.tail _ (.tail _ (.tail _ (.tail _ (.tail _ (.head _)))))))
    have n8 := off (Hd, _) (.tail _ (.tail _ (.tail _ (.tail _ (.tail _ (.tail _ (.tail _ (.head _))))))))
    have n9 := off (va, o1) (.tail _ (.tail _ (.tail _ (.tail _ (.tail _ (.tail _ (.tail _ (.tail _ (.head _)))))))))
    dsimp only at n1 n2 n3 n4 n5 n6 n7 n8 n9
    clear NZ F0 NNZ FNZ kFZ kNZ dva ova9
    repeat' (first | (k_unfold; (try dsimp only)) | walk1 | (dsimp only; walk1) | fail "no step")
    (with_reducible rename Fr _ _ _ _ => FE)
    (with_reducible rename News _ _ _ _ => NE)
    (with_reducible rename Obj.IsDictOf _ _ _ => dE)
    refine LedEnd.mk FE NE (off_map off rfl) ⟨some (.int kZ tZ), _, _, ?_, rfl, dE, ?_⟩
    · funext y
      split <;> rfl
    · rw [cut_succ hkZ]; exact x1.drop
  · rintro h tk m nw ⟨u, o1, kv1, rfl, rfl, d1, x1⟩ F1 N1
    have ho1 := x1.1
    clear NZ F0 NNZ FNZ kFZ kNZ
    dsimp only
    repeat' (first | (k_unfold; (try dsimp only)) | walk1 | (dsimp only; walk1) | fail "no step")
    dsimp only
    repeat' (first | k_unfold | (dsimp only))
    rw [show ysZ.toArray.size = (List.filter (fun k => !x.kept k) nsZ).length by rw [List.size_toArray]; exact hysZ.length, List.take_length, cut_kill hpmZ xva] at x1
    refine leafDone I keep gone (fun p hp => List.mem_map_of_mem (f := Prod.fst) hp) hk F1 N1 [V, Vd, df, au, pe, H, Hd, va] ?_ (fun a q => .inl q)
    exact vars_mk (fun p hp => N1 p (.tail _ hp)) nd ddf dau dpe d1 ldf lau lpe lva xdf xau xpe x1
end
section
theorem wtHooks : True := by
  w_top off
  trivial
theorem kwHooks1 : True := by
  k_with_none
  k_with "W1" => ((fail_if_success (with_reducible show wpAny _ _ (PySem.call (Value.ref _) _ _) _ _ _)); (fail_if_success (with_reducible show wpAny _ _ (pyIter _) _ _ _)); (fail_if_success (with_reducible show wpAny _ _ (PySem.exec (Stmt.For _ _ _ _ _) _) _ _ _)); first | (k_unfold; (try dsimp only)) | walk1 | (dsimp only; walk1) | fail "no step")
  k_with "k_enter" => (first | (refine' code_def (by k_asm) (by k_asm) (by k_asm) (by k_asm) (by k_asm) rfl rfl (by first | exact rfl | assumption) (by k_is) (by k_is) (by k_room) (by first | exact BindsTo.of_eq rfl | exact binds_K (by k_in) rfl (by k_is) rfl rfl rfl) (by exact locs rfl) ?_ (by exact rfl) (by exact rfl) (by exact rfl) (by decide); k_whole; intro _ _ _ _ _ _ Bz9 _ _; (try dsimp only); (try k_lift Bz9); (try k_fold)) | (refine' code_defC (by k_asm) (by k_asm) (by k_asm) (by k_asm) (by k_asm) rfl rfl (by first | exact rfl | assumption) (by k_is) (by k_is) (by k_room) (by first | exact BindsTo.of_eq rfl | exact binds_K (by k_in) rfl (by k_is) rfl rfl rfl) (by exact rfl) (by decide +kernel) ?_ (by exact rfl) (by exact rfl) (by exact rfl); k_whole; intro _ _ _ _ _ _ _ Nz9 Yz9 Bz9 _ _ lz9; (try k_lt lz9); k_cells Yz9; (try simp only [List.cons_append, List.nil_append] at Nz9); (try dsimp only); (try k_lift Bz9); (try k_fold)) | fail)
  k_with "execs cons" => (k_fold; (first | show wpAny _ AB (PySem.execs _ eB) _ _ _ | (show (let eB := _; let AB := _; wpAny _ AB (PySem.execs _ eB) _ _ _); intro eB AB)); refine wpAny_execs_cons ?_)
  k_with "omega" => first | exact Nat.le_of_ble_eq_true rfl | with_reducible assumption | exact Mine.o1 (by with_reducible assumption) (by exact rfl) | exact Mine.o3 (by with_reducible assumption) (by exact rfl) | exact Mine.o2 (by with_reducible assumption) (by exact rfl) | exact Mine.o4 (by with_reducible assumption) (by exact rfl) | exact Mine.o5 (by with_reducible assumption) (by exact rfl) | exact Mine.o6 (by with_reducible assumption) (by exact rfl) | exact Mine.o7 (by with_reducible assumption) (by exact rfl) | exact Mine.o8 (by with_reducible assumption) (by exact rfl) | exact Mine.o9 (by with_reducible assumption) (by exact rfl) | exact Mine.o10 (by with_reducible assumption) (by exact rfl) | exact Mine.o11 (by with_reducible assumption) (by exact rfl) | exact Mine.o12 (by with_reducible assumption) (by exact rfl) | exact Mine.o13 (by with_reducible assumption) (by exact rfl) | exact Nat.ne_of_lt (by with_reducible assumption) | exact Nat.ne_of_gt (by with_reducible assumption) | exact Nat.le_of_lt (by with_reducible assumption) | fail
  k_with "k_room" => ((try simp only [depth_mark, depth_under_make, depth_under_kw, depth_in1, depth_deeper]); first | assumption | (show _ < 1000; (try dsimp only); omega))
  k_with "k_ne" => ((refine neN ?_); (try dsimp only); first | assumption | exact Ne.symm (by assumption))
  k_with "compareOp In int ref" => (k_here; k_dflt (first | (refine' in_C (by k_asm) (by k_mem) (by k_asm) (by k_asm) (by k_asm) ?_) | (refine' in_I (by k_asm) (by k_mem) (by k_asm) (by k_asm) (by k_asm) ?_) | (refine' in_B (by k_asm) (by k_mem) (by k_asm) (by k_asm) (by k_asm) ?_)))
  k_with "compareOp NotIn int ref" => (k_here; k_dflt ( (refine' notin_C (by k_asm) (by k_mem) (by k_asm) (by k_asm) (by k_asm) ?_)))
  k_with "call builtin:dict.get" => (k_here; k_dflt (first | (refine' get_I (by k_asm) (by k_mem) (by k_asm) (by k_asm) (by k_asm) ?_; refine ⟨fun _ _ _ => ?_, fun _ => ?_⟩) | (refine' get_B (by k_asm) (by k_mem) (by k_asm) (by k_asm) (by k_asm) ?_; (try simp only [Bool.or_false]))))
  k_with "getMethod ref" => (k_here; (with_reducible show wpAny _ _ (getMethod (Value.ref _) (Str.ofString "get") _) _ _ _); k_dflt (refine' kdg_method (knd := PySem.intKind _ _) (by k_asm) (by k_mem) (by k_asm) ?_))
  k_with "subscriptTail" => (k_here; (with_reducible show wpAny _ _ (subscriptTail _ _ (Value.ref _) (Value.int _ _)) _ _ _); k_dflt (refine' item_C (by k_asm) (by k_mem) (by k_asm) (by k_asm) (by k_asm) ?_ (by with_unfolding_all rfl); intro _ _ _ _))
  k_with "setItem ref int" => (k_here; k_dflt (refine' kda_set (knd := PySem.intKind _ _) (by k_asm) (by k_asm) (by k_updF) (by k_asm) (intKind_is _ _ _ _) (by exact KOK.line (by k_asm) (by k_asm)) ?_; intro hz9 oz9 Fz9 Nz9 hdz9; (try dsimp only at Nz9); (try k_sweep); revert hz9 oz9 Fz9 Nz9 hdz9; intro _ _ _ _ _))
  trivial
variable {prog : Program} {w : World} {p : Program} {loose : List Str} {mean : ExcName → Option Value} {mg mb : Str → Option Value}
theorem kwHooks2 : True := by
  k_with "eval ListComp" => (k_here; k_dflt (refine LCt.ListComp_T (F₀ := by k_asm) (by with_unfolding_all rfl) (by decide) (by rfl) (by decide) (by rfl) ?_))
  k_with "CompSrcT" => (k_here; k_dflt (first | (refine' LCt.CompSrcT.ledger rfl (by k_asm) (by k_asm) (by k_mem) (by k_asm) ?_) | (refine' LCt.CompSrcT.base rfl (by k_asm) (by k_asm) (by k_asm) (by k_asm) ?_)); intro _; k_dflt (refine' flt_rest (by k_asm) (by k_asm) (by first | exact .inl (by k_asm) | exact .inr ⟨_, by k_mem, rfl, _, rfl⟩) rfl rfl (by decide) (fun _ _ _ _ _ _ _ _ _ _ _ _ _ _ _ _ _ _ _ => ?_) (fun _ _ => ?_)); (all_goals (try (simp only [LCg.Off3, and_true] at off'))))
  k_with "FltT" => (k_here; k_dflt (refine' flt_t (by k_asm) (by k_asm) (by intro pz9 hpz9; first | exact hpz9 | exact .tail _ hpz9 | exact .tail _ (.tail _ hpz9) | exact .tail _ (.tail _ (.tail _ hpz9))) ?_); (try rfl))
  k_with "call type:list" => (k_here; k_dflt (refine' list_D rfl (by k_asm) (by k_asm) (by k_mem) (by k_asm) (by k_asm) (by k_asm) ?_); intro Bz9 cz9 hz9 tkz9 vsz9 Fz9 Nz9 l1z9 hiz9 h64z9 hszz9; (try k_lt l1z9); (try k_sweep); revert Bz9 cz9 hz9 tkz9 vsz9 Fz9 Nz9 l1z9 hiz9 h64z9 hszz9; intro _ _ _ _ _ _ _ _ _ _ _)
  k_with "call builtin:sorted" => (k_here; k_dflt (refine' sorted_L (by k_asm) (by k_asm) (by k_mem) (by k_asm) (by k_asm) ?_); intro Bz9 vsz9 nsz9 cz9 hz9 Fz9 Nz9 l1z9 hiz9 hpmz9 h64z9 hszz9; (try k_lt l1z9); (try k_sweep); revert Bz9 vsz9 nsz9 cz9 hz9 Fz9 Nz9 l1z9 hiz9 hpmz9 h64z9 hszz9; intro _ _ _ _ _ _ _ _ _ _ _ _)
  k_with "call builtin:dict.pop" => (k_here; k_dflt (refine' pop_C (by k_asm) (by k_asm) (by k_updF) (by k_asm) (by k_asm) (by k_asm) ?_); intro hz9 oz9 vz9 Fz9 Nz9 hdz9; (try dsimp only at Nz9); (try k_sweep); revert hz9 oz9 vz9 Fz9 Nz9 hdz9; intro _ _ _ _ _ _)
  k_with "getMethod ref" => (k_here; (with_reducible show wpAny _ _ (getMethod (Value.ref _) (Str.ofString "pop") _) _ _ _); k_dflt (refine' popm_D (by k_asm) (by k_mem) (by k_asm) ?_))
  k_with "eval Name" => (k_here; k_dflt (refine' nameX_L (by k_asm) (by first | exact rfl | assumption) ?_ (by rfl) (by rfl); k_whole))
  k_with "k_ne" => ((refine neN ?_); (try dsimp only); first | assumption | exact Ne.symm (by assumption) | omega)
  k_with "k_units" => (first | exact Nat.le_of_ble_eq_true rfl | (simp only [ktrTop, units_deeper, units_in1, cLine_is]; omega) | ((try dsimp only [ktrTop, Around.deeper, Around.in1, Around.under]); rw [cLine_is]; omega))
  k_with "compareOp In int ref" => (k_here; k_dflt (first | (refine' in_list_ints (by first | exact led_list (by k_asm) (by k_mem) | exact base_list (by k_asm) (by k_asm)) (by first | k_asm | exact .cons _ _ .nil | exact .nil) ?_; k_whole) | (refine' in_E (by k_asm) (by k_asm) (by k_asm) (by k_asm) ?_)))
  k_with "compareOp NotEq ref ref" => (k_here; k_dflt (refine' ne_E (by k_asm) (by k_mem) (by k_mem) (by k_asm) (by k_asm) (by k_asm) (by k_asm) (by k_units) ?_))
  k_with "binaryOp Add ref ref" => (k_here; k_dflt (refine' add_L (by k_asm) (by k_asm) (by first | exact led_list (by k_asm) (by k_mem) | exact base_list (by k_asm) (by k_asm)) (by first | exact led_list (by k_asm) (by k_mem) | exact base_list (by k_asm) (by k_asm)) (by first | k_asm | exact .cons _ _ .nil | exact .nil) (by first | k_asm | exact .cons _ _ .nil | exact .nil) (by first | k_asm | (simp only [List.length_cons, List.length_nil, sizeLine_eq]; omega)) ?_); intro hz9 Dz9 Fz9 Nz9 l1z9 hiz9; (try k_lt l1z9); (try k_sweep); revert hz9 Dz9 Fz9 Nz9 l1z9 hiz9; intro _ _ _ _ _ _)
  k_with "call builtin:dict.get" => (k_here; k_dflt (first | (refine' get_V (by k_asm) (by k_mem) (by k_asm) (by k_asm) (by first | k_asm | exact vaSame _ _ _) ?_) | (refine' get_N (by k_asm) (by k_mem) (by k_asm) (by k_asm) (by k_asm) ?_)))
  trivial
theorem news_idx {g h : Heap} {L : Addr} {l : List (Addr × Obj)} (N : News g L h l) (is : List Nat) : News g L h (is.filterMap fun i => l[i]?) := fun p hp => N p (sub_idx is p hp)
theorem SD.drop {d a : Nat} {l : List Nat} (h : SD d (a :: l)) : SD d l := ⟨fun k hk => h.lt k (.tail _ hk), (List.nodup_cons.mp h.nd).2⟩
theorem kwHooks9 : True := by
  k_with "k_lt0" => skip
  k_with "nd9" => ((try dsimp only [List.map]); first | exact SD.all (by with_reducible assumption) | with_reducible assumption | exact SD.all (SD.up (by with_reducible assumption)))
  trivial
theorem kwHooks3 : True := by
  k_with "k_updF" => (refine' updF_nd (by repeat (first | exact UpdG.head | apply UpdG.tail)) (by ((try dsimp only [List.map]); first | exact SD.all (by with_reducible assumption) | with_reducible assumption | exact SD.all (SD.up (by with_reducible assumption)))))
  k_with "k_upd" => (refine' upd_nd (by repeat (first | exact UpdH.head | apply UpdH.tail)) (by ((try dsimp only [List.map]); first | exact SD.all (by with_reducible assumption) | with_reducible assumption | exact SD.all (SD.up (by with_reducible assumption)))))
  trivial
theorem row_add_R {dp un : Nat} {gd : Option (List Code)} {cn : Str} {cs : Scope} {a : Addr} {ccd : Value} {cl : List (Str × Addr)} {outer : List Env} {A₀ : Around} {base h₀ : Heap} {L : Addr} {m : Str → Option Value} {s : Shared} {Q E : Value → Shared → Prop}
    {r d il dd : Addr} {odd : Obj} {h1 h2 : Int} {t1 t2 : Tok} {vs : List Value} {ns : List Int} {c : Nat} {i : Int} {ti t0 : Tok} {Z : List (Addr × Obj)}
    (B : Below A₀ base outer h₀) (X0 : (hd.heap_1 w.params).In h₀) (T : Top p loose mean mg mb h₀) (hke : cs.kind = .function) (hdp : dp + 5 < 1000) (hdu : un + 100 < 9000) (F : Fr h₀ L s.heap m)
    (N : News h₀ L s.heap ((r, instObj 213 d) :: (d, dictOf [⟨h1, .str "items" t1, .ref il⟩, ⟨h2, .str "depths" t2, .ref dd⟩] 2) :: (il, listOf vs.toArray c) :: (dd, odd) :: Z)) (nd : (r :: d :: il :: dd :: Z.map (·.1)).Nodup)
    (iv : IntsAre vs ns) (ddd : odd.IsDictOf (PySem.intKind prog w) []) (ldd : (dd == sysModules) = false) (hl : ns.length < 60)
    (hk1 : ns.any (fun y => y == i) = true → ∀ h' tk', Fr h₀ L h' m → News h₀ L h' ((r, instObj 213 d) :: (d, dictOf [⟨h1, .str "items" t1, .ref il⟩, ⟨h2, .str "depths" t2, .ref dd⟩] 2) :: (il, listOf vs.toArray c) :: (dd, odd) :: Z) → Q .none { s with heap := h', toks := tk' })
    (hk2 : ns.any (fun y => y == i) = false → ∀ D vs' c' h1' h2' t1' t2' h' tk', Fr h₀ L h' m → News h₀ L h' ((D, listOf vs'.toArray c') :: (r, instObj 213 d) :: (d, dictOf [⟨h1', .str "items" t1', .ref D⟩, ⟨h2', .str "depths" t2', .ref dd⟩] 2) :: (il, listOf vs.toArray c) :: (dd, odd) :: Z) → SD D (r :: d :: il :: dd :: Z.map (·.1)) → IntsAre vs' ([i] ++ ns) → Q .none { s with heap := h', toks := tk' }) :
    wpAny (model prog w) (ktrTop dp un gd cn cs L a ccd cl outer) (call (.ref 203) [.ref r, .int i ti, .int 0 t0]) Q E s := by
  repeat' (first | (k_unfold; (try dsimp only)) | walk1 | (dsimp only; walk1) | fail "no step")
  all_goals (repeat' (first | k_unfold | (dsimp only)))
  · (with_reducible rename News _ _ _ _ => NN)
    (with_reducible rename Fr _ _ _ _ => FF)
    exact hk1 (by assumption) _ _ FF (fun p hp => NN p (.tail _ hp))
  · (with_reducible rename News _ _ _ _ => NN)
    (with_reducible rename Fr _ _ _ _ => FF)
    (with_reducible rename SD _ (_ :: _ :: _ :: _ :: _ :: _ :: List.map _ Z) => sD)
    exact hk2 (by assumption) _ _ _ _ _ _ _ _ _ FF (fun p hp => NN p ((List.mem_cons.mp hp).elim (fun e => e ▸ .tail _ (.head _)) fun hp => .tail _ (.tail _ (.tail _ (.tail _ hp))))) sD.drop.drop (by assumption)
theorem add_hook_s {X : Addr} {f : Int → Option (List Int)} {k i : Int} {t ti t0 : Tok} (h0 : 0 ≤ k) (h9 : k < 9) (hsz : ∀ ns, f k = some ns → ns.length < 60) : Spec prog w p loose mean mg mb 6 259 [.ref X, .int k t, .int i ti, .int 0 t0] (Hook prog w X f) (fun _ => Hook prog w X (setAt f k (some (addA ((f k).getD []) i)))) := by
  intro dp un gd cn cs a ccd cl outer A₀ base h₀ L m s Q E fp B X0 T hke hdp hu I hk
  obtain ⟨Xd, rd, oX, ord, RL, rfl, l, hh⟩ := I.C
  have F := I.F
  cases e : RL.find? (fun q => decide (q.k = k)) with
  | none =>
    have hv := rows_none e
    obtain ⟨nd, ⟨k1, t1, n1, rfl⟩, lrd, drd, kok, ok, fn⟩ := id l
    have hfk : f k = none := by rw [fn]; unfold rowsF; rw [e]; rfl
    have ndH : List.Nodup [X, Xd, rd] := (List.nodup_append.mp (show ([X, Xd, rd] ++ _).Nodup from nd)).1
    have N := I.news (hid := [(X, instObj 248 Xd), (Xd, _), (rd, ord)]) (fun p hp => ⟨List.mem_map_of_mem (mem_head3 hp), hh p (mem_head3 hp)⟩)
    refine wpAny_call ?_
    refine enter (K := hd.heap_1 w.params) (f := 259) (cl := []) B F X0 T N rfl rfl hke ((X0.keeps F.keep) _ _ (by k_is)) rfl (codeRec_of (X0.keeps F.keep) (by k_is)) (by k_room) (BindsTo.of_eq rfl) (locs rfl) ?_ (by decide) rfl rfl rfl
    intro g' L' h' keep gone fresh F' N' B' X' T' lt
    clear N F B X0 T
    try dsimp only
    try k_fold
    repeat' ((fail_if_success (with_reducible show wpAny _ _ (PySem.call (Value.ref 203) _ _) _ _ _)); first | (k_unfold; (try dsimp only)) | walk1 | (dsimp only; walk1) | fail "no step")
    change wpAny _ (ktrTop (dp + 1) (un + 3) gd _ _ L' 259 _ [] (envX cn cs L a ccd cl :: outer)) _ _ _ _
    (with_reducible rename News _ _ _ _ => NN)
    (with_reducible rename Fr _ _ _ _ => FF)
    (with_reducible rename SD _ _ => hsd)
    have NR : News g' L' _ (_ :: _ :: _ :: _ :: [_, _, _]) := news_idx NN [1, 2, 3, 0, 4, 5, 6]
    refine row_add_R (vs := []) (ns := []) B' X' T' rfl (by omega) (by omega) FF NR (nd_idx 7 hsd.all rfl [1, 2, 3, 0, 4, 5, 6] (by decide) (by decide)) .nil (by assumption) (by assumption) (by decide) (fun ea => absurd ea (by simp)) ?_
    · intro _ D vs' c' h1' h2' t1' t2' h2 tk2 F2 N2 s2 iv2
      dsimp only
      repeat' (first | (k_unfold; (try dsimp only)) | walk1 | (dsimp only; walk1) | fail "no step")
      all_goals (repeat' (first | k_unfold | (dsimp only)))
      (with_reducible rename News _ _ _ _ => NE)
      (with_reducible rename Fr _ _ _ _ => FE)
      rw [show addA ((f k).getD []) i = [i] ++ [] by rw [hfk]; rfl] at hk
      obtain ⟨fp', hC, hn⟩ := hook_new' l hh e keep gone FE NE (by k_mem) (by k_mem) (by k_mem) (by k_mem) (by k_mem) (by k_mem) (by k_mem) iv2 (by assumption) (by assumption) (by assumption) h0 h9 (nd_idx 8 s2.all rfl [5, 6, 7, 1, 2, 0, 4] (by decide) (by decide))
      exact leafDone I keep gone (fun p hp => List.mem_map_of_mem (mem_head3 hp)) hk FE NE fp' hC hn
  | some q =>
    have hv := rows_some e
    obtain ⟨A, Bl, rfl, hkq, hA⟩ := find_split e
    obtain ⟨nd, ⟨k1, t1, n1, rfl⟩, lrd, drd, kok, ok, fn⟩ := id l
    obtain ⟨iv, ddd, ldd⟩ := ok q (List.mem_append_right _ (.head _))
    have hfk : f k = some q.ns := by rw [fn]; unfold rowsF; rw [e]; rfl
    have hl : q.ns.length < 60 := hsz _ hfk
    have nd7' := nd7_of nd
    have N := I.news (hid := [(X, instObj 248 Xd), (Xd, _), (rd, ord), (q.r, instObj 213 q.d), (q.d, dictOf [⟨q.h1, .str "items" q.t1, .ref q.il⟩, ⟨q.h2, .str "depths" q.t2, .ref q.dd⟩] 2), (q.il, listOf q.vs.toArray q.c), (q.dd, q.odd)]) (fun p hp => ⟨List.mem_map_of_mem (mem_head7 hp), hh p (mem_head7 hp)⟩)
    refine wpAny_call ?_
    refine enter (K := hd.heap_1 w.params) (f := 259) (cl := []) B F X0 T N rfl rfl hke ((X0.keeps F.keep) _ _ (by k_is)) rfl (codeRec_of (X0.keeps F.keep) (by k_is)) (by k_room) (BindsTo.of_eq rfl) (locs rfl) ?_ (by decide) rfl rfl rfl
    intro g' L' h' keep gone fresh F' N' B' X' T' lt
    clear N F B X0 T
    try dsimp only
    try k_fold
    repeat' ((fail_if_success (with_reducible show wpAny _ _ (PySem.call (Value.ref 203) _ _) _ _ _)); first | (k_unfold; (try dsimp only)) | walk1 | (dsimp only; walk1) | fail "no step")
    change wpAny _ (ktrTop (dp + 1) (un + 3) gd _ _ L' 259 _ [] (envX cn cs L a ccd cl :: outer)) _ _ _ _
    (with_reducible rename News _ _ _ _ => NN)
    (with_reducible rename Fr _ _ _ _ => FF)
    have NR : News g' L' _ (_ :: _ :: _ :: _ :: [_, _, _]) := news_idx NN [3, 4, 5, 6, 0, 1, 2]
    refine row_add_R B' X' T' rfl (by omega) (by omega) FF NR (nd_idx 7 nd7' rfl [3, 4, 5, 6, 0, 1, 2] (by decide) (by decide)) iv ddd ldd hl ?_ ?_
    · intro ea h2 tk2 F2 N2
      dsimp only
      repeat' (first | (k_unfold; (try dsimp only)) | walk1 | (dsimp only; walk1) | fail "no step")
      all_goals (repeat' (first | k_unfold | (dsimp only)))
      (with_reducible rename News _ _ _ _ => NE)
      (with_reducible rename Fr _ _ _ _ => FE)
      rw [show addA ((f k).getD []) i = q.ns by rw [hfk]; simp only [Option.getD_some, addA]; rw [if_pos ea]] at hk
      subst hkq
      obtain ⟨fp', hC, hn⟩ := hook_swap' l hh hA keep gone FE NE (by k_mem) (by k_mem) (by k_mem) (by k_mem) (by k_mem) (by k_mem) (by k_mem) iv nd7'
      exact leafDone I keep gone (fun p hp => List.mem_map_of_mem (mem_head7 hp)) hk FE NE fp' hC hn
    · intro ea D vs' c' h1' h2' t1' t2' h2 tk2 F2 N2 s2 iv2
      dsimp only
      repeat' (first | (k_unfold; (try dsimp only)) | walk1 | (dsimp only; walk1) | fail "no step")
      all_goals (repeat' (first | k_unfold | (dsimp only)))
      (with_reducible rename News _ _ _ _ => NE)
      (with_reducible rename Fr _ _ _ _ => FE)
      rw [show addA ((f k).getD []) i = [i] ++ q.ns by rw [hfk]; simp only [Option.getD_some, addA]; rw [if_neg (by rw [ea]; exact Bool.false_ne_true)]; rfl] at hk
      subst hkq
      obtain ⟨fp', hC, hn⟩ := hook_swap' l hh hA keep gone FE NE (by k_mem) (by k_mem) (by k_mem) (by k_mem) (by k_mem) (by k_mem) (by k_mem) iv2 (nd_idx 8 s2.all rfl [5, 6, 7, 1, 2, 0, 4] (by decide) (by decide))
      exact leafDone I keep gone (fun p hp => List.mem_map_of_mem (mem_head7 hp)) hk FE NE fp' hC hn
theorem add_local_s {X : Addr} {f : Int → Option (List Int)} {k i : Int} {t ti t0 : Tok} (hi1 : 0 ≤ i) (h0 : 0 ≤ k) (h9 : k < 9) (hsz : ∀ ns, f k = some ns → ns.length < 60) : Spec prog w p loose mean mg mb 6 266 [.ref X, .int k t, .int i ti, .int 0 t0] (Hook prog w X f) (fun _ => Hook prog w X (setAt f k (some (addA ((f k).getD [-1]) i)))) := by
  intro dp un gd cn cs a ccd cl outer A₀ base h₀ L m s Q E fp B X0 T hke hdp hu I hk
  obtain ⟨Xd, rd, oX, ord, RL, rfl, l, hh⟩ := I.C
  have F := I.F
  cases e : RL.find? (fun q => decide (q.k = k)) with
  | none =>
    have hv := rows_none e
    obtain ⟨nd, ⟨k1, t1, n1, rfl⟩, lrd, drd, kok, ok, fn⟩ := id l
    have hfk : f k = none := by rw [fn]; unfold rowsF; rw [e]; rfl
    have ndH : List.Nodup [X, Xd, rd] := (List.nodup_append.mp (show ([X, Xd, rd] ++ _).Nodup from nd)).1
    have N := I.news (hid := [(X, instObj 248 Xd), (Xd, _), (rd, ord)]) (fun p hp => ⟨List.mem_map_of_mem (mem_head3 hp), hh p (mem_head3 hp)⟩)
    refine wpAny_call ?_
    refine enter (K := hd.heap_1 w.params) (f := 266) (cl := []) B F X0 T N rfl rfl hke ((X0.keeps F.keep) _ _ (by k_is)) rfl (codeRec_of (X0.keeps F.keep) (by k_is)) (by k_room) (BindsTo.of_eq rfl) (locs rfl) ?_ (by decide) rfl rfl rfl
    intro g' L' h' keep gone fresh F' N' B' X' T' lt
    clear N F B X0 T
    try dsimp only
    try k_fold
    repeat' ((fail_if_success (with_reducible show wpAny _ _ (PySem.call (Value.ref 203) _ _) _ _ _)); first | (k_unfold; (try dsimp only)) | walk1 | (dsimp only; walk1) | fail "no step")
    change wpAny _ (ktrTop (dp + 1) (un + 3) gd _ _ L' 266 _ [] (envX cn cs L a ccd cl :: outer)) _ _ _ _
    (with_reducible rename News _ _ _ _ => NN)
    (with_reducible rename Fr _ _ _ _ => FF)
    (with_reducible rename SD _ _ => hsd)
    have NR : News g' L' _ (_ :: _ :: _ :: _ :: [_, _, _]) := news_idx NN [1, 2, 3, 0, 4, 5, 6]
    refine row_add_R (vs := [_]) (ns := [-1]) B' X' T' rfl (by omega) (by omega) FF NR (nd_idx 7 hsd.all rfl [1, 2, 3, 0, 4, 5, 6] (by decide) (by decide)) (.cons _ _ .nil) (by assumption) (by assumption) (by decide) (fun ea => absurd ea (by simp only [List.any_cons, List.any_nil, Bool.or_false, beq_iff_eq]; omega)) ?_
    · intro _ D vs' c' h1' h2' t1' t2' h2 tk2 F2 N2 s2 iv2
      dsimp only
      repeat' (first | (k_unfold; (try dsimp only)) | walk1 | (dsimp only; walk1) | fail "no step")
      all_goals (repeat' (first | k_unfold | (dsimp only)))
      (with_reducible rename News _ _ _ _ => NE)
      (with_reducible rename Fr _ _ _ _ => FE)
      rw [show addA ((f k).getD [-1]) i = [i] ++ [-1] by rw [hfk]; simp only [Option.getD_none, addA, List.any_cons, List.any_nil, Bool.or_false, beq_iff_eq]; rw [if_neg (by omega)]; rfl] at hk
      obtain ⟨fp', hC, hn⟩ := hook_new' l hh e keep gone FE NE (by k_mem) (by k_mem) (by k_mem) (by k_mem) (by k_mem) (by k_mem) (by k_mem) iv2 (by assumption) (by assumption) (by assumption) h0 h9 (nd_idx 8 s2.all rfl [5, 6, 7, 1, 2, 0, 4] (by decide) (by decide))
      exact leafDone I keep gone (fun p hp => List.mem_map_of_mem (mem_head3 hp)) hk FE NE fp' hC hn
  | some q =>
    have hv := rows_some e
    obtain ⟨A, Bl, rfl, hkq, hA⟩ := find_split e
    obtain ⟨nd, ⟨k1, t1, n1, rfl⟩, lrd, drd, kok, ok, fn⟩ := id l
    obtain ⟨iv, ddd, ldd⟩ := ok q (List.mem_append_right _ (.head _))
    have hfk : f k = some q.ns := by rw [fn]; unfold rowsF; rw [e]; rfl
    have hl : q.ns.length < 60 := hsz _ hfk
    have nd7' := nd7_of nd
    have N := I.news (hid := [(X, instObj 248 Xd), (Xd, _), (rd, ord), (q.r, instObj 213 q.d), (q.d, dictOf [⟨q.h1, .str "items" q.t1, .ref q.il⟩, ⟨q.h2, .str "depths" q.t2, .ref q.dd⟩] 2), (q.il, listOf q.vs.toArray q.c), (q.dd, q.odd)]) (fun p hp => ⟨List.mem_map_of_mem (mem_head7 hp), hh p (mem_head7 hp)⟩)
    refine wpAny_call ?_
    refine enter (K := hd.heap_1 w.params) (f := 266) (cl := []) B F X0 T N rfl rfl hke ((X0.keeps F.keep) _ _ (by k_is)) rfl (codeRec_of (X0.keeps F.keep) (by k_is)) (by k_room) (BindsTo.of_eq rfl) (locs rfl) ?_ (by decide) rfl rfl rfl
    intro g' L' h' keep gone fresh F' N' B' X' T' lt
    clear N F B X0 T
    try dsimp only
    try k_fold
    repeat' ((fail_if_success (with_reducible show wpAny _ _ (PySem.call (Value.ref 203) _ _) _ _ _)); first | (k_unfold; (try dsimp only)) | walk1 | (dsimp only; walk1) | fail "no step")
    change wpAny _ (ktrTop (dp + 1) (un + 3) gd _ _ L' 266 _ [] (envX cn cs L a ccd cl :: outer)) _ _ _ _
    (with_reducible rename News _ _ _ _ => NN)
    (with_reducible rename Fr _ _ _ _ => FF)
    have NR : News g' L' _ (_ :: _ :: _ :: _ :: [_, _, _]) := news_idx NN [3, 4, 5, 6, 0, 1, 2]
    refine row_add_R B' X' T' rfl (by omega) (by omega) FF NR (nd_idx 7 nd7' rfl [3, 4, 5, 6, 0, 1, 2] (by decide) (by decide)) iv ddd ldd hl ?_ ?_
    · intro ea h2 tk2 F2 N2
      dsimp only
      repeat' (first | (k_unfold; (try dsimp only)) | walk1 | (dsimp only; walk1) | fail "no step")
      all_goals (repeat' (first | k_unfold | (dsimp only)))
      (with_reducible rename News _ _ _ _ => NE)
      (with_reducible rename Fr _ _ _ _ => FE)
      rw [show addA ((f k).getD [-1]) i = q.ns by rw [hfk]; simp only [Option.getD_some, addA]; rw [if_pos ea]] at hk
      subst hkq
      obtain ⟨fp', hC, hn⟩ := hook_swap' l hh hA keep gone FE NE (by k_mem) (by k_mem) (by k_mem) (by k_mem) (by k_mem) (by k_mem) (by k_mem) iv nd7'
      exact leafDone I keep gone (fun p hp => List.mem_map_of_mem (mem_head7 hp)) hk FE NE fp' hC hn
    · intro ea D vs' c' h1' h2' t1' t2' h2 tk2 F2 N2 s2 iv2
      dsimp only
      repeat' (first | (k_unfold; (try dsimp only)) | walk1 | (dsimp only; walk1) | fail "no step")
      all_goals (repeat' (first | k_unfold | (dsimp only)))
      (with_reducible rename News _ _ _ _ => NE)
      (with_reducible rename Fr _ _ _ _ => FE)
      rw [show addA ((f k).getD [-1]) i = [i] ++ q.ns by rw [hfk]; simp only [Option.getD_some, addA]; rw [if_neg (by rw [ea]; exact Bool.false_ne_true)]; rfl] at hk
      subst hkq
      obtain ⟨fp', hC, hn⟩ := hook_swap' l hh hA keep gone FE NE (by k_mem) (by k_mem) (by k_mem) (by k_mem) (by k_mem) (by k_mem) (by k_mem) iv2 (nd_idx 8 s2.all rfl [5, 6, 7, 1, 2, 0, 4] (by decide) (by decide))
      exact leafDone I keep gone (fun p hp => List.mem_map_of_mem (mem_head7 hp)) hk FE NE fp' hC hn
end
section
theorem wtMk : True := by
  w_top off
  trivial
variable {prog : Program} {w : World} {p : Program} {loose : List Str} {mean : ExcName → Option Value} {mg mb : Str → Option Value}
theorem mk_hooks {dp un : Nat} {gd : Option (List Code)} {cn : Str} {cs : Scope} {a : Addr} {ccd : Value} {cl : List (Str × Addr)} {outer : List Env} {A₀ : Around} {base h₀ : Heap} {L : Addr} {m : Str → Option Value} {s : Shared} {Q E : Value → Shared → Prop} {W : List (Addr × Obj)}
    (B : Below A₀ base outer h₀) (X0 : (hd.heap_1 w.params).In h₀) (T : Top p loose mean mg mb h₀) (hke : cs.kind = .function) (hdp : dp + 5 < 1000) (hdu : un + 100 < 9000) (F : Fr h₀ L s.heap m) (N : News h₀ L s.heap W) (nd : (W.map (·.1)).Nodup)
    (hk : ∀ x d a0 o0 k0 t0 h' tk', Fr h₀ L h' m → News h₀ L h' ((a0, o0) :: (x, instObj 248 d) :: (d, dictOf [⟨k0, .str "rows" t0, .ref a0⟩] 1) :: W) → SD a0 (x :: d :: W.map (·.1)) → o0.IsDictOf (PySem.intKind prog w) [] → (a0 == sysModules) = false → Q (.ref x) { s with heap := h', toks := tk' }) :
    wpAny (model prog w) (ktrTop dp un gd cn cs L a ccd cl outer) (call (.ref 248) []) Q E s := by
  repeat' (first | (k_unfold; (try dsimp only)) | walk1 | (dsimp only; walk1) | fail "no step")
  all_goals (repeat' (first | k_unfold | (dsimp only)))
  (with_reducible rename News _ _ _ _ => NN)
  (with_reducible rename Fr _ _ _ _ => FF)
  (with_reducible rename SD _ _ => sd)
  exact hk _ _ _ _ _ _ _ _ FF NN sd (by assumption) (by assumption)
theorem mk_locals {dp un : Nat} {gd : Option (List Code)} {cn : Str} {cs : Scope} {a : Addr} {ccd : Value} {cl : List (Str × Addr)} {outer : List Env} {A₀ : Around} {base h₀ : Heap} {L : Addr} {m : Str → Option Value} {s : Shared} {Q E : Value → Shared → Prop} {W : List (Addr × Obj)}
    (B : Below A₀ base outer h₀) (X0 : (hd.heap_1 w.params).In h₀) (T : Top p loose mean mg mb h₀) (hke : cs.kind = .function) (hdp : dp + 5 < 1000) (hdu : un + 100 < 9000) (F : Fr h₀ L s.heap m) (N : News h₀ L s.heap W) (nd : (W.map (·.1)).Nodup)
    (hk : ∀ x d a0 o0 k0 t0 h' tk', Fr h₀ L h' m → News h₀ L h' ((a0, o0) :: (x, instObj 398 d) :: (d, dictOf [⟨k0, .str "values" t0, .ref a0⟩] 1) :: W) → SD a0 (x :: d :: W.map (·.1)) → o0.IsDictOf (PySem.intKind prog w) [] → (a0 == sysModules) = false → Q (.ref x) { s with heap := h', toks := tk' }) :
    wpAny (model prog w) (ktrTop dp un gd cn cs L a ccd cl outer) (call (.ref 398) []) Q E s := by
  repeat' (first | (k_unfold; (try dsimp only)) | walk1 | (dsimp only; walk1) | fail "no step")
  all_goals (repeat' (first | k_unfold | (dsimp only)))
  (with_reducible rename News _ _ _ _ => NN)
  (with_reducible rename Fr _ _ _ _ => FF)
  (with_reducible rename SD _ _ => sd)
  exact hk _ _ _ _ _ _ _ _ FF NN sd (by assumption) (by assumption)
theorem mk_vars {dp un : Nat} {gd : Option (List Code)} {cn : Str} {cs : Scope} {a : Addr} {ccd : Value} {cl : List (Str × Addr)} {outer : List Env} {A₀ : Around} {base h₀ : Heap} {L : Addr} {m : Str → Option Value} {s : Shared} {Q E : Value → Shared → Prop} {W : List (Addr × Obj)}
    (B : Below A₀ base outer h₀) (X0 : (hd.heap_1 w.params).In h₀) (T : Top p loose mean mg mb h₀) (hke : cs.kind = .function) (hdp : dp + 5 < 1000) (hdu : un + 100 < 9000) (F : Fr h₀ L s.heap m) (N : News h₀ L s.heap W) (nd : (W.map (·.1)).Nodup)
    (hk : ∀ x d a0 a1 a2 o0 o1 o2 k0 k1 k2 t0 t1 t2 h' tk', Fr h₀ L h' m → News h₀ L h' ((a2, o2) :: (a1, o1) :: (a0, o0) :: (x, instObj 344 d) :: (d, dictOf [⟨k0, .str "defaults" t0, .ref a0⟩, ⟨k1, .str "automatic" t1, .ref a1⟩, ⟨k2, .str "permanent" t2, .ref a2⟩] 3) :: W) → SD a2 (a1 :: a0 :: x :: d :: W.map (·.1)) → o0.IsDictOf (PySem.intKind prog w) [] → (a0 == sysModules) = false → o1.IsDictOf (PySem.intKind prog w) [] → (a1 == sysModules) = false → o2.IsDictOf (PySem.intKind prog w) [] → (a2 == sysModules) = false → Q (.ref x) { s with heap := h', toks := tk' }) :
    wpAny (model prog w) (ktrTop dp un gd cn cs L a ccd cl outer) (call (.ref 344) []) Q E s := by
  repeat' (first | (k_unfold; (try dsimp only)) | walk1 | (dsimp only; walk1) | fail "no step")
  all_goals (repeat' (first | k_unfold | (dsimp only)))
  (with_reducible rename News _ _ _ _ => NN)
  (with_reducible rename Fr _ _ _ _ => FF)
  (with_reducible rename SD _ _ => sd)
  exact hk _ _ _ _ _ _ _ _ _ _ _ _ _ _ _ _ FF NN sd (by assumption) (by assumption) (by assumption) (by assumption) (by assumption) (by assumption)
theorem mk_table {dp un : Nat} {gd : Option (List Code)} {cn : Str} {cs : Scope} {a : Addr} {ccd : Value} {cl : List (Str × Addr)} {outer : List Env} {A₀ : Around} {base h₀ : Heap} {L : Addr} {m : Str → Option Value} {s : Shared} {Q E : Value → Shared → Prop} {W : List (Addr × Obj)}
    (B : Below A₀ base outer h₀) (X0 : (hd.heap_1 w.params).In h₀) (T : Top p loose mean mg mb h₀) (hke : cs.kind = .function) (hdp : dp + 5 < 1000) (hdu : un + 100 < 9000) (F : Fr h₀ L s.heap m) (N : News h₀ L s.heap W) (nd : (W.map (·.1)).Nodup)
    (hk : ∀ x d a0 a1 a2 o0 o1 k0 k1 k2 t0 t1 t2 h' tk', Fr h₀ L h' m → News h₀ L h' ((a2, listOf #[] 0) :: (a1, o1) :: (a0, o0) :: (x, instObj 135 d) :: (d, dictOf [⟨k0, .str "majors" t0, .ref a0⟩, ⟨k1, .str "minors" t1, .ref a1⟩, ⟨k2, .str "order" t2, .ref a2⟩] 3) :: W) → SD a2 (a1 :: a0 :: x :: d :: W.map (·.1)) → o0.IsDictOf (PySem.intKind prog w) [] → (a0 == sysModules) = false → Q (.ref x) { s with heap := h', toks := tk' }) :
    wpAny (model prog w) (ktrTop dp un gd cn cs L a ccd cl outer) (call (.ref 135) []) Q E s := by
  repeat' (first | (k_unfold; (try dsimp only)) | walk1 | (dsimp only; walk1) | fail "no step")
  all_goals (repeat' (first | k_unfold | (dsimp only)))
  (with_reducible rename News _ _ _ _ => NN)
  (with_reducible rename Fr _ _ _ _ => FF)
  (with_reducible rename SD _ _ => sd)
  exact hk _ _ _ _ _ _ _ _ _ _ _ _ _ _ _ FF NN sd (by assumption) (by assumption)
theorem mk_state {dp un : Nat} {gd : Option (List Code)} {cn : Str} {cs : Scope} {a : Addr} {ccd : Value} {cl : List (Str × Addr)} {outer : List Env} {A₀ : Around} {base h₀ : Heap} {L : Addr} {m : Str → Option Value} {s : Shared} {Q E : Value → Shared → Prop} {i : Int} {tm : Tok} {W : List (Addr × Obj)}
    (B : Below A₀ base outer h₀) (X0 : (hd.heap_1 w.params).In h₀) (T : Top p loose mean mg mb h₀) (hke : cs.kind = .function) (hdp : dp + 5 < 1000) (hdu : un + 100 < 9000) (F : Fr h₀ L s.heap m) (N : News h₀ L s.heap W) (nd : (W.map (·.1)).Nodup)
    (hk : ∀ x d a1 k0 k1 t0 t1 h' tk', Fr h₀ L h' m → News h₀ L h' ((a1, listOf #[] 0) :: (x, instObj 163 d) :: (d, dictOf [⟨k0, .str "major" t0, .int i tm⟩, ⟨k1, .str "on" t1, .ref a1⟩] 2) :: W) → SD a1 (x :: d :: W.map (·.1)) → Q (.ref x) { s with heap := h', toks := tk' }) :
    wpAny (model prog w) (ktrTop dp un gd cn cs L a ccd cl outer) (call (.ref 163) [.int i tm]) Q E s := by
  repeat' (first | (k_unfold; (try dsimp only)) | walk1 | (dsimp only; walk1) | fail "no step")
  all_goals (repeat' (first | k_unfold | (dsimp only)))
  (with_reducible rename News _ _ _ _ => NN)
  (with_reducible rename Fr _ _ _ _ => FF)
  (with_reducible rename SD _ _ => sd)
  exact hk _ _ _ _ _ _ _ _ _ FF NN sd
end
section
theorem wtFuncs : True := by
  w_top off
  trivial
theorem kwFuncs1 : True := by
  k_with_none
  k_with "W1" => ((fail_if_success (with_reducible show wpAny _ _ (PySem.call (Value.ref _) _ _) _ _ _)); (fail_if_success (with_reducible show wpAny _ _ (pyIter _) _ _ _)); (fail_if_success (with_reducible show wpAny _ _ (PySem.exec (Stmt.For _ _ _ _ _) _) _ _ _)); first | (k_unfold; (try dsimp only)) | walk1 | (dsimp only; walk1) | fail "no step")
  k_with "k_enter" => (first | (refine' code_def (by k_asm) (by k_asm) (by k_asm) (by k_asm) (by k_asm) rfl rfl (by first | exact rfl | assumption) (by k_is) (by k_is) (by k_room) (by first | exact BindsTo.of_eq rfl | exact binds_K (by k_in) rfl (by k_is) rfl rfl rfl) (by exact locs rfl) ?_ (by exact rfl) (by exact rfl) (by exact rfl) (by decide); k_whole; intro _ _ _ _ _ _ Bz9 _ _; (try dsimp only); (try k_lift Bz9); (try k_fold)) | (refine' code_defC (by k_asm) (by k_asm) (by k_asm) (by k_asm) (by k_asm) rfl rfl (by first | exact rfl | assumption) (by k_is) (by k_is) (by k_room) (by first | exact BindsTo.of_eq rfl | exact binds_K (by k_in) rfl (by k_is) rfl rfl rfl) (by exact rfl) (by decide +kernel) ?_ (by exact rfl) (by exact rfl) (by exact rfl); k_whole; intro _ _ _ _ _ _ _ Nz9 Yz9 Bz9 _ _ lz9; (try k_lt lz9); k_cells Yz9; (try simp only [List.cons_append, List.nil_append] at Nz9); (try dsimp only); (try k_lift Bz9); (try k_fold)) | fail)
  k_with "execs cons" => (k_fold; (first | show wpAny _ AB (PySem.execs _ eB) _ _ _ | (show (let eB := _; let AB := _; wpAny _ AB (PySem.execs _ eB) _ _ _); intro eB AB)); refine wpAny_execs_cons ?_)
  k_with "omega" => first | exact Nat.le_of_ble_eq_true rfl | with_reducible assumption | exact Mine.o1 (by with_reducible assumption) (by exact rfl) | exact Mine.o3 (by with_reducible assumption) (by exact rfl) | exact Mine.o2 (by with_reducible assumption) (by exact rfl) | exact Mine.o4 (by with_reducible assumption) (by exact rfl) | exact Mine.o5 (by with_reducible assumption) (by exact rfl) | exact Mine.o6 (by with_reducible assumption) (by exact rfl) | exact Mine.o7 (by with_reducible assumption) (by exact rfl) | exact Mine.o8 (by with_reducible assumption) (by exact rfl) | exact Mine.o9 (by with_reducible assumption) (by exact rfl) | exact Mine.o10 (by with_reducible assumption) (by exact rfl) | exact Mine.o11 (by with_reducible assumption) (by exact rfl) | exact Mine.o12 (by with_reducible assumption) (by exact rfl) | exact Mine.o13 (by with_reducible assumption) (by exact rfl) | exact Nat.ne_of_lt (by with_reducible assumption) | exact Nat.ne_of_gt (by with_reducible assumption) | exact Nat.le_of_lt (by with_reducible assumption) | fail
  k_with "k_room" => ((try simp only [depth_mark, depth_under_make, depth_under_kw, depth_in1, depth_deeper]); first | assumption | (show _ < 1000; (try dsimp only); omega))
  k_with "k_ne" => ((refine neN ?_); (try dsimp only); first | assumption | exact Ne.symm (by assumption))
  k_with "compareOp In int ref" => (k_here; k_dflt (first | (refine' in_C (by k_asm) (by k_mem) (by k_asm) (by k_asm) (by k_asm) ?_) | (refine' in_I (by k_asm) (by k_mem) (by k_asm) (by k_asm) (by k_asm) ?_) | (refine' in_B (by k_asm) (by k_mem) (by k_asm) (by k_asm) (by k_asm) ?_)))
  k_with "compareOp NotIn int ref" => (k_here; k_dflt ( (refine' notin_C (by k_asm) (by k_mem) (by k_asm) (by k_asm) (by k_asm) ?_)))
  k_with "call builtin:dict.get" => (k_here; k_dflt (first | (refine' get_I (by k_asm) (by k_mem) (by k_asm) (by k_asm) (by k_asm) ?_; refine ⟨fun _ _ _ => ?_, fun _ => ?_⟩) | (refine' get_B (by k_asm) (by k_mem) (by k_asm) (by k_asm) (by k_asm) ?_; (try simp only [Bool.or_false]))))
  k_with "getMethod ref" => (k_here; (with_reducible show wpAny _ _ (getMethod (Value.ref _) (Str.ofString "get") _) _ _ _); k_dflt (refine' kdg_method (knd := PySem.intKind _ _) (by k_asm) (by k_mem) (by k_asm) ?_))
  k_with "subscriptTail" => (k_here; (with_reducible show wpAny _ _ (subscriptTail _ _ (Value.ref _) (Value.int _ _)) _ _ _); k_dflt (refine' item_C (by k_asm) (by k_mem) (by k_asm) (by k_asm) (by k_asm) ?_ (by with_unfolding_all rfl); intro _ _ _ _))
  k_with "setItem ref int" => (k_here; k_dflt (refine' kda_set (knd := PySem.intKind _ _) (by k_asm) (by k_asm) (by k_updF) (by k_asm) (intKind_is _ _ _ _) (by exact KOK.line (by k_asm) (by k_asm)) ?_; intro hz9 oz9 Fz9 Nz9 hdz9; (try dsimp only at Nz9); (try k_sweep); revert hz9 oz9 Fz9 Nz9 hdz9; intro _ _ _ _ _))
  trivial
variable {prog : Program} {w : World} {p : Program} {loose : List Str} {mean : ExcName → Option Value} {mg mb : Str → Option Value}
theorem kwFuncs2 : True := by
  k_with "eval ListComp" => (k_here; k_dflt (refine LCt.ListComp_T (F₀ := by k_asm) (by with_unfolding_all rfl) (by decide) (by rfl) (by decide) (by rfl) ?_))
  k_with "CompSrcT" => (k_here; k_dflt (first | (refine' LCt.CompSrcT.ledger rfl (by k_asm) (by k_asm) (by k_mem) (by k_asm) ?_) | (refine' LCt.CompSrcT.base rfl (by k_asm) (by k_asm) (by k_asm) (by k_asm) ?_)); intro _; k_dflt (refine' flt_rest (by k_asm) (by k_asm) (by first | exact .inl (by k_asm) | exact .inr ⟨_, by k_mem, rfl, _, rfl⟩) rfl rfl (by decide) (fun _ _ _ _ _ _ _ _ _ _ _ _ _ _ _ _ _ _ _ => ?_) (fun _ _ => ?_)); (all_goals (try (simp only [LCg.Off3, and_true] at off'))))
  k_with "FltT" => (k_here; k_dflt (refine' flt_t (by k_asm) (by k_asm) (by intro pz9 hpz9; first | exact hpz9 | exact .tail _ hpz9 | exact .tail _ (.tail _ hpz9) | exact .tail _ (.tail _ (.tail _ hpz9))) ?_); (try rfl))
  k_with "call type:list" => (k_here; k_dflt (refine' list_D rfl (by k_asm) (by k_asm) (by k_mem) (by k_asm) (by k_asm) (by k_asm) ?_); intro Bz9 cz9 hz9 tkz9 vsz9 Fz9 Nz9 l1z9 hiz9 h64z9 hszz9; (try k_lt l1z9); (try k_sweep); revert Bz9 cz9 hz9 tkz9 vsz9 Fz9 Nz9 l1z9 hiz9 h64z9 hszz9; intro _ _ _ _ _ _ _ _ _ _ _)
  k_with "call builtin:sorted" => (k_here; k_dflt (refine' sorted_L (by k_asm) (by k_asm) (by k_mem) (by k_asm) (by k_asm) ?_); intro Bz9 vsz9 nsz9 cz9 hz9 Fz9 Nz9 l1z9 hiz9 hpmz9 h64z9 hszz9; (try k_lt l1z9); (try k_sweep); revert Bz9 vsz9 nsz9 cz9 hz9 Fz9 Nz9 l1z9 hiz9 hpmz9 h64z9 hszz9; intro _ _ _ _ _ _ _ _ _ _ _ _)
  k_with "call builtin:dict.pop" => (k_here; k_dflt (refine' pop_C (by k_asm) (by k_asm) (by k_updF) (by k_asm) (by k_asm) (by k_asm) ?_); intro hz9 oz9 vz9 Fz9 Nz9 hdz9; (try dsimp only at Nz9); (try k_sweep); revert hz9 oz9 vz9 Fz9 Nz9 hdz9; intro _ _ _ _ _ _)
  k_with "getMethod ref" => (k_here; (with_reducible show wpAny _ _ (getMethod (Value.ref _) (Str.ofString "pop") _) _ _ _); k_dflt (refine' popm_D (by k_asm) (by k_mem) (by k_asm) ?_))
  k_with "eval Name" => (k_here; k_dflt (refine' nameX_L (by k_asm) (by first | exact rfl | assumption) ?_ (by rfl) (by rfl); k_whole))
  k_with "k_ne" => ((refine neN ?_); (try dsimp only); first | assumption | exact Ne.symm (by assumption) | omega)
  k_with "k_units" => (first | exact Nat.le_of_ble_eq_true rfl | (simp only [ktrTop, units_deeper, units_in1, cLine_is]; omega) | ((try dsimp only [ktrTop, Around.deeper, Around.in1, Around.under]); rw [cLine_is]; omega))
  k_with "compareOp In int ref" => (k_here; k_dflt (first | (refine' in_list_ints (by first | exact led_list (by k_asm) (by k_mem) | exact base_list (by k_asm) (by k_asm)) (by first | k_asm | exact .cons _ _ .nil | exact .nil) ?_; k_whole) | (refine' in_E (by k_asm) (by k_asm) (by k_asm) (by k_asm) ?_)))
  k_with "compareOp NotEq ref ref" => (k_here; k_dflt (refine' ne_E (by k_asm) (by k_mem) (by k_mem) (by k_asm) (by k_asm) (by k_asm) (by k_asm) (by k_units) ?_))
  k_with "binaryOp Add ref ref" => (k_here; k_dflt (refine' add_L (by k_asm) (by k_asm) (by first | exact led_list (by k_asm) (by k_mem) | exact base_list (by k_asm) (by k_asm)) (by first | exact led_list (by k_asm) (by k_mem) | exact base_list (by k_asm) (by k_asm)) (by first | k_asm | exact .cons _ _ .nil | exact .nil) (by first | k_asm | exact .cons _ _ .nil | exact .nil) (by first | k_asm | (simp only [List.length_cons, List.length_nil, sizeLine_eq]; omega)) ?_); intro hz9 Dz9 Fz9 Nz9 l1z9 hiz9; (try k_lt l1z9); (try k_sweep); revert hz9 Dz9 Fz9 Nz9 l1z9 hiz9; intro _ _ _ _ _ _)
  k_with "call builtin:dict.get" => (k_here; k_dflt (first | (refine' get_V (by k_asm) (by k_mem) (by k_asm) (by k_asm) (by first | k_asm | exact vaSame _ _ _) ?_) | (refine' get_N (by k_asm) (by k_mem) (by k_asm) (by k_asm) (by k_asm) ?_)))
  k_with "call type:list" => (k_here; k_dflt (refine' copy_L (by k_asm) (by k_asm) (by k_mem) (by k_asm) ?_); intro Bz9 cz9 hz9 tkz9 Fz9 Nz9 l1z9; (try k_lt l1z9); (try k_sweep); revert Bz9 cz9 hz9 tkz9 Fz9 Nz9 l1z9; intro _ _ _ _ _ _ _)
  k_with "call builtin:list.extend" => (k_here; k_dflt (refine' ext_L (by k_asm) (by k_asm) (by k_updF) (by k_mem) (by first | k_asm | exact .cons _ _ .nil | exact .nil) (by first | k_asm | exact .cons _ _ .nil | exact .nil) (by first | k_asm | (simp only [List.length_cons, List.length_nil, sizeLine_eq]; omega)) ?_); intro hz9 nz9 Fz9 Nz9 hiz9; (try dsimp only at Nz9); (try k_sweep); revert hz9 nz9 Fz9 Nz9 hiz9; intro _ _ _ _ _)
  trivial
theorem memOf' {α : Type} {a : α} {l : List α} (h : a ∈ l) : List.Mem a l := h
theorem kwFuncs9 : True := by
  k_with "k_lt0" => skip
  k_with "nd9" => ((try dsimp only [List.map]); first | exact SD.all (by with_reducible assumption) | with_reducible assumption | exact SD.all (SD.up (by with_reducible assumption)))
  trivial
theorem kwFuncs3 : True := by
  k_with "k_updF" => (refine' updF_nd (by repeat (first | exact UpdG.head | apply UpdG.tail)) (by ((try dsimp only [List.map]); first | exact SD.all (by with_reducible assumption) | with_reducible assumption | exact SD.all (SD.up (by with_reducible assumption)))))
  k_with "k_upd" => (refine' upd_nd (by repeat (first | exact UpdH.head | apply UpdH.tail)) (by ((try dsimp only [List.map]); first | exact SD.all (by with_reducible assumption) | with_reducible assumption | exact SD.all (SD.up (by with_reducible assumption)))))
  k_with "k_mem" => (with_reducible refine memOf' ?_; with_reducible assumption)
  trivial
theorem items_R {dp un : Nat} {gd : Option (List Code)} {cn : Str} {cs : Scope} {a : Addr} {ccd : Value} {cl : List (Str × Addr)} {outer : List Env} {A₀ : Around} {base h₀ : Heap} {L : Addr} {m : Str → Option Value} {s : Shared} {Q E : Value → Shared → Prop} {H Hd hr : Addr} {ohr : Obj} {HL : List RowR} {k1 : Int} {t1 : Tok} {n1 : Nat} {k : Int} {t : Tok} {W : List (Addr × Obj)}
    (B : Below A₀ base outer h₀) (X0 : (hd.heap_1 w.params).In h₀) (T : Top p loose mean mg mb h₀) (hke : cs.kind = .function) (hdp : dp + 4 < 1000) (hdu : un + 80 < 9000) (F : Fr h₀ L s.heap m) (N : News h₀ L s.heap W) (ndW : (W.map (·.1)).Nodup)
    (m1 : (H, instObj 248 Hd) ∈ W) (m2 : (Hd, dictOf [⟨k1, .str "rows" t1, .ref hr⟩] n1) ∈ W) (m3 : (hr, ohr) ∈ W) (dr : ohr.IsDictOf (PySem.intKind prog w) (rowsKvs HL)) (lr : (hr == sysModules) = false)
    (mq : ∀ q ∈ HL, (q.r, instObj 213 q.d) ∈ W ∧ (q.d, dictOf [⟨q.h1, .str "items" q.t1, .ref q.il⟩, ⟨q.h2, .str "depths" q.t2, .ref q.dd⟩] 2) ∈ W ∧ (q.il, listOf q.vs.toArray q.c) ∈ W) (okq : ∀ q ∈ HL, IntsAre q.vs q.ns) (hsz : ∀ ns, rowsF HL k = some ns → ns.length < 60)
    (hk : ∀ D h' tk' vs c, Fr h₀ L h' m → News h₀ L h' ((D, listOf vs.toArray c) :: W) → SD D (W.map (·.1)) → IntsAre vs ((rowsF HL k).getD []) → Q (.ref D) { s with heap := h', toks := tk' }) :
    wpAny (model prog w) (ktrTop dp un gd cn cs L a ccd cl outer) (call (.ref 245) [.ref H, .int k t]) Q E s := by
  cases ef : HL.find? (fun q => decide (q.k = k)) with
  | none =>
    have hv := rows_none ef
    have hf : rowsF HL k = none := by unfold rowsF; rw [ef]; rfl
    rw [hf] at hk
    clear mq okq
    repeat' (first | (k_unfold; (try dsimp only)) | walk1 | (dsimp only; walk1) | fail "no step")
    all_goals (repeat' (first | k_unfold | (dsimp only)))
    (with_reducible rename Fr _ _ _ _ => FF)
    (with_reducible rename News _ _ _ _ => NN)
    (with_reducible rename SD _ _ => hsd)
    exact hk _ _ _ [] _ FF NN hsd .nil
  | some q =>
    have hv := rows_some ef
    have hq : q ∈ HL := List.mem_of_find?_eq_some ef
    have hf : rowsF HL k = some q.ns := by unfold rowsF; rw [ef]; rfl
    obtain ⟨mq1, mq2, mq3⟩ := mq q hq
    have iv := okq q hq
    have hz : q.vs.length ≤ 100000 := by have := hsz _ hf; have := iv.length; omega
    rw [hf] at hk
    clear mq okq
    repeat' (first | (k_unfold; (try dsimp only)) | walk1 | (dsimp only; walk1) | fail "no step")
    all_goals (repeat' (first | k_unfold | (dsimp only)))
    (with_reducible rename Fr _ _ _ _ => FF)
    (with_reducible rename News _ _ _ _ => NN)
    (with_reducible rename SD _ _ => hsd)
    exact hk _ _ _ q.vs _ FF NN hsd iv
theorem functions_of_s {H R : Addr} {f g : Int → Option (List Int)} {k : Int} {t : Tok} (hszf : ∀ ns, f k = some ns → ns.length < 60) (hszg : ∀ ns, g k = some ns → ns.length < 60) :
    Spec prog w p loose mean mg mb 6 273 [.ref H, .ref R, .int k t] (Star (Hook prog w H f) (Hook prog w R g)) (fun v => Star (Star (Hook prog w H f) (Hook prog w R g)) (ListV v (calledA (f k) (g k)))) := by
  intro dp un gd cn cs a ccd cl outer A₀ base h₀ L m s Q E fp B X0 T hke hdp hu I hk
  have nd0 := (Star.good hook_good hook_good).nodup I.C
  refine hideG fun GG hGG => ?_
  obtain ⟨Hd, hr, oH, ohr, HL, Rd, rr, oR, orr, RL, rfl, l1, l2, hh1, hh2, apart⟩ := star_objs I.C
  obtain ⟨k1, t1, n1, rfl⟩ := l1.iX
  obtain ⟨k2, t2, n2, rfl⟩ := l2.iX
  rw [← List.map_append] at nd0 I hk
  suffices kk : ∀ W, hookObjs H Hd hr (dictOf [⟨k1, .str "rows" t1, .ref hr⟩] n1) ohr HL ++ hookObjs R Rd rr (dictOf [⟨k2, .str "rows" t2, .ref rr⟩] n2) orr RL = W → GG by exact kk _ rfl
  intro W hW
  have inH : ∀ p ∈ hookObjs H Hd hr (dictOf [⟨k1, .str "rows" t1, .ref hr⟩] n1) ohr HL, p ∈ W := fun p hp => hW ▸ List.mem_append_left _ hp
  have inR : ∀ p ∈ hookObjs R Rd rr (dictOf [⟨k2, .str "rows" t2, .ref rr⟩] n2) orr RL, p ∈ W := fun p hp => hW ▸ List.mem_append_right _ hp
  have m1 := inH _ (.head _)
  have m2 := inH _ (.tail _ (.head _))
  have m3 := inH _ (.tail _ (.tail _ (.head _)))
  have m4 := inR _ (.head _)
  have m5 := inR _ (.tail _ (.head _))
  have m6 := inR _ (.tail _ (.tail _ (.head _)))
  have mqH : ∀ q ∈ HL, (q.r, instObj 213 q.d) ∈ W ∧ (q.d, dictOf [⟨q.h1, .str "items" q.t1, .ref q.il⟩, ⟨q.h2, .str "depths" q.t2, .ref q.dd⟩] 2) ∈ W ∧ (q.il, listOf q.vs.toArray q.c) ∈ W := fun q hq =>
    ⟨inH _ (.tail _ (.tail _ (.tail _ (List.mem_flatMap.mpr ⟨q, hq, .head _⟩)))), inH _ (.tail _ (.tail _ (.tail _ (List.mem_flatMap.mpr ⟨q, hq, .tail _ (.head _)⟩)))), inH _ (.tail _ (.tail _ (.tail _ (List.mem_flatMap.mpr ⟨q, hq, .tail _ (.tail _ (.head _))⟩))))⟩
  have mqR : ∀ q ∈ RL, (q.r, instObj 213 q.d) ∈ W ∧ (q.d, dictOf [⟨q.h1, .str "items" q.t1, .ref q.il⟩, ⟨q.h2, .str "depths" q.t2, .ref q.dd⟩] 2) ∈ W ∧ (q.il, listOf q.vs.toArray q.c) ∈ W := fun q hq =>
    ⟨inR _ (.tail _ (.tail _ (.tail _ (List.mem_flatMap.mpr ⟨q, hq, .head _⟩)))), inR _ (.tail _ (.tail _ (.tail _ (List.mem_flatMap.mpr ⟨q, hq, .tail _ (.head _)⟩)))), inR _ (.tail _ (.tail _ (.tail _ (List.mem_flatMap.mpr ⟨q, hq, .tail _ (.tail _ (.head _))⟩))))⟩
  have hh : ∀ p ∈ W, s.heap.get? p.1 = some p.2 := fun p hp => (List.mem_append.mp (hW.symm ▸ hp)).elim (hh1 p) (hh2 p)
  have fH : rowsF HL k = f k := (l1.fn k).symm
  have fR : rowsF RL k = g k := (l2.fn k).symm
  have okH : ∀ q ∈ HL, IntsAre q.vs q.ns := fun q hq => (l1.ok q hq).iv
  have okR : ∀ q ∈ RL, IntsAre q.vs q.ns := fun q hq => (l2.ok q hq).iv
  have drf := l1.drd
  have drg := l2.drd
  have lrf := l1.lrd
  have lrg := l2.lrd
  rw [hW] at nd0 I hk
  refine hGG ?_; clear hGG GG inH inR l1 l2 hh1 hh2 apart
  have N := I.news (hid := W) (fun p hp => ⟨List.mem_map_of_mem hp, hh p hp⟩)
  have F := I.F
  refine wpAny_call ?_
  refine enter (K := hd.heap_1 w.params) (f := 273) (cl := []) B F X0 T N rfl rfl hke ((X0.keeps F.keep) _ _ (by k_is)) rfl (codeRec_of (X0.keeps F.keep) (by k_is)) (by k_room) (BindsTo.of_eq rfl) (locs rfl) ?_ (by decide) rfl rfl rfl
  intro g' L' h' keep gone fresh F' N' B' X' T' lt
  clear N F B X0 T
  refine hideG fun GG hGG => ?_
  suffices kk : ∀ m0 : Str → Option Value, Fr g' L' h' m0 → m0 (Str.ofString "hooks") = some (.ref H) → m0 (Str.ofString "own") = some (.ref R) → m0 (Str.ofString "symbol") = some (.int k t) → GG by exact kk _ F' rfl rfl rfl
  intro m0 F0 e1 e2 e3
  refine hGG ?_; clear hGG GG
  clear F'
  try dsimp only
  try k_fold
  cases eg : RL.find? (fun q => decide (q.k = k)) with
  | none =>
    have hvg := rows_none eg
    have hgk : g k = none := by rw [← fR]; unfold rowsF; rw [eg]; rfl
    repeat' ((fail_if_success (with_reducible show wpAny _ _ (PySem.exec (Stmt.For _ _ _ _ _) _) _ _ _)); (fail_if_success (with_reducible show wpAny _ _ (PySem.call (Value.ref 245) _ _) _ _ _)); first | (k_unfold; (try dsimp only)) | walk1 | (dsimp only; walk1) | fail "no step")
    change wpAny _ (ktrTop (dp + 1) (un + 3) gd _ _ L' 273 _ [] (envX cn cs L a ccd cl :: outer)) _ _ _ _
    (with_reducible rename News _ _ _ _ => NN)
    (with_reducible rename Fr _ _ _ _ => FF)
    refine items_R B' X' T' rfl (by omega) (by omega) FF NN nd0 m1 m2 m3 drf lrf mqH okH (fH.symm ▸ hszf) ?_
    intro D h2 tk2 vs c F2 N2 s2 iv
    dsimp only
    repeat' (first | (k_unfold; (try dsimp only)) | walk1 | (dsimp only; walk1) | fail "no step")
    all_goals (repeat' (first | k_unfold | (dsimp only)))
    (with_reducible rename News _ _ _ _ => NE)
    (with_reducible rename Fr _ _ _ _ => FE)
    rw [hgk] at hk
    rw [fH] at iv
    exact leafList (fun _ => rfl) (Star.good hook_good hook_good) I keep gone (fun p hp => ⟨List.mem_map_of_mem hp, hh p hp⟩) hk FE NE (fun p hp => .tail _ hp) (.head _) (fun p hp => Nat.ne_of_lt (s2.lt _ (List.mem_map_of_mem hp))) iv
  | some r =>
    have hvg := rows_some eg
    have hr : r ∈ RL := List.mem_of_find?_eq_some eg
    have hgk : g k = some r.ns := by rw [← fR]; unfold rowsF; rw [eg]; rfl
    obtain ⟨mr1, mr2, mr3⟩ := mqR r hr
    have ivr := okR r hr
    have hlr : r.ns.length < 60 := hszg _ hgk
    repeat' ((fail_if_success (with_reducible show wpAny _ _ (PySem.exec (Stmt.For _ _ _ _ _) _) _ _ _)); (fail_if_success (with_reducible show wpAny _ _ (PySem.call (Value.ref 245) _ _) _ _ _)); first | (k_unfold; (try dsimp only)) | walk1 | (dsimp only; walk1) | fail "no step")
    (with_reducible rename News _ _ _ _ => NX)
    (with_reducible rename Fr _ _ _ _ => FX)
    (with_reducible rename SD _ _ => sF)
    rename_i tkA FD hA hB
    refine hideG fun GG hGG => ?_
    suffices kk : ∀ m1' : Str → Option Value, Fr g' L' hB m1' → m1' (Str.ofString "found") = some (.ref FD) → m1' (Str.ofString "hooks") = some (.ref H) → m1' (Str.ofString "symbol") = some (.int k t) → m1' (Str.ofString "row") = some (.ref r.r) → GG by exact kk _ FX rfl e1 e3 rfl
    intro m1' F1' e1' e2' e3' e4'
    refine hGG ?_; clear hGG GG
    clear FX
    have hf60 : ((f k).getD []).length ≤ 60 := by
      cases e : f k with
      | none => simp only [Option.getD_none, List.length_nil]; omega
      | some z => have := hszf _ e; simp only [Option.getD_some]; omega
    refine For_led (g := g') (L := L') rfl (fun i m nw => ∃ u ys c, m = (fun y => if y = Str.ofString "item" then u else m1' y) ∧ nw = (FD, listOf (List.toArray ys) c) :: W ∧ IntsAre ys (calledA (f k) (some (r.ns.take i)))) r.il r.vs.toArray ?_ ?_ ?_ ?_ (fun _ => rfl)
    · rintro i m nw h ⟨u, ys, c, rfl, rfl, _⟩ F N
      exact ⟨_, (N (r.il, listOf r.vs.toArray r.c) (.tail _ mr3)).1, rfl, _, rfl⟩
    · repeat' walk1
      refine ⟨rfl, _, _, _, _, rfl, by assumption, NX, m1' (Str.ofString "item"), [], 0, ?_, rfl, .nil⟩
      funext y
      split
      · rename_i e; rw [e]
      · rfl
    · rintro i v it oi h tk m nw hx ⟨u, ys, c, rfl, rfl, iy⟩ off F1 N1
      obtain ⟨kZ, tZ, rfl, hkZ⟩ := IntsAre.at ivr i v (by simpa using hx)
      have ndI : (it :: FD :: W.map (·.1)).Nodup := List.nodup_cons.mpr ⟨fun z => (List.mem_cons.mp z).elim (fun e => off (FD, _) (.head _) e.symm) fun z => (List.mem_map.mp z).elim fun p hp => off p (.tail _ hp.1) hp.2, sF.all⟩
      have hcl := calledA_len hf60 (r.ns.take i)
      have htl : (r.ns.take i).length ≤ 60 := by rw [List.length_take]; omega
      have hz1 : (calledA (f k) (some (r.ns.take i))).length + [kZ].length ≤ sizeLine := by rw [List.length_singleton, sizeLine_eq]; omega
      have hz2 : (calledA (f k) (some (r.ns.take i))).length + ((f k).getD []).length ≤ sizeLine := by rw [sizeLine_eq]; omega
      clear NX F1'
      repeat' ((fail_if_success (with_reducible show wpAny _ _ (PySem.call (Value.ref 245) _ _) _ _ _)); first | (k_unfold; (try dsimp only)) | walk1 | (dsimp only; walk1) | fail "no step")
      · (with_reducible rename (kZ = _) => eZ)
        change wpAny _ (ktrTop (dp + 1) (un + 3) gd _ _ L' 273 _ [] (envX cn cs L a ccd cl :: outer)) _ _ _ _
        (with_reducible rename News _ _ _ _ => NN)
        (with_reducible rename Fr _ _ _ _ => FF)
        refine items_R B' X' T' rfl (by omega) (by omega) FF NN (show (((it, oi) :: (FD, listOf ys.toArray c) :: W).map (·.1)).Nodup from ndI) (.tail _ (.tail _ m1)) (.tail _ (.tail _ m2)) (.tail _ (.tail _ m3)) drf lrf (fun q hq => ⟨.tail _ (.tail _ (mqH q hq).1), .tail _ (.tail _ (mqH q hq).2.1), .tail _ (.tail _ (mqH q hq).2.2)⟩) okH (fH.symm ▸ hszf) ?_
        intro D h2 tk2 vs cD F2 N2 s2 iv
        rw [fH] at iv
        dsimp only [List.map] at s2
        dsimp only
        repeat' (first | (k_unfold; (try dsimp only)) | walk1 | (dsimp only; walk1) | fail "no step")
        (with_reducible rename Fr _ _ _ _ => FE)
        (with_reducible rename News _ _ _ _ => NE)
        refine LedEnd.mk FE (fun p hp => NE p (.tail _ hp)) (off_map off rfl) ⟨some (.int kZ tZ), _, _, ?_, rfl, ?_⟩
        · funext y
          split <;> rfl
        · rw [calledA_succ hkZ, if_pos (by rw [eZ]; rfl)]
          assumption
      · (with_reducible rename Fr _ _ _ _ => FE)
        (with_reducible rename News _ _ _ _ => NE)
        (with_reducible rename (¬ kZ = _) => eZ)
        refine LedEnd.mk FE (fun p hp => NE p (.tail _ hp)) (off_map off rfl) ⟨some (.int kZ tZ), _, _, ?_, rfl, ?_⟩
        · funext y
          split <;> rfl
        · rw [calledA_succ hkZ, if_neg (by simpa using eZ)]
          assumption
    · rintro h tk m nw ⟨u, ys, c, rfl, rfl, iy⟩ F1 N1
      clear NX F1'
      dsimp only
      repeat' (first | (k_unfold; (try dsimp only)) | walk1 | (dsimp only; walk1) | fail "no step")
      dsimp only
      repeat' (first | k_unfold | (dsimp only))
      rw [show r.vs.toArray.size = r.ns.length by rw [List.size_toArray]; exact ivr.length, List.take_length, ← hgk] at iy
      exact leafList (fun _ => rfl) (Star.good hook_good hook_good) I keep gone (fun p hp => ⟨List.mem_map_of_mem hp, hh p hp⟩) hk F1 N1 (fun p hp => .tail _ hp) (.head _) (fun p hp => Nat.ne_of_lt (sF.lt _ (List.mem_map_of_mem hp))) iy
end
section
theorem wtRecs : True := by
  w_top off
  trivial
theorem kwRecs1 : True := by
  k_with_none
  k_with "W1" => ((fail_if_success (with_reducible show wpAny _ _ (PySem.call (Value.ref _) _ _) _ _ _)); (fail_if_success (with_reducible show wpAny _ _ (pyIter _) _ _ _)); (fail_if_success (with_reducible show wpAny _ _ (PySem.exec (Stmt.For _ _ _ _ _) _) _ _ _)); first | (k_unfold; (try dsimp only)) | walk1 | (dsimp only; walk1) | fail "no step")
  k_with "k_enter" => (first | (refine' code_def (by k_asm) (by k_asm) (by k_asm) (by k_asm) (by k_asm) rfl rfl (by first | exact rfl | assumption) (by k_is) (by k_is) (by k_room) (by first | exact BindsTo.of_eq rfl | exact binds_K (by k_in) rfl (by k_is) rfl rfl rfl) (by exact locs rfl) ?_ (by exact rfl) (by exact rfl) (by exact rfl) (by decide); k_whole; intro _ _ _ _ _ _ Bz9 _ _; (try dsimp only); (try k_lift Bz9); (try k_fold)) | (refine' code_defC (by k_asm) (by k_asm) (by k_asm) (by k_asm) (by k_asm) rfl rfl (by first | exact rfl | assumption) (by k_is) (by k_is) (by k_room) (by first | exact BindsTo.of_eq rfl | exact binds_K (by k_in) rfl (by k_is) rfl rfl rfl) (by exact rfl) (by decide +kernel) ?_ (by exact rfl) (by exact rfl) (by exact rfl); k_whole; intro _ _ _ _ _ _ _ Nz9 Yz9 Bz9 _ _ lz9; (try k_lt lz9); k_cells Yz9; (try simp only [List.cons_append, List.nil_append] at Nz9); (try dsimp only); (try k_lift Bz9); (try k_fold)) | fail)
  k_with "execs cons" => (k_fold; (first | show wpAny _ AB (PySem.execs _ eB) _ _ _ | (show (let eB := _; let AB := _; wpAny _ AB (PySem.execs _ eB) _ _ _); intro eB AB)); refine wpAny_execs_cons ?_)
  k_with "omega" => first | exact Nat.le_of_ble_eq_true rfl | with_reducible assumption | exact Mine.o1 (by with_reducible assumption) (by exact rfl) | exact Mine.o3 (by with_reducible assumption) (by exact rfl) | exact Mine.o2 (by with_reducible assumption) (by exact rfl) | exact Mine.o4 (by with_reducible assumption) (by exact rfl) | exact Mine.o5 (by with_reducible assumption) (by exact rfl) | exact Mine.o6 (by with_reducible assumption) (by exact rfl) | exact Mine.o7 (by with_reducible assumption) (by exact rfl) | exact Mine.o8 (by with_reducible assumption) (by exact rfl) | exact Mine.o9 (by with_reducible assumption) (by exact rfl) | exact Mine.o10 (by with_reducible assumption) (by exact rfl) | exact Mine.o11 (by with_reducible assumption) (by exact rfl) | exact Mine.o12 (by with_reducible assumption) (by exact rfl) | exact Mine.o13 (by with_reducible assumption) (by exact rfl) | exact Nat.ne_of_lt (by with_reducible assumption) | exact Nat.ne_of_gt (by with_reducible assumption) | exact Nat.le_of_lt (by with_reducible assumption) | fail
  k_with "k_room" => ((try simp only [depth_mark, depth_under_make, depth_under_kw, depth_in1, depth_deeper]); first | assumption | (show _ < 1000; (try dsimp only); omega))
  k_with "k_ne" => ((refine neN ?_); (try dsimp only); first | assumption | exact Ne.symm (by assumption))
  k_with "compareOp In int ref" => (k_here; k_dflt (first | (refine' in_C (by k_asm) (by k_mem) (by k_asm) (by k_asm) (by k_asm) ?_) | (refine' in_I (by k_asm) (by k_mem) (by k_asm) (by k_asm) (by k_asm) ?_) | (refine' in_B (by k_asm) (by k_mem) (by k_asm) (by k_asm) (by k_asm) ?_)))
  k_with "compareOp NotIn int ref" => (k_here; k_dflt ( (refine' notin_C (by k_asm) (by k_mem) (by k_asm) (by k_asm) (by k_asm) ?_)))
  k_with "call builtin:dict.get" => (k_here; k_dflt (first | (refine' get_I (by k_asm) (by k_mem) (by k_asm) (by k_asm) (by k_asm) ?_; refine ⟨fun _ _ _ => ?_, fun _ => ?_⟩) | (refine' get_B (by k_asm) (by k_mem) (by k_asm) (by k_asm) (by k_asm) ?_; (try simp only [Bool.or_false]))))
  k_with "getMethod ref" => (k_here; (with_reducible show wpAny _ _ (getMethod (Value.ref _) (Str.ofString "get") _) _ _ _); k_dflt (refine' kdg_method (knd := PySem.intKind _ _) (by k_asm) (by k_mem) (by k_asm) ?_))
  k_with "subscriptTail" => (k_here; (with_reducible show wpAny _ _ (subscriptTail _ _ (Value.ref _) (Value.int _ _)) _ _ _); k_dflt (refine' item_C (by k_asm) (by k_mem) (by k_asm) (by k_asm) (by k_asm) ?_ (by with_unfolding_all rfl); intro _ _ _ _))
  k_with "setItem ref int" => (k_here; k_dflt (refine' kda_set (knd := PySem.intKind _ _) (by k_asm) (by k_asm) (by k_updF) (by k_asm) (intKind_is _ _ _ _) (by exact KOK.line (by k_asm) (by k_asm)) ?_; intro hz9 oz9 Fz9 Nz9 hdz9; (try dsimp only at Nz9); (try k_sweep); revert hz9 oz9 Fz9 Nz9 hdz9; intro _ _ _ _ _))
  trivial
variable {prog : Program} {w : World} {p : Program} {loose : List Str} {mean : ExcName → Option Value} {mg mb : Str → Option Value}
theorem kwRecs2 : True := by
  k_with "eval ListComp" => (k_here; k_dflt (refine LCt.ListComp_T (F₀ := by k_asm) (by with_unfolding_all rfl) (by decide) (by rfl) (by decide) (by rfl) ?_))
  k_with "CompSrcT" => (k_here; k_dflt (first | (refine' LCt.CompSrcT.ledger rfl (by k_asm) (by k_asm) (by k_mem) (by k_asm) ?_) | (refine' LCt.CompSrcT.base rfl (by k_asm) (by k_asm) (by k_asm) (by k_asm) ?_)); intro _; k_dflt (refine' flt_rest (by k_asm) (by k_asm) (by first | exact .inl (by k_asm) | exact .inr ⟨_, by k_mem, rfl, _, rfl⟩) rfl rfl (by decide) (fun _ _ _ _ _ _ _ _ _ _ _ _ _ _ _ _ _ _ _ => ?_) (fun _ _ => ?_)); (all_goals (try (simp only [LCg.Off3, and_true] at off'))))
  k_with "FltT" => (k_here; k_dflt (refine' flt_t (by k_asm) (by k_asm) (by intro pz9 hpz9; first | exact hpz9 | exact .tail _ hpz9 | exact .tail _ (.tail _ hpz9) | exact .tail _ (.tail _ (.tail _ hpz9))) ?_); (try rfl))
  k_with "call type:list" => (k_here; k_dflt (refine' list_D rfl (by k_asm) (by k_asm) (by k_mem) (by k_asm) (by k_asm) (by k_asm) ?_); intro Bz9 cz9 hz9 tkz9 vsz9 Fz9 Nz9 l1z9 hiz9 h64z9 hszz9; (try k_lt l1z9); (try k_sweep); revert Bz9 cz9 hz9 tkz9 vsz9 Fz9 Nz9 l1z9 hiz9 h64z9 hszz9; intro _ _ _ _ _ _ _ _ _ _ _)
  k_with "call builtin:sorted" => (k_here; k_dflt (refine' sorted_L (by k_asm) (by k_asm) (by k_mem) (by k_asm) (by k_asm) ?_); intro Bz9 vsz9 nsz9 cz9 hz9 Fz9 Nz9 l1z9 hiz9 hpmz9 h64z9 hszz9; (try k_lt l1z9); (try k_sweep); revert Bz9 vsz9 nsz9 cz9 hz9 Fz9 Nz9 l1z9 hiz9 hpmz9 h64z9 hszz9; intro _ _ _ _ _ _ _ _ _ _ _ _)
  k_with "call builtin:dict.pop" => (k_here; k_dflt (refine' pop_C (by k_asm) (by k_asm) (by k_updF) (by k_asm) (by k_asm) (by k_asm) ?_); intro hz9 oz9 vz9 Fz9 Nz9 hdz9; (try dsimp only at Nz9); (try k_sweep); revert hz9 oz9 vz9 Fz9 Nz9 hdz9; intro _ _ _ _ _ _)
  k_with "getMethod ref" => (k_here; (with_reducible show wpAny _ _ (getMethod (Value.ref _) (Str.ofString "pop") _) _ _ _); k_dflt (refine' popm_D (by k_asm) (by k_mem) (by k_asm) ?_))
  k_with "eval Name" => (k_here; k_dflt (refine' nameX_L (by k_asm) (by first | exact rfl | assumption) ?_ (by rfl) (by rfl); k_whole))
  k_with "k_ne" => ((refine neN ?_); (try dsimp only); first | assumption | exact Ne.symm (by assumption) | omega)
  k_with "k_units" => (first | exact Nat.le_of_ble_eq_true rfl | (simp only [ktrTop, units_deeper, units_in1, cLine_is]; omega) | ((try dsimp only [ktrTop, Around.deeper, Around.in1, Around.under]); rw [cLine_is]; omega))
  k_with "compareOp In int ref" => (k_here; k_dflt (first | (refine' in_list_ints (by first | exact led_list (by k_asm) (by k_mem) | exact base_list (by k_asm) (by k_asm)) (by first | k_asm | exact .cons _ _ .nil | exact .nil) ?_; k_whole) | (refine' in_E (by k_asm) (by k_asm) (by k_asm) (by k_asm) ?_)))
  k_with "compareOp NotEq ref ref" => (k_here; k_dflt (refine' ne_E (by k_asm) (by k_mem) (by k_mem) (by k_asm) (by k_asm) (by k_asm) (by k_asm) (by k_units) ?_))
  k_with "binaryOp Add ref ref" => (k_here; k_dflt (refine' add_L (by k_asm) (by k_asm) (by first | exact led_list (by k_asm) (by k_mem) | exact base_list (by k_asm) (by k_asm)) (by first | exact led_list (by k_asm) (by k_mem) | exact base_list (by k_asm) (by k_asm)) (by first | k_asm | exact .cons _ _ .nil | exact .nil) (by first | k_asm | exact .cons _ _ .nil | exact .nil) (by first | k_asm | (simp only [List.length_cons, List.length_nil, sizeLine_eq]; omega)) ?_); intro hz9 Dz9 Fz9 Nz9 l1z9 hiz9; (try k_lt l1z9); (try k_sweep); revert hz9 Dz9 Fz9 Nz9 l1z9 hiz9; intro _ _ _ _ _ _)
  k_with "call builtin:dict.get" => (k_here; k_dflt (first | (refine' get_V (by k_asm) (by k_mem) (by k_asm) (by k_asm) (by first | k_asm | exact vaSame _ _ _) ?_) | (refine' get_N (by k_asm) (by k_mem) (by k_asm) (by k_asm) (by k_asm) ?_)))
  k_with "call type:list" => (k_here; k_dflt (refine' copy_L (by k_asm) (by k_asm) (by k_mem) (by k_asm) ?_); intro Bz9 cz9 hz9 tkz9 Fz9 Nz9 l1z9; (try k_lt l1z9); (try k_sweep); revert Bz9 cz9 hz9 tkz9 Fz9 Nz9 l1z9; intro _ _ _ _ _ _ _)
  k_with "call builtin:list.extend" => (k_here; k_dflt (refine' ext_L (by k_asm) (by k_asm) (by k_updF) (by k_mem) (by first | k_asm | exact .cons _ _ .nil | exact .nil) (by first | k_asm | exact .cons _ _ .nil | exact .nil) (by first | k_asm | (simp only [List.length_cons, List.length_nil, sizeLine_eq]; omega)) ?_); intro hz9 nz9 Fz9 Nz9 hiz9; (try dsimp only at Nz9); (try k_sweep); revert hz9 nz9 Fz9 Nz9 hiz9; intro _ _ _ _ _)
  k_with "k_all" => with_reducible assumption
  k_with "subscriptTail" => (k_here; (with_reducible show wpAny _ _ (subscriptTail _ _ (Value.ref _) (Value.int _ _)) _ _ _); k_dflt (refine' item_V (by k_asm) (by k_mem) (by k_asm) (by k_asm) ?_ (by with_unfolding_all rfl)))
  k_with "compareOp Eq ref ref" => (k_here; k_dflt (refine' ke_eq_ints (by first | exact led_list (by k_asm) (by k_mem) | exact base_list (by k_asm) (by k_asm)) (by first | exact led_list (by k_asm) (by k_mem) | exact base_list (by k_asm) (by k_asm)) (by first | k_asm | exact .cons _ _ .nil | exact .nil) (by first | k_asm | exact .cons _ _ .nil | exact .nil) (by k_units) ?_))
  k_with "k_mem" => (with_reducible refine memOf ?_; with_reducible assumption)
  k_with "subscriptTail" => (k_here; (with_reducible show wpAny _ _ (subscriptTail _ _ (Value.ref _) (Value.str _ _)) _ _ _); k_dflt (refine' item_S (by k_asm) (by k_mem) (by k_asm) (by rfl) ?_ (by with_unfolding_all rfl)))
  trivial
theorem law_value_s {RC : Addr} {r : RecSt} {k : Int} {t : Tok} : Spec prog w p loose mean mg mb 4 430 [.ref RC, .int k t] (Rec prog w RC r) (fun v fp h => Rec prog w RC r fp h ∧ IsOpt v (r.x.val k)) := by
  intro dp un gd cn cs a ccd cl outer A₀ base h₀ L m s Q E fp B X0 T hke hdp hu I hk
  refine hideG fun GG hGG => ?_
  obtain ⟨⟨dD, dO, dA, dK, dE, dR, lO, lT, oRC, oD, oO, oA, oK, oE, oR, kD, kO, kA, kK, cO, cT, tm, von, EL, WL, TT⟩, rfl, l, hh⟩ := I.C
  obtain ⟨nd, dRC, lRC, lD, lO', lA, lK, lE, lR, iD, iO, iA, iK, iE, iR, xD, xO, xA, xK, kE, kR, fE, fR, vE, vR, ivon, tt⟩ := id l
  dsimp only at nd dRC lRC lD lO' lA lK lE lR iD iO iA iK iE iR xD xO xA xK kE kR fE fR vE vR ivon tt
  refine nd9e nd fun _ _ _ _ _ _ _ _ _ _ _ _ _ _ _ _ _ _ _ _ _ _ _ _ _ _ _ _ _ _ _ _ _ _ _ _ rRC rD rO rA rK rE rR rlO rlT => ?_
  have kD9 := xD.1
  have kO9 := xO.1
  have kA9 := xA.1
  have kK9 := xK.1
  have F := I.F
  have hsP : ∀ p ∈ RecP.objs RC ⟨dD, dO, dA, dK, dE, dR, lO, lT, oRC, oD, oO, oA, oK, oE, oR, kD, kO, kA, kK, cO, cT, tm, von, EL, WL, TT⟩, p.1 ∈ (RecP.objs RC ⟨dD, dO, dA, dK, dE, dR, lO, lT, oRC, oD, oO, oA, oK, oE, oR, kD, kO, kA, kK, cO, cT, tm, von, EL, WL, TT⟩).map (·.1) := fun p hp => List.mem_map_of_mem hp
  suffices kk : ∀ rest, EL.map LR.obj ++ (WL.map LR.obj ++ TT) = rest → GG by exact kk _ rfl
  intro rest hrest
  refine hGG ?_; clear hGG GG
  have N : News h₀ L s.heap ((RC, oRC) :: (dD, oD) :: (dO, oO) :: (dA, oA) :: (dK, oK) :: (dE, oE) :: (dR, oR) :: (lO, listOf von.toArray cO) :: (lT, listOf (refs TT).toArray cT) :: rest) := by
    rw [← hrest]; exact I.news fun p hp => ⟨hsP p hp, hh p hp⟩
  have hidE : ((RC, oRC) :: (dD, oD) :: (dO, oO) :: (dA, oA) :: (dK, oK) :: (dE, oE) :: (dR, oR) :: (lO, listOf von.toArray cO) :: (lT, listOf (refs TT).toArray cT) :: rest : List (Addr × Obj)) = RecP.objs RC ⟨dD, dO, dA, dK, dE, dR, lO, lT, oRC, oD, oO, oA, oK, oE, oR, kD, kO, kA, kK, cO, cT, tm, von, EL, WL, TT⟩ := by
    rw [← hrest]; rfl
  have hidS : ∀ p ∈ ((RC, oRC) :: (dD, oD) :: (dO, oO) :: (dA, oA) :: (dK, oK) :: (dE, oE) :: (dR, oR) :: (lO, listOf von.toArray cO) :: (lT, listOf (refs TT).toArray cT) :: rest : List (Addr × Obj)), p.1 ∈ (RecP.objs RC ⟨dD, dO, dA, dK, dE, dR, lO, lT, oRC, oD, oO, oA, oK, oE, oR, kD, kO, kA, kK, cO, cT, tm, von, EL, WL, TT⟩).map (·.1) := by
    rw [hidE]; exact hsP
  simp only [RecP.rest] at rRC rD rO rA rK rE rR rlO rlT
  rw [hrest] at rRC rD rO rA rK rE rR rlO rlT
  refine wpAny_call ?_
  refine enter (K := hd.heap_1 w.params) (f := 430) (cl := []) B F X0 T N rfl rfl hke ((X0.keeps F.keep) _ _ (by k_is)) rfl (codeRec_of (X0.keeps F.keep) (by k_is)) (by k_room) (BindsTo.of_eq rfl) (locs rfl) ?_ (by decide) rfl rfl rfl
  intro g' L' h' keep gone fresh F' N' B' X' T' lt
  clear N F B X0 T
  try dsimp only
  repeat' ((fail_if_success (with_reducible show wpAny _ _ (PySem.exec (Stmt.For _ _ _ _ _) _) _ _ _)); first | (k_unfold; (try dsimp only)) | walk1 | (dsimp only; walk1) | fail "no step")
  all_goals (repeat' (first | k_unfold | (dsimp only)))
  · (with_reducible rename News _ _ _ _ => NN)
    (with_reducible rename Fr _ _ _ _ => FF)
    (with_reducible rename r.x.own k = some _ => e1)
    (with_reducible rename IsOpt _ _ => e2)
    refine leafDone I keep gone hidS hk FF NN ((RecP.objs RC ⟨dD, dO, dA, dK, dE, dR, lO, lT, oRC, oD, oO, oA, oK, oE, oR, kD, kO, kA, kK, cO, cT, tm, von, EL, WL, TT⟩).map (·.1)) (⟨rec_mk NN (fun p hp => by rw [← hidE] at hp; exact hp) l, by rw [show r.x.val k = _ by simp only [VarSt.val, e1]; rfl]; exact e2⟩) (fun a q => ?_)
    obtain ⟨p, hp, rfl⟩ := List.mem_map.mp q
    exact .inr ⟨p, by rw [← hidE] at hp; exact hp, rfl⟩
  · (with_reducible rename News _ _ _ _ => NN)
    (with_reducible rename Fr _ _ _ _ => FF)
    (with_reducible rename (r.x.own k).isSome = false => e1)
    (with_reducible rename r.x.dflt k = _ => e2)
    have e3 : r.x.own k = none := by simpa using e1
    refine leafDone I keep gone hidS hk FF NN ((RecP.objs RC ⟨dD, dO, dA, dK, dE, dR, lO, lT, oRC, oD, oO, oA, oK, oE, oR, kD, kO, kA, kK, cO, cT, tm, von, EL, WL, TT⟩).map (·.1)) (⟨rec_mk NN (fun p hp => by rw [← hidE] at hp; exact hp) l, by rw [show r.x.val k = _ by simp only [VarSt.val, e3, e2]; rfl]; exact .some _ _⟩) (fun a q => ?_)
    obtain ⟨p, hp, rfl⟩ := List.mem_map.mp q
    exact .inr ⟨p, by rw [← hidE] at hp; exact hp, rfl⟩
  · (with_reducible rename News _ _ _ _ => NN)
    (with_reducible rename Fr _ _ _ _ => FF)
    (with_reducible rename (r.x.own k).isSome = false => e1)
    (with_reducible rename r.x.dflt k = _ => e2)
    have e3 : r.x.own k = none := by simpa using e1
    refine leafDone I keep gone hidS hk FF NN ((RecP.objs RC ⟨dD, dO, dA, dK, dE, dR, lO, lT, oRC, oD, oO, oA, oK, oE, oR, kD, kO, kA, kK, cO, cT, tm, von, EL, WL, TT⟩).map (·.1)) (⟨rec_mk NN (fun p hp => by rw [← hidE] at hp; exact hp) l, by rw [show r.x.val k = _ by simp only [VarSt.val, e3, e2]; rfl]; exact .none⟩) (fun a q => ?_)
    obtain ⟨p, hp, rfl⟩ := List.mem_map.mp q
    exact .inr ⟨p, by rw [← hidE] at hp; exact hp, rfl⟩
theorem law_put_s {RC : Addr} {r : RecSt} {k i : Int} {t ti : Tok} (h0 : 0 ≤ k) (h9 : k < 9) : Spec prog w p loose mean mg mb 4 437 [.ref RC, .int k t, .int i ti] (Rec prog w RC r) (fun _ => Rec prog w RC { r with x := r.x.put k i }) := by
  intro dp un gd cn cs a ccd cl outer A₀ base h₀ L m s Q E fp B X0 T hke hdp hu I hk
  refine hideG fun GG hGG => ?_
  obtain ⟨⟨dD, dO, dA, dK, dE, dR, lO, lT, oRC, oD, oO, oA, oK, oE, oR, kD, kO, kA, kK, cO, cT, tm, von, EL, WL, TT⟩, rfl, l, hh⟩ := I.C
  obtain ⟨nd, dRC, lRC, lD, lO', lA, lK, lE, lR, iD, iO, iA, iK, iE, iR, xD, xO, xA, xK, kE, kR, fE, fR, vE, vR, ivon, tt⟩ := id l
  dsimp only at nd dRC lRC lD lO' lA lK lE lR iD iO iA iK iE iR xD xO xA xK kE kR fE fR vE vR ivon tt
  refine nd9e nd fun _ _ _ _ _ _ _ _ _ _ _ _ _ _ _ _ _ _ _ _ _ _ _ _ _ _ _ _ _ _ _ _ _ _ _ _ rRC rD rO rA rK rE rR rlO rlT => ?_
  have kD9 := xD.1
  have kO9 := xO.1
  have kA9 := xA.1
  have kK9 := xK.1
  have F := I.F
  have hsP : ∀ p ∈ RecP.objs RC ⟨dD, dO, dA, dK, dE, dR, lO, lT, oRC, oD, oO, oA, oK, oE, oR, kD, kO, kA, kK, cO, cT, tm, von, EL, WL, TT⟩, p.1 ∈ (RecP.objs RC ⟨dD, dO, dA, dK, dE, dR, lO, lT, oRC, oD, oO, oA, oK, oE, oR, kD, kO, kA, kK, cO, cT, tm, von, EL, WL, TT⟩).map (·.1) := fun p hp => List.mem_map_of_mem hp
  suffices kk : ∀ rest, EL.map LR.obj ++ (WL.map LR.obj ++ TT) = rest → GG by exact kk _ rfl
  intro rest hrest
  refine hGG ?_; clear hGG GG
  have N : News h₀ L s.heap ((RC, oRC) :: (dD, oD) :: (dO, oO) :: (dA, oA) :: (dK, oK) :: (dE, oE) :: (dR, oR) :: (lO, listOf von.toArray cO) :: (lT, listOf (refs TT).toArray cT) :: rest) := by
    rw [← hrest]; exact I.news fun p hp => ⟨hsP p hp, hh p hp⟩
  have hidE : ((RC, oRC) :: (dD, oD) :: (dO, oO) :: (dA, oA) :: (dK, oK) :: (dE, oE) :: (dR, oR) :: (lO, listOf von.toArray cO) :: (lT, listOf (refs TT).toArray cT) :: rest : List (Addr × Obj)) = RecP.objs RC ⟨dD, dO, dA, dK, dE, dR, lO, lT, oRC, oD, oO, oA, oK, oE, oR, kD, kO, kA, kK, cO, cT, tm, von, EL, WL, TT⟩ := by
    rw [← hrest]; rfl
  have hidS : ∀ p ∈ ((RC, oRC) :: (dD, oD) :: (dO, oO) :: (dA, oA) :: (dK, oK) :: (dE, oE) :: (dR, oR) :: (lO, listOf von.toArray cO) :: (lT, listOf (refs TT).toArray cT) :: rest : List (Addr × Obj)), p.1 ∈ (RecP.objs RC ⟨dD, dO, dA, dK, dE, dR, lO, lT, oRC, oD, oO, oA, oK, oE, oR, kD, kO, kA, kK, cO, cT, tm, von, EL, WL, TT⟩).map (·.1) := by
    rw [hidE]; exact hsP
  simp only [RecP.rest] at rRC rD rO rA rK rE rR rlO rlT
  rw [hrest] at rRC rD rO rA rK rE rR rlO rlT
  refine wpAny_call ?_
  refine enter (K := hd.heap_1 w.params) (f := 437) (cl := []) B F X0 T N rfl rfl hke ((X0.keeps F.keep) _ _ (by k_is)) rfl (codeRec_of (X0.keeps F.keep) (by k_is)) (by k_room) (BindsTo.of_eq rfl) (locs rfl) ?_ (by decide) rfl rfl rfl
  intro g' L' h' keep gone fresh F' N' B' X' T' lt
  clear N F B X0 T
  try dsimp only
  repeat' ((fail_if_success (with_reducible show wpAny _ _ (PySem.exec (Stmt.For _ _ _ _ _) _) _ _ _)); first | (k_unfold; (try dsimp only)) | walk1 | (dsimp only; walk1) | fail "no step")
  all_goals (repeat' (first | k_unfold | (dsimp only)))
  · (with_reducible rename News _ _ _ _ => NN)
    (with_reducible rename Fr _ _ _ _ => FF)
    (with_reducible rename Obj.IsDictOf _ _ _ => d9)
    (with_reducible rename (r.x.own k).isSome = _ => e1)
    rw [show r.x.put k i = { r.x with own := setAt r.x.own k (some (some i)) } by simp only [VarSt.put, e1, Bool.true_or, if_true]] at hk
    refine leafDone I keep gone hidS hk FF NN ((RecP.objs RC ⟨dD, dO, dA, dK, dE, dR, lO, lT, oRC, oD, _, oA, oK, oE, oR, kD, _, kA, kK, cO, cT, tm, von, EL, WL, TT⟩).map (·.1)) (rec_mk NN (fun p hp => by simp only [RecP.objs, RecP.rest] at hp; rw [hrest] at hp; exact hp) ⟨by exact nd, dRC, lRC, lD, lO', lA, lK, lE, lR, iD, d9, iA, iK, iE, iR, xD, (xO.put (.some _ _) h0 h9), xA, xK, kE, kR, fE, fR, vE, vR, ivon, tt⟩) (fun a q => ?_)
    obtain ⟨p, hp, rfl⟩ := List.mem_map.mp q
    exact .inr ⟨p, by simp only [RecP.objs, RecP.rest] at hp; rw [hrest] at hp; exact hp, rfl⟩
  · (with_reducible rename News _ _ _ _ => NN)
    (with_reducible rename Fr _ _ _ _ => FF)
    (with_reducible rename Obj.IsDictOf _ _ _ => d9)
    (with_reducible rename (r.x.own k).isSome = _ => e1)
    (with_reducible rename r.x.auto k = _ => e2)
    rw [show r.x.put k i = { r.x with own := setAt r.x.own k (some (some i)) } by simp only [VarSt.put, e1, e2, Bool.or_true, if_true]] at hk
    refine leafDone I keep gone hidS hk FF NN ((RecP.objs RC ⟨dD, dO, dA, dK, dE, dR, lO, lT, oRC, oD, _, oA, oK, oE, oR, kD, _, kA, kK, cO, cT, tm, von, EL, WL, TT⟩).map (·.1)) (rec_mk NN (fun p hp => by simp only [RecP.objs, RecP.rest] at hp; rw [hrest] at hp; exact hp) ⟨by exact nd, dRC, lRC, lD, lO', lA, lK, lE, lR, iD, d9, iA, iK, iE, iR, xD, (xO.put (.some _ _) h0 h9), xA, xK, kE, kR, fE, fR, vE, vR, ivon, tt⟩) (fun a q => ?_)
    obtain ⟨p, hp, rfl⟩ := List.mem_map.mp q
    exact .inr ⟨p, by simp only [RecP.objs, RecP.rest] at hp; rw [hrest] at hp; exact hp, rfl⟩
  · (with_reducible rename News _ _ _ _ => NN)
    (with_reducible rename Fr _ _ _ _ => FF)
    (with_reducible rename Obj.IsDictOf _ _ _ => d9)
    (with_reducible rename (r.x.own k).isSome = _ => e1)
    (with_reducible rename r.x.auto k = _ => e2)
    rw [show r.x.put k i = { r.x with dflt := setAt r.x.dflt k (some i) } by simp only [VarSt.put, e1, e2, Bool.or_false, Bool.false_eq_true, if_false]] at hk
    refine leafDone I keep gone hidS hk FF NN ((RecP.objs RC ⟨dD, dO, dA, dK, dE, dR, lO, lT, oRC, _, oO, oA, oK, oE, oR, _, kO, kA, kK, cO, cT, tm, von, EL, WL, TT⟩).map (·.1)) (rec_mk NN (fun p hp => by simp only [RecP.objs, RecP.rest] at hp; rw [hrest] at hp; exact hp) ⟨by exact nd, dRC, lRC, lD, lO', lA, lK, lE, lR, d9, iO, iA, iK, iE, iR, (xD.put h0 h9), xO, xA, xK, kE, kR, fE, fR, vE, vR, ivon, tt⟩) (fun a q => ?_)
    obtain ⟨p, hp, rfl⟩ := List.mem_map.mp q
    exact .inr ⟨p, by simp only [RecP.objs, RecP.rest] at hp; rw [hrest] at hp; exact hp, rfl⟩
end
section
theorem wtRecC : True := by
  w_top off
  trivial
variable {prog : Program} {w : World} {p : Program} {loose : List Str} {mean : ExcName → Option Value} {mg mb : Str → Option Value}
theorem law_called_s {RC : Addr} {r : RecSt} {k : Int} {t : Tok} (hszw : ∀ ns, r.rows k = some ns → ns.length < 60) (hsze : ∀ ns, r.every k = some ns → ns.length < 60) : Spec prog w p loose mean mg mb 4 444 [.ref RC, .int k t] (Rec prog w RC r) (fun v => Star (Rec prog w RC r) (ListV v (lawCalled (r.every k) (r.rows k)))) := by
  intro dp un gd cn cs a ccd cl outer A₀ base h₀ L m s Q E fp B X0 T hke hdp hu I hk
  refine hideG fun GG hGG => ?_
  obtain ⟨⟨dD, dO, dA, dK, dE, dR, lO, lT, oRC, oD, oO, oA, oK, oE, oR, kD, kO, kA, kK, cO, cT, tm, von, EL, WL, TT⟩, rfl, l, hh⟩ := I.C
  obtain ⟨nd, dRC, lRC, lD, lO', lA, lK, lE, lR, iD, iO, iA, iK, iE, iR, xD, xO, xA, xK, kE, kR, fE, fR, vE, vR, ivon, tt⟩ := id l
  dsimp only at nd dRC lRC lD lO' lA lK lE lR iD iO iA iK iE iR xD xO xA xK kE kR fE fR vE vR ivon tt
  refine nd9e nd fun _ _ _ _ _ _ _ _ _ _ _ _ _ _ _ _ _ _ _ _ _ _ _ _ _ _ _ _ _ _ _ _ _ _ _ _ rRC rD rO rA rK rE rR rlO rlT => ?_
  have kD9 := xD.1
  have kO9 := xO.1
  have kA9 := xA.1
  have kK9 := xK.1
  have F := I.F
  have hsP : ∀ p ∈ RecP.objs RC ⟨dD, dO, dA, dK, dE, dR, lO, lT, oRC, oD, oO, oA, oK, oE, oR, kD, kO, kA, kK, cO, cT, tm, von, EL, WL, TT⟩, p.1 ∈ (RecP.objs RC ⟨dD, dO, dA, dK, dE, dR, lO, lT, oRC, oD, oO, oA, oK, oE, oR, kD, kO, kA, kK, cO, cT, tm, von, EL, WL, TT⟩).map (·.1) := fun p hp => List.mem_map_of_mem hp
  suffices kk : ∀ rest, EL.map LR.obj ++ (WL.map LR.obj ++ TT) = rest → GG by exact kk _ rfl
  intro rest hrest
  refine hGG ?_; clear hGG GG
  have N : News h₀ L s.heap ((RC, oRC) :: (dD, oD) :: (dO, oO) :: (dA, oA) :: (dK, oK) :: (dE, oE) :: (dR, oR) :: (lO, listOf von.toArray cO) :: (lT, listOf (refs TT).toArray cT) :: rest) := by
    rw [← hrest]; exact I.news fun p hp => ⟨hsP p hp, hh p hp⟩
  have hidE : ((RC, oRC) :: (dD, oD) :: (dO, oO) :: (dA, oA) :: (dK, oK) :: (dE, oE) :: (dR, oR) :: (lO, listOf von.toArray cO) :: (lT, listOf (refs TT).toArray cT) :: rest : List (Addr × Obj)) = RecP.objs RC ⟨dD, dO, dA, dK, dE, dR, lO, lT, oRC, oD, oO, oA, oK, oE, oR, kD, kO, kA, kK, cO, cT, tm, von, EL, WL, TT⟩ := by
    rw [← hrest]; rfl
  have hidS : ∀ p ∈ ((RC, oRC) :: (dD, oD) :: (dO, oO) :: (dA, oA) :: (dK, oK) :: (dE, oE) :: (dR, oR) :: (lO, listOf von.toArray cO) :: (lT, listOf (refs TT).toArray cT) :: rest : List (Addr × Obj)), p.1 ∈ (RecP.objs RC ⟨dD, dO, dA, dK, dE, dR, lO, lT, oRC, oD, oO, oA, oK, oE, oR, kD, kO, kA, kK, cO, cT, tm, von, EL, WL, TT⟩).map (·.1) := by
    rw [hidE]; exact hsP
  simp only [RecP.rest] at rRC rD rO rA rK rE rR rlO rlT
  rw [hrest] at rRC rD rO rA rK rE rR rlO rlT
  cases ew : WL.find? (fun q => decide (q.k = k)) with
  | none =>
    cases ee : EL.find? (fun q => decide (q.k = k)) with
    | none =>
      have hvw := lr_none ew
      have hve := lr_none ee
      have hwk : r.rows k = none := by rw [fR]; unfold lrF; rw [ew]; rfl
      have hek : r.every k = none := by rw [fE]; unfold lrF; rw [ee]; rfl
      refine wpAny_call ?_
      refine enter (K := hd.heap_1 w.params) (f := 444) (cl := []) B F X0 T N rfl rfl hke ((X0.keeps F.keep) _ _ (by k_is)) rfl (codeRec_of (X0.keeps F.keep) (by k_is)) (by k_room) (BindsTo.of_eq rfl) (locs rfl) ?_ (by decide) rfl rfl rfl
      intro g' L' h' keep gone fresh F' N' B' X' T' lt
      clear N F B X0 T
      try dsimp only
      try k_fold
      repeat' ((fail_if_success (with_reducible show wpAny _ _ (PySem.exec (Stmt.For _ _ _ _ _) _) _ _ _)); first | (k_unfold; (try dsimp only)) | walk1 | (dsimp only; walk1) | fail "no step")
      all_goals (repeat' (first | k_unfold | (dsimp only)))
      (with_reducible rename News _ _ _ _ => NN)
      (with_reducible rename Fr _ _ _ _ => FF)
      rw [hwk, hek] at hk
      refine leafList (fun _ => rfl) rec_good I keep gone (fun p hp => ⟨hidS p hp, hh p (by rw [← hidE]; exact hp)⟩) hk FF NN (fun p hp => .tail _ (.tail _ (.tail _ hp))) (.head _) (by (repeat' (refine off_cons ?_ ?_)); (all_goals first | omega | exact allLt_mem (by simp only [*]))) (by assumption)
    | some qe =>
      have hvw := lr_none ew
      have hve := lr_some ee
      have hwk : r.rows k = none := by rw [fR]; unfold lrF; rw [ew]; rfl
      have hek : r.every k = some qe.ns := by rw [fE]; unfold lrF; rw [ee]; rfl
      have me : (qe.il, listOf qe.vs.toArray qe.c) ∈ rest := by rw [← hrest]; exact List.mem_append_left _ (List.mem_map.mpr ⟨qe, List.mem_of_find?_eq_some ee, rfl⟩)
      have ive := vE qe (List.mem_of_find?_eq_some ee)
      have hle := hsze _ hek
      refine wpAny_call ?_
      refine enter (K := hd.heap_1 w.params) (f := 444) (cl := []) B F X0 T N rfl rfl hke ((X0.keeps F.keep) _ _ (by k_is)) rfl (codeRec_of (X0.keeps F.keep) (by k_is)) (by k_room) (BindsTo.of_eq rfl) (locs rfl) ?_ (by decide) rfl rfl rfl
      intro g' L' h' keep gone fresh F' N' B' X' T' lt
      clear N F B X0 T
      try dsimp only
      try k_fold
      repeat' ((fail_if_success (with_reducible show wpAny _ _ (PySem.exec (Stmt.For _ _ _ _ _) _) _ _ _)); first | (k_unfold; (try dsimp only)) | walk1 | (dsimp only; walk1) | fail "no step")
      all_goals (repeat' (first | k_unfold | (dsimp only)))
      (with_reducible rename News _ _ _ _ => NN)
      (with_reducible rename Fr _ _ _ _ => FF)
      rw [hwk, hek] at hk
      refine leafList (fun _ => rfl) rec_good I keep gone (fun p hp => ⟨hidS p hp, hh p (by rw [← hidE]; exact hp)⟩) hk FF NN (fun p hp => .tail _ (.tail _ (.tail _ hp))) (.head _) (by (repeat' (refine off_cons ?_ ?_)); (all_goals first | omega | exact allLt_mem (by simp only [*]))) (by assumption)
  | some qw =>
    cases ee : EL.find? (fun q => decide (q.k = k)) with
    | none =>
      have hvw := lr_some ew
      have hve := lr_none ee
      have hwk : r.rows k = some qw.ns := by rw [fR]; unfold lrF; rw [ew]; rfl
      have hek : r.every k = none := by rw [fE]; unfold lrF; rw [ee]; rfl
      have mw : (qw.il, listOf qw.vs.toArray qw.c) ∈ rest := by rw [← hrest]; exact List.mem_append_right _ (List.mem_append_left _ (List.mem_map.mpr ⟨qw, List.mem_of_find?_eq_some ew, rfl⟩))
      have ivw := vR qw (List.mem_of_find?_eq_some ew)
      have hlw := hszw _ hwk
      refine wpAny_call ?_
      refine enter (K := hd.heap_1 w.params) (f := 444) (cl := []) B F X0 T N rfl rfl hke ((X0.keeps F.keep) _ _ (by k_is)) rfl (codeRec_of (X0.keeps F.keep) (by k_is)) (by k_room) (BindsTo.of_eq rfl) (locs rfl) ?_ (by decide) rfl rfl rfl
      intro g' L' h' keep gone fresh F' N' B' X' T' lt
      clear N F B X0 T
      try dsimp only
      try k_fold
      repeat' ((fail_if_success (with_reducible show wpAny _ _ (PySem.exec (Stmt.For _ _ _ _ _) _) _ _ _)); first | (k_unfold; (try dsimp only)) | walk1 | (dsimp only; walk1) | fail "no step")
      all_goals (repeat' (first | k_unfold | (dsimp only)))
      (with_reducible rename News _ _ _ _ => NN)
      (with_reducible rename Fr _ _ _ _ => FF)
      rw [hwk, hek] at hk
      refine leafList (fun _ => rfl) rec_good I keep gone (fun p hp => ⟨hidS p hp, hh p (by rw [← hidE]; exact hp)⟩) hk FF NN (fun p hp => .tail _ (.tail _ (.tail _ hp))) (.head _) (by (repeat' (refine off_cons ?_ ?_)); (all_goals first | omega | exact allLt_mem (by simp only [*]))) (by assumption)
    | some qe =>
      have hvw := lr_some ew
      have hve := lr_some ee
      have hwk : r.rows k = some qw.ns := by rw [fR]; unfold lrF; rw [ew]; rfl
      have hek : r.every k = some qe.ns := by rw [fE]; unfold lrF; rw [ee]; rfl
      have mw : (qw.il, listOf qw.vs.toArray qw.c) ∈ rest := by rw [← hrest]; exact List.mem_append_right _ (List.mem_append_left _ (List.mem_map.mpr ⟨qw, List.mem_of_find?_eq_some ew, rfl⟩))
      have ivw := vR qw (List.mem_of_find?_eq_some ew)
      have hlw := hszw _ hwk
      have me : (qe.il, listOf qe.vs.toArray qe.c) ∈ rest := by rw [← hrest]; exact List.mem_append_left _ (List.mem_map.mpr ⟨qe, List.mem_of_find?_eq_some ee, rfl⟩)
      have ive := vE qe (List.mem_of_find?_eq_some ee)
      have hle := hsze _ hek
      refine wpAny_call ?_
      refine enter (K := hd.heap_1 w.params) (f := 444) (cl := []) B F X0 T N rfl rfl hke ((X0.keeps F.keep) _ _ (by k_is)) rfl (codeRec_of (X0.keeps F.keep) (by k_is)) (by k_room) (BindsTo.of_eq rfl) (locs rfl) ?_ (by decide) rfl rfl rfl
      intro g' L' h' keep gone fresh F' N' B' X' T' lt
      clear N F B X0 T
      try dsimp only
      try k_fold
      repeat' ((fail_if_success (with_reducible show wpAny _ _ (PySem.exec (Stmt.For _ _ _ _ _) _) _ _ _)); first | (k_unfold; (try dsimp only)) | walk1 | (dsimp only; walk1) | fail "no step")
      all_goals (repeat' (first | k_unfold | (dsimp only)))
      (with_reducible rename News _ _ _ _ => NN)
      (with_reducible rename Fr _ _ _ _ => FF)
      rw [hwk, hek] at hk
      refine leafList (fun _ => rfl) rec_good I keep gone (fun p hp => ⟨hidS p hp, hh p (by rw [← hidE]; exact hp)⟩) hk FF NN (fun p hp => .tail _ (.tail _ (.tail _ hp))) (.head _) (by (repeat' (refine off_cons ?_ ?_)); (all_goals first | omega | exact allLt_mem (by simp only [*]))) (by assumption)
end
section
theorem wtDraw : True := by
  w_top off
  trivial
variable {prog : Program} {w : World} {p : Program} {loose : List Str} {mean : ExcName → Option Value} {mg mb : Str → Option Value}
theorem kwDraw2 : True := by
  k_with "call builtin:list.pop" => (k_here; k_dflt (refine' pop0_T (by k_asm) (by k_asm) (by k_updF) (by k_asm) ?_); intro hz9 Fz9 Nz9; (try dsimp only at Nz9); (try k_sweep); revert hz9 Fz9 Nz9; intro _ _ _)
  trivial
theorem law_draw_s {D : Addr} {ns : List Int} {m : Int} {t : Tok} (hm : 0 < m) (hz : ns.length < 100) : Spec prog w p loose mean mg mb 4 423 [.ref D, .int m t] (Deck D ns) (fun v fp h => Deck D ns.tail fp h ∧ ∃ t', v = .int (drawD ns m) t') := by
  intro dp un gd cn cs a ccd cl outer A₀ base h₀ L m0 s Q E fp B X0 T hke hdp hu I hk
  obtain ⟨rfl, vs, c, e, iv⟩ := I.C
  have hlen : vs.toArray.size ≤ sizeLine := by have := iv.length; rw [List.size_toArray, sizeLine_eq]; omega
  cases iv with
  | nil =>
    have F := I.F
    have N : News h₀ L s.heap [(D, listOf ([]).toArray c)] := I.news fun p hp => by
      rw [List.mem_singleton.mp hp]; exact ⟨.head _, e⟩
    refine wpAny_call ?_
    refine enter (K := hd.heap_1 w.params) (f := 423) (cl := []) B F X0 T N rfl rfl hke ((X0.keeps F.keep) _ _ (by k_is)) rfl (codeRec_of (X0.keeps F.keep) (by k_is)) (by k_room) (BindsTo.of_eq rfl) (locs rfl) ?_ (by decide) rfl rfl rfl
    intro g' L' h' keep gone fresh F' N' B' X' T' lt
    clear N F B X0 T
    try dsimp only
    try k_fold
    repeat' (first | (k_unfold; (try dsimp only)) | walk1 | (dsimp only; walk1) | fail "no step")
    all_goals (repeat' (first | k_unfold | (dsimp only)))
    (with_reducible rename News _ _ _ _ => NN)
    (with_reducible rename Fr _ _ _ _ => FF)
    exact leafDone I keep gone (fun p hp => by rw [List.mem_singleton.mp hp]; exact .head _) hk FF NN [D] ⟨⟨rfl, _, _, (NN (D, _) (.tail _ (.head _))).1, .nil⟩, _, rfl⟩ (fun a q => .inl q)
  | cons x tx iv' =>
    rename_i vs' ns'
    have hlen2 : vs'.length + 1 ≤ sizeLine := by simpa using hlen
    have hm0 : m ≠ 0 := by omega
    have ivc := IntsAre.cons x tx iv'
    have F := I.F
    have N : News h₀ L s.heap [(D, listOf (Value.int x tx :: vs').toArray c)] := I.news fun p hp => by
      rw [List.mem_singleton.mp hp]; exact ⟨.head _, e⟩
    refine wpAny_call ?_
    refine enter (K := hd.heap_1 w.params) (f := 423) (cl := []) B F X0 T N rfl rfl hke ((X0.keeps F.keep) _ _ (by k_is)) rfl (codeRec_of (X0.keeps F.keep) (by k_is)) (by k_room) (BindsTo.of_eq rfl) (locs rfl) ?_ (by decide) rfl rfl rfl
    intro g' L' h' keep gone fresh F' N' B' X' T' lt
    clear N F B X0 T
    try dsimp only
    try k_fold
    repeat' (first | (k_unfold; (try dsimp only)) | walk1 | (dsimp only; walk1) | fail "no step")
    all_goals (repeat' (first | k_unfold | (dsimp only)))
    · exfalso
      (with_reducible rename decide _ = true => hc)
      simp at hc
    · (with_reducible rename News _ _ _ _ => NN)
      (with_reducible rename Fr _ _ _ _ => FF)
      exact leafDone I keep gone (fun p hp => by rw [List.mem_singleton.mp hp]; exact .head _) hk FF NN [D] ⟨⟨rfl, _, _, (NN (D, _) (.tail _ (.head _))).1, iv'⟩, _, by rw [drawD, Int.fmod_eq_emod_of_nonneg _ (by omega)]⟩ (fun a q => .inl q)
end
section
theorem wtKillL : True := by
  w_top off
  trivial
theorem kwKillL1 : True := by
  k_with_none
  k_with "W1" => ((fail_if_success (with_reducible show wpAny _ _ (PySem.call (Value.ref _) _ _) _ _ _)); (fail_if_success (with_reducible show wpAny _ _ (pyIter _) _ _ _)); (fail_if_success (with_reducible show wpAny _ _ (PySem.exec (Stmt.For _ _ _ _ _) _) _ _ _)); first | (k_unfold; (try dsimp only)) | walk1 | (dsimp only; walk1) | fail "no step")
  k_with "k_enter" => (first | (refine' code_def (by k_asm) (by k_asm) (by k_asm) (by k_asm) (by k_asm) rfl rfl (by first | exact rfl | assumption) (by k_is) (by k_is) (by k_room) (by first | exact BindsTo.of_eq rfl | exact binds_K (by k_in) rfl (by k_is) rfl rfl rfl) (by exact locs rfl) ?_ (by exact rfl) (by exact rfl) (by exact rfl) (by decide); k_whole; intro _ _ _ _ _ _ Bz9 _ _; (try dsimp only); (try k_lift Bz9); (try k_fold)) | (refine' code_defC (by k_asm) (by k_asm) (by k_asm) (by k_asm) (by k_asm) rfl rfl (by first | exact rfl | assumption) (by k_is) (by k_is) (by k_room) (by first | exact BindsTo.of_eq rfl | exact binds_K (by k_in) rfl (by k_is) rfl rfl rfl) (by exact rfl) (by decide +kernel) ?_ (by exact rfl) (by exact rfl) (by exact rfl); k_whole; intro _ _ _ _ _ _ _ Nz9 Yz9 Bz9 _ _ lz9; (try k_lt lz9); k_cells Yz9; (try simp only [List.cons_append, List.nil_append] at Nz9); (try dsimp only); (try k_lift Bz9); (try k_fold)) | fail)
  k_with "execs cons" => (k_fold; (first | show wpAny _ AB (PySem.execs _ eB) _ _ _ | (show (let eB := _; let AB := _; wpAny _ AB (PySem.execs _ eB) _ _ _); intro eB AB)); refine wpAny_execs_cons ?_)
  k_with "omega" => first | exact Nat.le_of_ble_eq_true rfl | with_reducible assumption | exact Mine.o1 (by with_reducible assumption) (by exact rfl) | exact Mine.o3 (by with_reducible assumption) (by exact rfl) | exact Mine.o2 (by with_reducible assumption) (by exact rfl) | exact Mine.o4 (by with_reducible assumption) (by exact rfl) | exact Mine.o5 (by with_reducible assumption) (by exact rfl) | exact Mine.o6 (by with_reducible assumption) (by exact rfl) | exact Mine.o7 (by with_reducible assumption) (by exact rfl) | exact Mine.o8 (by with_reducible assumption) (by exact rfl) | exact Mine.o9 (by with_reducible assumption) (by exact rfl) | exact Mine.o10 (by with_reducible assumption) (by exact rfl) | exact Mine.o11 (by with_reducible assumption) (by exact rfl) | exact Mine.o12 (by with_reducible assumption) (by exact rfl) | exact Mine.o13 (by with_reducible assumption) (by exact rfl) | exact Nat.ne_of_lt (by with_reducible assumption) | exact Nat.ne_of_gt (by with_reducible assumption) | exact Nat.le_of_lt (by with_reducible assumption) | fail
  k_with "tlg_ne" => first | exact List.Mem.head _ | (apply List.Mem.tail; tlg_ne) | (apply List.mem_append_left; tlg_ne) | (apply List.mem_append_right; tlg_ne)
  k_with "lcg_off" => first | exact List.Subset.refl _ | exact List.nil_subset _ | (refine List.Sublist.subset ?_; (repeat first | exact List.Sublist.refl _ | apply List.Sublist.cons_cons | apply List.Sublist.cons); done) | (refine Mine.subC ?_ ?_; (focus tlg_ne); lcg_off) | (refine Mine.subA ?_ ?_ <;> lcg_off) | (apply List.subset_cons_of_subset; lcg_off) | (apply List.subset_append_of_subset_left; lcg_off) | (apply List.subset_append_of_subset_right; lcg_off)
  trivial
theorem kwKillL2 : True := by
  k_with "k_room" => ((try simp only [depth_mark, depth_under_make, depth_under_kw, depth_in1, depth_deeper]); first | assumption | (show _ < 1000; (try dsimp only); omega))
  k_with "k_ne" => ((refine neN ?_); (try dsimp only); first | assumption | exact Ne.symm (by assumption))
  k_with "compareOp In int ref" => (k_here; k_dflt (first | (refine' in_C (by k_asm) (by k_mem) (by k_asm) (by k_asm) (by k_asm) ?_) | (refine' in_I (by k_asm) (by k_mem) (by k_asm) (by k_asm) (by k_asm) ?_) | (refine' in_B (by k_asm) (by k_mem) (by k_asm) (by k_asm) (by k_asm) ?_)))
  k_with "compareOp NotIn int ref" => (k_here; k_dflt ( (refine' notin_C (by k_asm) (by k_mem) (by k_asm) (by k_asm) (by k_asm) ?_)))
  k_with "call builtin:dict.get" => (k_here; k_dflt (first | (refine' get_I (by k_asm) (by k_mem) (by k_asm) (by k_asm) (by k_asm) ?_; refine ⟨fun _ _ _ => ?_, fun _ => ?_⟩) | (refine' get_B (by k_asm) (by k_mem) (by k_asm) (by k_asm) (by k_asm) ?_; (try simp only [Bool.or_false]))))
  k_with "getMethod ref" => (k_here; (with_reducible show wpAny _ _ (getMethod (Value.ref _) (Str.ofString "get") _) _ _ _); k_dflt (refine' kdg_method (knd := PySem.intKind _ _) (by k_asm) (by k_mem) (by k_asm) ?_))
  k_with "subscriptTail" => (k_here; (with_reducible show wpAny _ _ (subscriptTail _ _ (Value.ref _) (Value.int _ _)) _ _ _); k_dflt (refine' item_C (by k_asm) (by k_mem) (by k_asm) (by k_asm) (by k_asm) ?_ (by with_unfolding_all rfl); intro _ _ _ _))
  k_with "setItem ref int" => (k_here; k_dflt (refine' kda_set (knd := PySem.intKind _ _) (by k_asm) (by k_asm) (by k_updF) (by k_asm) (intKind_is _ _ _ _) (by exact KOK.line (by k_asm) (by k_asm)) ?_; intro hz9 oz9 Fz9 Nz9 hdz9; (try dsimp only at Nz9); (try k_sweep); revert hz9 oz9 Fz9 Nz9 hdz9; intro _ _ _ _ _))
  trivial
variable {prog : Program} {w : World} {p : Program} {loose : List Str} {mean : ExcName → Option Value} {mg mb : Str → Option Value}
theorem kwKillL3 : True := by
  k_with "eval ListComp" => (k_here; k_dflt (refine LCt.ListComp_T (F₀ := by k_asm) (by with_unfolding_all rfl) (by decide) (by rfl) (by decide) (by rfl) ?_))
  k_with "CompSrcT" => (k_here; k_dflt (first | (refine' LCt.CompSrcT.ledger rfl (by k_asm) (by k_asm) (by k_mem) (by k_asm) ?_) | (refine' LCt.CompSrcT.base rfl (by k_asm) (by k_asm) (by k_asm) (by k_asm) ?_)); intro _; k_dflt (refine' flt_rest (by k_asm) (by k_asm) (by first | exact .inl (by k_asm) | exact .inr ⟨_, by k_mem, rfl, _, rfl⟩) rfl rfl (by decide) (fun _ _ _ _ _ _ _ _ _ _ _ _ _ _ _ _ _ _ _ => ?_) (fun _ _ => ?_)); (all_goals (try (simp only [LCg.Off3, and_true] at off'))))
  k_with "FltT" => (k_here; k_dflt (refine' flt_t (by k_asm) (by k_asm) (by intro pz9 hpz9; first | exact hpz9 | exact .tail _ hpz9 | exact .tail _ (.tail _ hpz9) | exact .tail _ (.tail _ (.tail _ hpz9))) ?_); (try rfl))
  k_with "call type:list" => (k_here; k_dflt (refine' list_D rfl (by k_asm) (by k_asm) (by k_mem) (by k_asm) (by k_asm) (by k_asm) ?_); intro Bz9 cz9 hz9 tkz9 vsz9 Fz9 Nz9 l1z9 hiz9 h64z9 hszz9; (try k_lt l1z9); (try k_sweep); revert Bz9 cz9 hz9 tkz9 vsz9 Fz9 Nz9 l1z9 hiz9 h64z9 hszz9; intro _ _ _ _ _ _ _ _ _ _ _)
  k_with "call builtin:sorted" => (k_here; k_dflt (refine' sorted_L (by k_asm) (by k_asm) (by k_mem) (by k_asm) (by k_asm) ?_); intro Bz9 vsz9 nsz9 cz9 hz9 Fz9 Nz9 l1z9 hiz9 hpmz9 h64z9 hszz9; (try k_lt l1z9); (try k_sweep); revert Bz9 vsz9 nsz9 cz9 hz9 Fz9 Nz9 l1z9 hiz9 hpmz9 h64z9 hszz9; intro _ _ _ _ _ _ _ _ _ _ _ _)
  k_with "call builtin:dict.pop" => (k_here; k_dflt (refine' pop_C (by k_asm) (by k_asm) (by k_updF) (by k_asm) (by k_asm) (by k_asm) ?_); intro hz9 oz9 vz9 Fz9 Nz9 hdz9; (try dsimp only at Nz9); (try k_sweep); revert hz9 oz9 vz9 Fz9 Nz9 hdz9; intro _ _ _ _ _ _)
  k_with "getMethod ref" => (k_here; (with_reducible show wpAny _ _ (getMethod (Value.ref _) (Str.ofString "pop") _) _ _ _); k_dflt (refine' popm_D (by k_asm) (by k_mem) (by k_asm) ?_))
  k_with "eval Name" => (k_here; k_dflt (refine' nameX_L (by k_asm) (by first | exact rfl | assumption) ?_ (by rfl) (by rfl); k_whole))
  k_with "k_ne" => ((refine neN ?_); (try dsimp only); first | assumption | exact Ne.symm (by assumption) | omega)
  k_with "k_units" => (first | exact Nat.le_of_ble_eq_true rfl | (simp only [ktrTop, units_deeper, units_in1, cLine_is]; omega) | ((try dsimp only [ktrTop, Around.deeper, Around.in1, Around.under]); rw [cLine_is]; omega))
  k_with "compareOp In int ref" => (k_here; k_dflt (first | (refine' in_list_ints (by first | exact led_list (by k_asm) (by k_mem) | exact base_list (by k_asm) (by k_asm)) (by first | k_asm | exact .cons _ _ .nil | exact .nil) ?_; k_whole) | (refine' in_E (by k_asm) (by k_asm) (by k_asm) (by k_asm) ?_)))
  k_with "compareOp NotEq ref ref" => (k_here; k_dflt (refine' ne_E (by k_asm) (by k_mem) (by k_mem) (by k_asm) (by k_asm) (by k_asm) (by k_asm) (by k_units) ?_))
  k_with "binaryOp Add ref ref" => (k_here; k_dflt (refine' add_L (by k_asm) (by k_asm) (by first | exact led_list (by k_asm) (by k_mem) | exact base_list (by k_asm) (by k_asm)) (by first | exact led_list (by k_asm) (by k_mem) | exact base_list (by k_asm) (by k_asm)) (by first | k_asm | exact .cons _ _ .nil | exact .nil) (by first | k_asm | exact .cons _ _ .nil | exact .nil) (by first | k_asm | (simp only [List.length_cons, List.length_nil, sizeLine_eq]; omega)) ?_); intro hz9 Dz9 Fz9 Nz9 l1z9 hiz9; (try k_lt l1z9); (try k_sweep); revert hz9 Dz9 Fz9 Nz9 l1z9 hiz9; intro _ _ _ _ _ _)
  k_with "call builtin:dict.get" => (k_here; k_dflt (first | (refine' get_V (by k_asm) (by k_mem) (by k_asm) (by k_asm) (by first | k_asm | exact vaSame _ _ _) ?_) | (refine' get_N (by k_asm) (by k_mem) (by k_asm) (by k_asm) (by k_asm) ?_)))
  k_with "call type:list" => (k_here; k_dflt (refine' copy_L (by k_asm) (by k_asm) (by k_mem) (by k_asm) ?_); intro Bz9 cz9 hz9 tkz9 Fz9 Nz9 l1z9; (try k_lt l1z9); (try k_sweep); revert Bz9 cz9 hz9 tkz9 Fz9 Nz9 l1z9; intro _ _ _ _ _ _ _)
  k_with "call builtin:list.extend" => (k_here; k_dflt (refine' ext_L (by k_asm) (by k_asm) (by k_updF) (by k_mem) (by first | k_asm | exact .cons _ _ .nil | exact .nil) (by first | k_asm | exact .cons _ _ .nil | exact .nil) (by first | k_asm | (simp only [List.length_cons, List.length_nil, sizeLine_eq]; omega)) ?_); intro hz9 nz9 Fz9 Nz9 hiz9; (try dsimp only at Nz9); (try k_sweep); revert hz9 nz9 Fz9 Nz9 hiz9; intro _ _ _ _ _)
  k_with "k_all" => with_reducible assumption
  k_with "subscriptTail" => (k_here; (with_reducible show wpAny _ _ (subscriptTail _ _ (Value.ref _) (Value.int _ _)) _ _ _); k_dflt (refine' item_V (by k_asm) (by k_mem) (by k_asm) (by k_asm) ?_ (by with_unfolding_all rfl)))
  k_with "compareOp Eq ref ref" => (k_here; k_dflt (refine' ke_eq_ints (by first | exact led_list (by k_asm) (by k_mem) | exact base_list (by k_asm) (by k_asm)) (by first | exact led_list (by k_asm) (by k_mem) | exact base_list (by k_asm) (by k_asm)) (by first | k_asm | exact .cons _ _ .nil | exact .nil) (by first | k_asm | exact .cons _ _ .nil | exact .nil) (by k_units) ?_))
  trivial
theorem kill_local_s {R P : Addr} {f : Int → Option (List Int)} (hfl : ∀ k ns, f k = some ns → (ns.filter (fun i => decide (i = -1)) = [-1] ∨ ns.filter (fun i => decide (i = -1)) = []) ∧ ns.length < 60) :
    Spec prog w p loose mean mg mb 6 285 [.ref R, .ref P] (Star (Hook prog w R f) (EmptyD prog w P)) (fun _ => Star (Hook prog w R (fun _ => none)) (EmptyD prog w P)) := by
  intro dp un gd cn cs a ccd cl outer A₀ base h₀ L m s Q E fp B X0 T hke hdp hu I hk
  refine hideG fun GG hGG => ?_
  obtain ⟨f1, f2, rfl, apart, ⟨Rd, rr, oR, orr, RL, rfl, l, hh⟩, ⟨rfl, lP, oP, hP, dP⟩⟩ := I.C
  have F := I.F
  obtain ⟨nd, ⟨k1, t1, n1, rfl⟩, lrd, drd, kok, ok, fn⟩ := id l
  obtain ⟨⟨_, _⟩, _⟩ := nd3 nd
  refine hGG ?_; clear hGG GG
  have hid : ∀ p ∈ hookObjs R Rd rr (dictOf [⟨k1, .str "rows" t1, .ref rr⟩] n1) orr RL, p.1 ∈ (hookObjs R Rd rr (dictOf [⟨k1, .str "rows" t1, .ref rr⟩] n1) orr RL).map (·.1) ++ [P] ∧ s.heap.get? p.1 = some p.2 := fun p hp => ⟨List.mem_append_left _ (List.mem_map_of_mem hp), hh p hp⟩
  have N : News h₀ L s.heap ((R, instObj 248 Rd) :: (Rd, dictOf [⟨k1, .str "rows" t1, .ref rr⟩] n1) :: (rr, orr) :: RL.flatMap RowR.objs) := I.news hid
  refine wpAny_call ?_
  refine enterC (K := hd.heap_1 w.params) (f := 285) B F X0 T N rfl rfl hke ((X0.keeps F.keep) _ _ (by k_is)) rfl (codeRec_of (X0.keeps F.keep) (by k_is)) (by k_room) rfl rfl (by decide +kernel) ?_ rfl rfl rfl
  intro g' L' h' tk' cells' keep gone fresh F' N' Y' B' X' T' lt
  have hPg : g'.get? P = some oP := keep P oP hP fun q => apart P q (.head _)
  clear N F B X0 T
  k_cells Y'
  simp only [List.cons_append, List.nil_append] at N'
  try dsimp only
  try k_fold
  have hFP : FltP (fun i => decide (i = -1)) := trivial
  refine wpAny_execs_cons ?_
  refine wpAny_For ?_
  repeat' ((fail_if_success (with_reducible show wpAny _ _ (pyIter _) _ _ _)); (fail_if_success (with_reducible show wpAny _ _ (PySem.exec (Stmt.For _ _ _ _ _) _) _ _ _)); first | (k_unfold; (try dsimp only)) | walk1 | (dsimp only; walk1) | fail "no step")
  rename_i oc dcell B1z c1z hh1z tk1z vs1z hi1z h641z hsz1z l11z KL ksv keys kc hX FX NX hiX hpX h64X hszX lX
  refine hideG fun GG hGG => ?_
  obtain ⟨lX1, lX2, lX3, lX4, lX5, lX6⟩ := lX
  have ndk : (RL.map (·.k)).Nodup := by rw [← rowsKvs_keys]; exact keysNodup_of_isDictOf drd
  rw [rowsKvs_keys] at hpX
  suffices kk : ∀ m0 : Str → Option Value, Fr g' L' hX m0 → m0 (Str.ofString "own") = some (.ref R) → GG by exact kk _ FX rfl
  intro m0 F0 e1
  refine hGG ?_; clear hGG GG
  clear FX
  refine Iter_led (g := g') (L := L') (items := ksv.toArray) rfl F0 (nw₀ := (KL, listOf ksv.toArray kc) :: (L' + 1, oc) :: (R, instObj 248 Rd) :: (Rd, dictOf [⟨k1, .str "rows" t1, .ref rr⟩] n1) :: (rr, orr) :: RL.flatMap RowR.objs) (fun p hp => NX p (by
      rcases List.mem_cons.mp hp with rfl | hp
      · exact .head _
      · exact .tail _ (.tail _ hp)))
    (fun i m nw => ∃ u1 u2 ordI RLI, m = (fun y => if y = Str.ofString "row" then u2 else if y = Str.ofString "symbol" then u1 else m0 y) ∧ nw = (KL, listOf ksv.toArray kc) :: (L' + 1, oc) :: (R, instObj 248 Rd) :: (Rd, dictOf [⟨k1, .str "rows" t1, .ref rr⟩] n1) :: (rr, ordI) :: RLI.flatMap RowR.objs ∧
      ordI.IsDictOf (PySem.intKind prog w) (rowsKvs RLI) ∧ (RLI.map (·.k)).Perm (keys.drop i) ∧ (RLI.map (·.k)).Nodup ∧ (∀ q ∈ RLI, q ∈ RL) ∧ ([R, Rd, rr] ++ (RLI.flatMap RowR.objs).map (·.1)).Nodup) ?_ ?_ ?_ ?_
  · rintro i m nw h ⟨u1, u2, o1, RLI, rfl, rfl, _⟩ F N
    exact ⟨_, (N _ (.head _)).1, rfl, _, rfl⟩
  · refine ⟨m0 (Str.ofString "symbol"), m0 (Str.ofString "row"), orr, RL, ?_, rfl, drd, hpX.symm, ndk, fun _ q => q, nd⟩
    funext y
    split
    · rename_i e; rw [e]
    · split
      · rename_i e; rw [e]
      · rfl
  · rintro i v it oi h tk m nw hx ⟨u1, u2, ordI, RLI, rfl, rfl, dI, pI, nI, sI, aI⟩ off F1 N1
    refine hideG fun GG hGG => ?_
    obtain ⟨kZ, tZ, rfl, hkZ⟩ := IntsAre.at hiX i v (by simpa using hx)
    rw [drop_cons hkZ] at pI
    obtain ⟨A, q, Bq, rfl, hkq, pI', hA, hB⟩ := rows_split pI nI
    subst hkq
    have hqR := sI q (List.mem_append_right _ (.head _))
    obtain ⟨ivq, dddq, lddq⟩ := ok q hqR
    have hfq : f q.k = some q.ns := by rw [fn]; exact rowsF_mem ndk hqR
    obtain ⟨hflt, hlq⟩ := hfl _ _ hfq
    have hv := rows_some (RL := A ++ q :: Bq) (find_mid hA)
    have hvs : (valueAt (rowsKvs (A ++ q :: Bq)) q.k).isSome = true := by rw [hv]; rfl
    have hlq2 : q.vs.toArray.size ≤ sizeLine := by have := ivq.length; rw [List.size_toArray, sizeLine_eq]; omega
    obtain ⟨aI2, aT, aq⟩ := objs_nodup_mid aI
    have kokI := kok_sub kok sI
    refine nd7e (a := R) (b := Rd) (c := rr) (d := q.r) (e := q.d) (f := q.il) (g := q.dd) aq fun _ _ _ _ _ _ _ _ _ _ _ _ _ _ _ _ _ _ _ _ _ => ?_
    refine hGG ?_; clear hGG GG
    have hmq : ∀ p ∈ q.objs, p ∈ RL.flatMap RowR.objs := fun p hp => List.mem_flatMap.mpr ⟨q, hqR, hp⟩
    have b1 : @LT.lt Nat _ q.r L' := lt (q.r, _) (.tail _ (.tail _ (.tail _ (hmq _ (.head _)))))
    have b2 : @LT.lt Nat _ q.d L' := lt (q.d, _) (.tail _ (.tail _ (.tail _ (hmq _ (.tail _ (.head _))))))
    have b3 : @LT.lt Nat _ q.il L' := lt (q.il, _) (.tail _ (.tail _ (.tail _ (hmq _ (.tail _ (.tail _ (.head _)))))))
    have b4 : @LT.lt Nat _ q.dd L' := lt (q.dd, _) (.tail _ (.tail _ (.tail _ (hmq _ (.tail _ (.tail _ (.tail _ (.head _))))))))
    have b5 : @LT.lt Nat _ R L' := lt (R, _) (.head _)
    have b6 : @LT.lt Nat _ Rd L' := lt (Rd, _) (.tail _ (.head _))
    have b7 : @LT.lt Nat _ rr L' := lt (rr, _) (.tail _ (.tail _ (.head _)))
    have n1' := off (KL, _) (.head _)
    have n2' := off (L' + 1, oc) (.tail _ (.head _))
    have n3' := off (R, _) (.tail _ (.tail _ (.head _)))
    have n4' := off (Rd, _) (.tail _ (.tail _ (.tail _ (.head _))))
    have n5' := off (rr, _) (.tail _ (.tail _ (.tail _ (.tail _ (.head _)))))
    have offq : ∀ p ∈ q.objs, p.1 ≠ it := fun p hp => off p (.tail _ (.tail _ (.tail _ (.tail _ (.tail _ (List.mem_flatMap.mpr ⟨q, List.mem_append_right _ (.head _), hp⟩))))))
    have n6' := offq (q.r, _) (.head _)
    have n7' := offq (q.d, _) (.tail _ (.head _))
    have n8' := offq (q.il, _) (.tail _ (.tail _ (.head _)))
    have n9' := offq (q.dd, _) (.tail _ (.tail _ (.tail _ (.head _))))
    dsimp only at n1' n2' n3' n4' n5' n6' n7' n8' n9'
    have N2 := news_midP [(it, oi), (KL, listOf ksv.toArray kc), (L' + 1, oc), (R, instObj 248 Rd), (Rd, dictOf [⟨k1, .str "rows" t1, .ref rr⟩] n1), (rr, ordI)] N1
    simp only [List.cons_append, List.nil_append] at N2
    have T1 : ∀ p ∈ (A ++ Bq).flatMap RowR.objs, p.1 ≠ q.d := fun p hp e => aT p hp (e ▸ .tail _ (.head _))
    have T2 : ∀ p ∈ (A ++ Bq).flatMap RowR.objs, p.1 ≠ rr := fun p hp e => (List.nodup_append.mp aI2).2.2 rr (.tail _ (.tail _ (.head _))) p.1 (List.mem_map_of_mem hp) e.symm
    clear N1 NX F0 hpX pI aI
    have offT : ∀ p ∈ (A ++ Bq).flatMap RowR.objs, p.1 ≠ it := fun p hp => off p (.tail _ (.tail _ (.tail _ (.tail _ (.tail _ (by
      rw [List.flatMap_append, List.flatMap_cons]
      rw [List.flatMap_append] at hp
      rcases List.mem_append.mp hp with z | z
      · exact List.mem_append_left _ z
      · exact List.mem_append_right _ (List.mem_append_right _ z)))))))
    generalize hTT : (A ++ Bq).flatMap RowR.objs = TT at N2 T1 T2 offT
    repeat' ((fail_if_success (with_reducible show wpAny _ _ (pyIter _) _ _ _)); (fail_if_success (with_reducible show wpAny _ _ (PySem.exec (Stmt.For _ _ _ _ _) _) _ _ _)); first | (k_unfold; (try dsimp only)) | walk1 | (dsimp only; walk1) | fail "no step")
    · exact (decide_eq_true (by assumption)).symm
    · exact (decide_eq_false (by assumption)).symm
    · try dsimp only
      (with_reducible rename Fr _ _ _ _ => FE)
      (with_reducible rename News _ _ _ _ => NE)
      (with_reducible rename Obj.IsDictOf _ _ _ => dE)
      refine LedEnd.mk (nw' := (KL, listOf ksv.toArray kc) :: (L' + 1, oc) :: (R, instObj 248 Rd) :: (Rd, dictOf [⟨k1, .str "rows" t1, .ref rr⟩] n1) :: (rr, _) :: TT) FE (fun p hp => NE p ?_) ?_ ⟨some (.int q.k tZ), some (.ref q.r), _, A ++ Bq, ?_, by rw [hTT], by rw [← without_mid hA hB]; exact dE, pI', ?_, fun y hy => ?_, aI2⟩
      · refine subOf ?_ hp; lcg_off
      · intro p hp
        simp only [List.mem_cons] at hp
        rcases hp with rfl | rfl | rfl | rfl | rfl | h
        · exact n1'
        · exact n2'
        · exact n3'
        · exact n4'
        · exact n5'
        · exact offT p h
      · funext y
        split
        · rfl
        · split <;> rfl
      · rw [List.map_append, List.map_cons] at nI
        rw [List.map_append]
        exact List.Sublist.nodup (List.Sublist.append_left (.cons _ (List.Sublist.refl _)) _) nI
      · rcases List.mem_append.mp hy with z | z
        · exact sI y (List.mem_append_left _ z)
        · exact sI y (List.mem_append_right _ (.tail _ z))
    · try dsimp only
      (with_reducible rename Fr _ _ _ _ => FE)
      (with_reducible rename News _ _ _ _ => NE)
      (with_reducible rename Obj.IsDictOf _ _ _ => dE)
      refine LedEnd.mk (nw' := (KL, listOf ksv.toArray kc) :: (L' + 1, oc) :: (R, instObj 248 Rd) :: (Rd, dictOf [⟨k1, .str "rows" t1, .ref rr⟩] n1) :: (rr, _) :: TT) FE (fun p hp => NE p ?_) ?_ ⟨some (.int q.k tZ), some (.ref q.r), _, A ++ Bq, ?_, by rw [hTT], by rw [← without_mid hA hB]; exact dE, pI', ?_, fun y hy => ?_, aI2⟩
      · refine subOf ?_ hp; lcg_off
      · intro p hp
        simp only [List.mem_cons] at hp
        rcases hp with rfl | rfl | rfl | rfl | rfl | h
        · exact n1'
        · exact n2'
        · exact n3'
        · exact n4'
        · exact n5'
        · exact offT p h
      · funext y
        split
        · rfl
        · split <;> rfl
      · rw [List.map_append, List.map_cons] at nI
        rw [List.map_append]
        exact List.Sublist.nodup (List.Sublist.append_left (.cons _ (List.Sublist.refl _)) _) nI
      · rcases List.mem_append.mp hy with z | z
        · exact sI y (List.mem_append_left _ z)
        · exact sI y (List.mem_append_right _ (.tail _ z))
    · exfalso
      (with_reducible rename (¬ List.filter _ q.ns = _) => z1)
      (with_reducible rename (decide (List.filter _ q.ns = _) = _) => z2)
      rcases hflt with z | z
      · exact z1 z
      · exact absurd z (of_decide_eq_false z2)
  · rintro h tk m nw ⟨u1, u2, ordI, RLI, rfl, rfl, dI, pI, nI, sI, aI⟩ F1 N1
    rw [show ksv.toArray.size = keys.length by rw [List.size_toArray]; exact hiX.length, List.drop_length] at pI
    have e0 : RLI = [] := List.map_eq_nil_iff.mp (List.Perm.eq_nil pI)
    subst e0
    clear NX F0
    dsimp only
    repeat' (first | (k_unfold; (try dsimp only)) | walk1 | (dsimp only; walk1) | fail "no step")
    repeat' (first | k_unfold | (dsimp only))
    have hsub : ∀ p ∈ [(R, instObj 248 Rd), (Rd, dictOf [⟨k1, .str "rows" t1, .ref rr⟩] n1), (rr, ordI)], h.get? p.1 = some p.2 := fun p hp => (N1 p (.tail _ (.tail _ hp))).1
    refine leafDone I keep gone (fun p hp => (hid p hp).1) hk F1 N1 ([R, Rd, rr] ++ [P]) ?_ (fun a q => ?_)
    · refine ⟨[R, Rd, rr], [P], rfl, fun a q => apart a ?_, hook_empty (by simpa using aI) ⟨_, _, _, rfl⟩ lrd dI hsub, rfl, lP, oP, F1.keep _ _ hPg, dP⟩
      exact allC (P := fun a => a ∈ (hookObjs _ _ _ _ _ _).map (·.1)) (.head _) (allC (.tail _ (.head _)) (allC (.tail _ (.tail _ (.head _))) allN)) a q
    · left
      rcases List.mem_append.mp q with z | z
      · refine List.mem_append_left _ ?_
        exact allC (P := fun a => a ∈ (hookObjs _ _ _ _ _ _).map (·.1)) (.head _) (allC (.tail _ (.head _)) (allC (.tail _ (.tail _ (.head _))) allN)) a z
      · exact List.mem_append_right _ z
end
section
theorem wtLHook : True := by
  w_top off
  trivial
variable {prog : Program} {w : World} {p : Program} {loose : List Str} {mean : ExcName → Option Value} {mg mb : Str → Option Value}
theorem kwLHook3 : True := by
  k_with "k_mem" => (with_reducible refine memOf ?_; with_reducible assumption)
  k_with "subscriptTail" => (k_here; (with_reducible show wpAny _ _ (subscriptTail _ _ (Value.ref _) (Value.str _ _)) _ _ _); k_dflt (refine' item_S (by k_asm) (by k_mem) (by k_asm) (by rfl) ?_ (by with_unfolding_all rfl)))
  k_with "call builtin:list.append" => (k_here; (with_reducible show wpAny _ _ (call (Value.builtin _) [Value.ref _, _]) _ _ _); k_dflt (refine' app_T (by k_asm) (by k_asm) (by k_updF) (by k_asm) ?_); intro hz9 Fz9 Nz9; (try dsimp only at Nz9); (try k_sweep); revert hz9 Fz9 Nz9; intro _ _ _)
  k_with "call builtin:len" => (k_here; (with_reducible show wpAny _ _ (call (Value.builtin _) [Value.ref _]) _ _ _); k_dflt (refine' len_T (by k_asm) (by k_mem) (by first | k_asm | (simp only [List.length_append, List.length_cons, List.length_nil]; k_asm)) ?_))
  trivial
theorem law_hooked_s {RC : Addr} {r : RecSt} {k : Int} {t : Tok} (hszw : ∀ ns, r.rows k = some ns → ns.length < 60) (hsze : ∀ ns, r.every k = some ns → ns.length < 60) (htold : r.told.length < 100000) : Spec prog w p loose mean mg mb 6 451 [.ref RC, .int k t] (Rec prog w RC r) (fun _ => Rec prog w RC (hookedR r k (lawCalled (r.every k) (r.rows k)))) := by
  intro dp un gd cn cs a ccd cl outer A₀ base h₀ L m s Q E fp B X0 T hke hdp hu I hk
  obtain ⟨ws, hws, hHolds, O⟩ := own_of rec_good I.C
  have F := I.F
  have N := I.news (hid := ws) (fun p hp => ⟨hws ▸ List.mem_map_of_mem hp, hHolds p hp⟩)
  refine wpAny_call ?_
  refine enter (K := hd.heap_1 w.params) (f := 451) (cl := []) B F X0 T N rfl rfl hke ((X0.keeps F.keep) _ _ (by k_is)) rfl (codeRec_of (X0.keeps F.keep) (by k_is)) (by k_room) (BindsTo.of_eq rfl) (locs rfl) ?_ (by decide) rfl rfl rfl
  intro g' L' h' keep gone fresh F' N' B' X' T' lt
  clear N F B X0 T
  refine hideG fun GG hGG => ?_
  suffices kk : ∀ m0 : Str → Option Value, Fr g' L' h' m0 → m0 (Str.ofString "record") = some (.ref RC) → m0 (Str.ofString "word") = some (.int k t) → GG by exact kk _ F' rfl rfl
  intro m0 F0 e1 e2
  refine hGG ?_; clear hGG GG
  clear F'
  try dsimp only
  try k_fold
  refine wpAny_execs_cons ?_
  refine wpAny_For ?_
  repeat' (k_extra "W1")
  change wpAny _ (ktrTop (dp + 1) (un + 3) gd _ _ L' 451 _ [] (envX cn cs L a ccd cl :: outer)) _ _ _ _
  refine call_W (own := []) (Spec.toS (law_called_s (prog := prog) (w := w) (p := p) (loose := loose) (mean := mean) (mg := mg) (mb := mb) hszw hsze)) (St := []) (fun v => Star.good rec_good listV_good) B' X' T' rfl (by omega) (by omega) F0 N' O (fun q hq => nomatch hq) (fun q hq => nomatch hq) ?_
  intro v h1 tk1 ws1 F1 N1 O1 _
  simp only [List.nil_append] at N1
  refine hideG fun GG hGG => ?_
  obtain ⟨wr, wl, rfl, Or, Ol, dis⟩ := own_star rec_good listV_good (fun p hp => (N1 p hp).1) O1
  obtain ⟨D, vs, c, rfl, rfl, iv⟩ := own_listV Ol (fun p hp => (N1 p (List.mem_append_right _ hp)).1)
  obtain ⟨P1, rfl, l1⟩ := own_rec Or (fun p hp => (N1 p (List.mem_append_left _ hp)).1)
  refine hGG ?_; clear hGG GG
  generalize hns : lawCalled (r.every k) (r.rows k) = ns at iv hk
  clear O Or Ol O1 N' F0
  dsimp only
  refine Iter_led (g := g') (L := L') (items := vs.toArray) rfl F1 (nw₀ := (D, listOf vs.toArray c) :: P1.objs RC) (fun p hp => N1 p (by
      rcases List.mem_cons.mp hp with rfl | hp
      · exact List.mem_append_right _ (.head _)
      · exact List.mem_append_left _ hp))
    (fun i m nw => ∃ u P, m = (fun y => if y = Str.ofString "function" then u else m0 y) ∧ nw = (D, listOf vs.toArray c) :: P.objs RC ∧ RecL prog w RC P (hookedR r k (ns.take i)) ∧ (∀ q ∈ P.objs RC, q.1 ≠ D)) ?_ ?_ ?_ ?_
  · rintro i m nw h ⟨u, P, rfl, rfl, _⟩ F N
    exact ⟨_, (N _ (.head _)).1, rfl, _, rfl⟩
  · refine ⟨m0 (Str.ofString "function"), P1, ?_, rfl, l1, fun q hq e => dis q hq (e ▸ .head _)⟩
    funext y
    split
    · rename_i e; rw [e]
    · rfl
  · rintro i v it oi h tk m nw hx ⟨u, ⟨dD, dO, dA, dK, dE, dR, lO, lT, oRC, oD, oO, oA, oK, oE, oR, kD, kO, kA, kK, cO, cT, tm, von, EL, WL, TT⟩, rfl, rfl, l, offD⟩ off F N
    obtain ⟨f, tf, rfl, hf⟩ := IntsAre.at iv i v (by simpa using hx)
    rw [show ns.take i = ns.take i from rfl] at l
    have hstep := hookedR_take (r := r) (w := k) hf
    have htl : (hookedR r k (ns.take i)).told.length ≤ 100200 := by
      rw [hookedR_told, List.length_take]
      have : ns.length ≤ 120 := by
        rw [← hns, lawCalled, List.length_append]
        have a1 : ((r.rows k).getD []).length < 60 := by
          cases e : r.rows k with
          | none => decide
          | some z => exact hszw z e
        have a2 : ((r.every k).getD []).length < 60 := by
          cases e : r.every k with
          | none => decide
          | some z => exact hsze z e
        omega
      omega
    generalize hookedR r k (ns.take i) = rI at l hstep htl
    refine hideG fun GG hGG => ?_
    obtain ⟨nd, dRC, lRC, lD, lO', lA, lK, lE, lR, iD, iO, iA, iK, iE, iR, xD, xO, xA, xK, kE, kR, fE, fR, vE, vR, ivon, tt⟩ := id l
    dsimp only at dRC lRC lD lO' lA lK lE lR iD iO iA iK iE iR xD xO xA xK kE kR fE fR vE vR ivon tt
    have kD9 := xD.1
    have kO9 := xO.1
    have kA9 := xA.1
    have kK9 := xK.1
    suffices kk : ∀ rest, EL.map LR.obj ++ (WL.map LR.obj ++ TT) = rest → GG by exact kk _ rfl
    intro rest hrest
    refine hGG ?_; clear hGG GG
    have nd' : (RC :: dD :: dO :: dA :: dK :: dE :: dR :: lO :: lT :: rest.map (·.1)).Nodup := by
      rw [← hrest]; exact nd
    refine hideG fun GG hGG => ?_
    refine nd9e nd' fun _ _ _ _ _ _ _ _ _ _ _ _ _ _ _ _ _ _ _ _ _ _ _ _ _ _ _ _ _ _ _ _ _ _ _ _ rRC rD rO rA rK rE rR rlO rlT => ?_
    refine hGG ?_; clear hGG GG
    have N2 : News g' L' h ((it, oi) :: (D, listOf vs.toArray c) :: (RC, oRC) :: (dD, oD) :: (dO, oO) :: (dA, oA) :: (dK, oK) :: (dE, oE) :: (dR, oR) :: (lO, listOf von.toArray cO) :: (lT, listOf (refs TT).toArray cT) :: rest) := by
      rw [← hrest]; exact N
    have hobj : (((RC, oRC) :: (dD, oD) :: (dO, oO) :: (dA, oA) :: (dK, oK) :: (dE, oE) :: (dR, oR) :: (lO, listOf von.toArray cO) :: (lT, listOf (refs TT).toArray cT) :: rest) : List (Addr × Obj)) = RecP.objs RC ⟨dD, dO, dA, dK, dE, dR, lO, lT, oRC, oD, oO, oA, oK, oE, oR, kD, kO, kA, kK, cO, cT, tm, von, EL, WL, TT⟩ := by
      rw [← hrest]; rfl
    clear N N1
    rw [← hobj] at offD off
    have hTlen : (refs TT).length ≤ sizeLine := by
      rw [show (refs TT).length = rI.told.length by unfold refs; rw [List.length_map]; exact tt.length, sizeLine_eq]; omega
    have hTlen2 : (refs TT).length + 1 ≤ sizeLine := by
      rw [show (refs TT).length = rI.told.length by unfold refs; rw [List.length_map]; exact tt.length, sizeLine_eq]; omega
    have oD1 := offD (RC, _) (.head _)
    have oD2 := offD (lT, _) (.tail _ (.tail _ (.tail _ (.tail _ (.tail _ (.tail _ (.tail _ (.tail _ (.head _)))))))))
    have oI1 := off (RC, _) (.tail _ (.head _))
    have oI2 := off (lT, _) (.tail _ (.tail _ (.tail _ (.tail _ (.tail _ (.tail _ (.tail _ (.tail _ (.tail _ (.head _))))))))))
    have oID := off (D, _) (.head _)
    dsimp only at oD1 oD2 oI1 oI2 oID
    dsimp only
    repeat' (k_extra "W1")
    change wpAny _ (ktrTop (dp + 1) (un + 3) gd _ _ L' 451 _ [] (envX cn cs L a ccd cl :: outer)) _ _ _ _
    (with_reducible rename News _ _ _ _ => NN)
    (with_reducible rename Fr _ _ _ _ => FF)
    rename_i _ _ DT _ hlt _
    refine hideG fun GG hGG => ?_
    obtain ⟨hDit, hDD, hlt1, hlt2, hlt3, hlt4, hlt5, hlt6, hlt7, hlt8, hlt9, hlt10⟩ := hlt
    suffices kk : ∀ tS, News g' L' _ ((DT, tupOf [Value.str (Str.ofString "function") tS, Value.int k t, Value.int f tf] 0) :: (it, oi) :: (D, listOf vs.toArray c) :: (RC, oRC) :: (dD, oD) :: (dO, oO) :: (dA, oA) :: (dK, oK) :: (dE, oE) :: (dR, oR) :: (lO, listOf von.toArray cO) :: (lT, listOf (refs TT ++ [Value.ref DT]).toArray (cT + 1)) :: rest) → GG by exact kk _ NN
    intro tS NN
    refine hGG ?_; clear hGG GG
    have hnew : ∀ p ∈ RecP.objs RC ⟨dD, dO, dA, dK, dE, dR, lO, lT, oRC, oD, oO, oA, oK, oE, oR, kD, kO, kA, kK, cO, cT, tm, von, EL, WL, TT⟩, p.1 ≠ DT := by
      rw [← hobj]
      (repeat' (refine off_cons ?_ ?_)); (all_goals first | omega | exact allLt_mem (by assumption))
    have l2 := l.tell (e := .fn k f) (a := DT) (n := 0) (c := cT + 1) (.fn k f tS t tf) hnew
    dsimp only at l2
    refine hideG fun GG hGG => ?_
    suffices kk : ∀ P2 : RecP, P2 = ⟨dD, dO, dA, dK, dE, dR, lO, lT, oRC, oD, oO, oA, oK, oE, oR, kD, kO, kA, kK, cO, cT + 1, tm, von, EL, WL, TT ++ [(DT, tupOf [Value.str (Str.ofString "function") tS, Value.int k t, Value.int f tf] 0)]⟩ → GG by exact kk _ rfl
    intro P2 hP2
    refine hGG ?_; clear hGG GG
    rw [← hP2] at l2
    have hobj2 : RecP.objs RC P2 = (RC, oRC) :: (dD, oD) :: (dO, oO) :: (dA, oA) :: (dK, oK) :: (dE, oE) :: (dR, oR) :: (lO, listOf von.toArray cO) :: (lT, listOf (refs TT ++ [Value.ref DT]).toArray (cT + 1)) :: (rest ++ [(DT, tupOf [Value.str (Str.ofString "function") tS, Value.int k t, Value.int f tf] 0)]) := by
      rw [hP2, ← hrest]; exact objs_tell (P := ⟨dD, dO, dA, dK, dE, dR, lO, lT, oRC, oD, oO, oA, oK, oE, oR, kD, kO, kA, kK, cO, cT, tm, von, EL, WL, TT⟩)
    have offs : ∀ q ∈ [(it, oi), (D, listOf vs.toArray c)], q.1 ∉ (RecP.objs RC P2).map (·.1) := by
      rw [hobj] at offD off
      rw [hP2]
      exact allC (nin_map (tell_fst (P := ⟨dD, dO, dA, dK, dE, dR, lO, lT, oRC, oD, oO, oA, oK, oE, oR, kD, kO, kA, kK, cO, cT, tm, von, EL, WL, TT⟩) (fun p hp => off p (.tail _ hp)) (Ne.symm (Nat.ne_of_lt hDit)))) (allC (nin_map (tell_fst (P := ⟨dD, dO, dA, dK, dE, dR, lO, lT, oRC, oD, oO, oA, oK, oE, oR, kD, kO, kA, kK, cO, cT, tm, von, EL, WL, TT⟩) offD (Ne.symm (Nat.ne_of_lt hDD)))) allN)
    refine call_W (own := [(it, oi), (D, listOf vs.toArray c)]) (ws := RecP.objs RC P2) (Spec.toS (law_put_s (prog := prog) (w := w) (p := p) (loose := loose) (mean := mean) (mg := mg) (mb := mb) (by rw [fmod6]; omega) (by rw [fmod6]; omega))) (St := []) (fun v => rec_good) B' X' T' rfl (by omega) (by omega) FF (fun p hp => NN p ?_) (rec_own l2) offs (fun q hq => nomatch hq) ?_
    · rw [hobj2] at hp
      refine subOf ?_ hp; lcg_off
    intro v2 h2 tk2 ws2 F2 N3 O2 off2
    obtain ⟨P3, rfl, l3⟩ := own_rec O2 (fun p hp => (N3 p (List.mem_append_right _ hp)).1)
    dsimp only
    repeat' (k_extra "W1")
    have hx : ({ { rI with told := rI.told ++ [Ev.fn k f] } with x := rI.x.put (f.fmod 6) (100 + ((refs TT ++ [Value.ref DT]).length : Int)) } : RecSt) = hookedR r k (ns.take (i + 1)) := by
      rw [hstep]
      simp only [VarSt.fn, fmod6]
      rw [show (refs TT ++ [Value.ref DT]).length = rI.told.length + 1 by rw [List.length_append]; unfold refs; rw [List.length_map, tt.length]; rfl]
    dsimp only at hx l3
    rw [hx] at l3
    refine LedEnd.mk (nw' := (D, listOf vs.toArray c) :: RecP.objs RC P3) F2 N3 (fun p hp => ?_) ⟨some (.int f tf), P3, ?_, rfl, l3, fun q hq e => off2 (D, _) (.tail _ (.head _)) (List.mem_map.mpr ⟨q, hq, e⟩)⟩
    · rcases List.mem_cons.mp hp with rfl | hp
      · exact oID
      · exact fun e => off2 (it, _) (.head _) (List.mem_map.mpr ⟨p, hp, e⟩)
    · funext y
      split <;> rfl
  · rintro h tk m nw ⟨u, P, rfl, rfl, l, offD⟩ F N
    rw [show vs.toArray.size = ns.length by rw [List.size_toArray]; exact iv.length, List.take_length] at l
    dsimp only
    repeat' (first | (k_unfold; (try dsimp only)) | walk1 | (dsimp only; walk1) | fail "no step")
    repeat' (first | k_unfold | (dsimp only))
    obtain ⟨z1, z2⟩ := fin_W I hws keep gone F (fun p hp => N p (.tail _ hp)) (rec_own l)
    exact hk _ _ _ _ z1 z2
end
section
theorem wtLBody : True := by
  w_top off
  trivial
variable {prog : Program} {w : World} {p : Program} {loose : List Str} {mean : ExcName → Option Value} {mg mb : Str → Option Value}
theorem law_bodied_s {RC : Addr} {r : RecSt} {k : Int} {t : Tok} (h0 : 0 ≤ k) (h9 : k < 4) (hrow : r.rows k = none) (htold : r.told.length < 200000) : Spec prog w p loose mean mg mb 6 456 [.ref RC, .int k t] (Rec prog w RC r) (fun _ => Rec prog w RC (bodiedR r k)) := by
  intro dp un gd cn cs a ccd cl outer A₀ base h₀ L m s Q E fp B X0 T hke hdp hu I hk
  refine hideG fun GG hGG => ?_
  obtain ⟨⟨dD, dO, dA, dK, dE, dR, lO, lT, oRC, oD, oO, oA, oK, oE, oR, kD, kO, kA, kK, cO, cT, tm, von, EL, WL, TT⟩, rfl, l, hh⟩ := I.C
  obtain ⟨nd, dRC, lRC, lD, lO', lA, lK, lE, lR, iD, iO, iA, iK, iE, iR, xD, xO, xA, xK, kE, kR, fE, fR, vE, vR, ivon, tt⟩ := id l
  dsimp only at nd dRC lRC lD lO' lA lK lE lR iD iO iA iK iE iR xD xO xA xK kE kR fE fR vE vR ivon tt
  refine nd9e nd fun _ _ _ _ _ _ _ _ _ _ _ _ _ _ _ _ _ _ _ _ _ _ _ _ _ _ _ _ _ _ _ _ _ _ _ _ rRC rD rO rA rK rE rR rlO rlT => ?_
  have kD9 := xD.1
  have kO9 := xO.1
  have kA9 := xA.1
  have kK9 := xK.1
  have F := I.F
  have hsP : ∀ p ∈ RecP.objs RC ⟨dD, dO, dA, dK, dE, dR, lO, lT, oRC, oD, oO, oA, oK, oE, oR, kD, kO, kA, kK, cO, cT, tm, von, EL, WL, TT⟩, p.1 ∈ (RecP.objs RC ⟨dD, dO, dA, dK, dE, dR, lO, lT, oRC, oD, oO, oA, oK, oE, oR, kD, kO, kA, kK, cO, cT, tm, von, EL, WL, TT⟩).map (·.1) := fun p hp => List.mem_map_of_mem hp
  suffices kk : ∀ rest, EL.map LR.obj ++ (WL.map LR.obj ++ TT) = rest → GG by exact kk _ rfl
  intro rest hrest
  refine hGG ?_; clear hGG GG
  have N : News h₀ L s.heap ((RC, oRC) :: (dD, oD) :: (dO, oO) :: (dA, oA) :: (dK, oK) :: (dE, oE) :: (dR, oR) :: (lO, listOf von.toArray cO) :: (lT, listOf (refs TT).toArray cT) :: rest) := by
    rw [← hrest]; exact I.news fun p hp => ⟨hsP p hp, hh p hp⟩
  have hidE : ((RC, oRC) :: (dD, oD) :: (dO, oO) :: (dA, oA) :: (dK, oK) :: (dE, oE) :: (dR, oR) :: (lO, listOf von.toArray cO) :: (lT, listOf (refs TT).toArray cT) :: rest : List (Addr × Obj)) = RecP.objs RC ⟨dD, dO, dA, dK, dE, dR, lO, lT, oRC, oD, oO, oA, oK, oE, oR, kD, kO, kA, kK, cO, cT, tm, von, EL, WL, TT⟩ := by
    rw [← hrest]; rfl
  have hidS : ∀ p ∈ ((RC, oRC) :: (dD, oD) :: (dO, oO) :: (dA, oA) :: (dK, oK) :: (dE, oE) :: (dR, oR) :: (lO, listOf von.toArray cO) :: (lT, listOf (refs TT).toArray cT) :: rest : List (Addr × Obj)), p.1 ∈ (RecP.objs RC ⟨dD, dO, dA, dK, dE, dR, lO, lT, oRC, oD, oO, oA, oK, oE, oR, kD, kO, kA, kK, cO, cT, tm, von, EL, WL, TT⟩).map (·.1) := by
    rw [hidE]; exact hsP
  simp only [RecP.rest] at rRC rD rO rA rK rE rR rlO rlT
  rw [hrest] at rRC rD rO rA rK rE rR rlO rlT
  have ew : WL.find? (fun q => decide (q.k = k)) = none := by
    rw [fR] at hrow
    unfold lrF at hrow
    cases e : WL.find? (fun q => decide (q.k = k)) with
    | none => rfl
    | some q => rw [e] at hrow; cases hrow
  have hvw := lr_none ew
  have hTlen : (refs TT).length ≤ sizeLine := by
    rw [show (refs TT).length = r.told.length by unfold refs; rw [List.length_map]; exact tt.length, sizeLine_eq]; omega
  refine wpAny_call ?_
  refine enterC (K := hd.heap_1 w.params) (f := 456) B F X0 T N rfl rfl hke ((X0.keeps F.keep) _ _ (by k_is)) rfl (codeRec_of (X0.keeps F.keep) (by k_is)) (by k_room) rfl rfl (by decide +kernel) ?_ rfl rfl rfl
  intro g' L' h' tk' cells' keep gone fresh F' N' Y' B' X' T' lt
  clear N F B X0 T
  k_cells Y'
  simp only [List.cons_append, List.nil_append] at N'
  try dsimp only
  try k_fold
  have b0 : @LT.lt Nat _ RC L' := lt (RC, _) (.head _)
  have b1 : @LT.lt Nat _ dD L' := lt (dD, _) (.tail _ (.head _))
  have b2 : @LT.lt Nat _ dO L' := lt (dO, _) (.tail _ (.tail _ (.head _)))
  have b3 : @LT.lt Nat _ dA L' := lt (dA, _) (.tail _ (.tail _ (.tail _ (.head _))))
  have b4 : @LT.lt Nat _ dK L' := lt (dK, _) (.tail _ (.tail _ (.tail _ (.tail _ (.head _)))))
  have b5 : @LT.lt Nat _ dE L' := lt (dE, _) (.tail _ (.tail _ (.tail _ (.tail _ (.tail _ (.head _))))))
  have b6 : @LT.lt Nat _ dR L' := lt (dR, _) (.tail _ (.tail _ (.tail _ (.tail _ (.tail _ (.tail _ (.head _)))))))
  have b7 : @LT.lt Nat _ lO L' := lt (lO, _) (.tail _ (.tail _ (.tail _ (.tail _ (.tail _ (.tail _ (.tail _ (.head _))))))))
  have b8 : @LT.lt Nat _ lT L' := lt (lT, _) (.tail _ (.tail _ (.tail _ (.tail _ (.tail _ (.tail _ (.tail _ (.tail _ (.head _)))))))))
  repeat' (k_extra "W1")
  · change wpAny _ (ktrTop (dp + 1) (un + 3) gd _ _ L' 456 _ _ (envX cn cs L a ccd cl :: outer)) _ _ _ _
    (with_reducible rename News _ _ _ _ => NN)
    (with_reducible rename Fr _ _ _ _ => FF)
    (with_reducible rename Obj.IsDictOf _ _ (stored (lrKvs WL) _ _) => dRn)
    (with_reducible rename Obj.IsDictOf _ _ (stored kO _ _) => dOn)
    (with_reducible rename k.fmod 2 = 1 => hodd)
    (with_reducible rename IntsAre (_ ++ _) _ => ivn)
    rename_i DT _ hltT _ _ _ _ oO2 l1 _ hl1 l2 _ hl2 _ C1 _ _ hC1 _ DN hlN _ oR2
    refine hideG fun GG hGG => ?_
    suffices kk : ∀ tO, Obj.IsDictOf (PySem.intKind prog w) oO2 (stored kO k (.int (10 + k) tO)) → GG by exact kk _ dOn
    intro tO dOn
    suffices kk : ∀ tS tN oC, News g' L' _ ((DN, listOf ([Value.int (30 + k) tN] ++ []).toArray 0) :: (C1, LCg.lst []) :: (l2, listOf #[] 0) :: (l1, listOf #[Value.int (30 + k) tN] 0) :: (DT, tupOf [Value.str (Str.ofString "body") tS, Value.int k t] 0) :: (L' + 1, oC) :: (RC, oRC) :: (dD, oD) :: (dO, oO2) :: (dA, oA) :: (dK, oK) :: (dE, oE) :: (dR, oR2) :: (lO, listOf von.toArray cO) :: (lT, listOf (refs TT ++ [Value.ref DT]).toArray (cT + 1)) :: rest) → GG by exact kk _ _ _ NN
    intro tS tN oC NN
    obtain ⟨_, k1, k2, k3, k4, k5, k6, k7, k8, k9, kAl⟩ := hltT
    refine hGG ?_; clear hGG GG
    have hT : ∀ p ∈ RecP.objs RC ⟨dD, dO, dA, dK, dE, dR, lO, lT, oRC, oD, oO, oA, oK, oE, oR, kD, kO, kA, kK, cO, cT, tm, von, EL, WL, TT⟩, p.1 ≠ DT := by
      rw [← hidE]
      (repeat' (refine off_cons ?_ ?_)); (all_goals first | omega | exact allLt_mem (by assumption))
    refine hideG fun GG hGG => ?_
    obtain ⟨_, _, _, hDTN, _, n1, n2, n3, n4, n5, n6, n7, n8, n9, nAl⟩ := hlN
    refine hGG ?_; clear hGG GG
    have hN : ∀ p ∈ RecP.objs RC ⟨dD, dO, dA, dK, dE, dR, lO, lT, oRC, oD, oO, oA, oK, oE, oR, kD, kO, kA, kK, cO, cT, tm, von, EL, WL, TT⟩, p.1 ≠ DN := by
      rw [← hidE]
      (repeat' (refine off_cons ?_ ?_)); (all_goals first | omega | exact allLt_mem (by assumption))
    have q1 := l.row (n := 0) (vs := [Value.int (30 + k) tN] ++ []) ew dRn (.cons _ _ .nil)  h0 (by omega) hN
    have q2 := q1.tell (e := .body k) (a := DT) (n := 0) (c := cT + 1) (.body k tS t) (row_fst hT (Ne.symm (Nat.ne_of_lt hDTN)))
    have q3 := q2.setOwn dOn (xO.put (.some _ _) h0 (by omega))
    dsimp only at q3
    refine hideG fun GG hGG => ?_
    suffices kk : ∀ P2 : RecP, P2 = ⟨dD, dO, dA, dK, dE, dR, lO, lT, oRC, oD, oO2, oA, oK, oE, oR2, kD, stored kO k (.int (10 + k) tO), kA, kK, cO, cT + 1, tm, von, EL, WL ++ [⟨k, DN, 0, [Value.int (30 + k) tN] ++ [], [30 + k]⟩], TT ++ [(DT, tupOf [Value.str (Str.ofString "body") tS, Value.int k t] 0)]⟩ → GG by exact kk _ rfl
    intro P2 hP2
    refine hGG ?_; clear hGG GG
    rw [← hP2] at q3
    refine call_W (own := []) (ws := RecP.objs RC P2) (Spec.toS (law_put_s (prog := prog) (w := w) (p := p) (loose := loose) (mean := mean) (mg := mg) (mb := mb) (by omega) (by omega))) (St := []) (fun v => rec_good) B' X' T' rfl (by omega) (by omega) FF (fun p hp => NN p ?_) (rec_own q3) (fun q hq => nomatch hq) (fun q hq => nomatch hq) ?_
    · rw [← hrest]
      rw [List.nil_append, hP2] at hp
      refine subOf ?_ hp; (try simp only [RecP.objs, RecP.rest, refs_snoc, List.map_append, List.map_cons, List.map_nil, LR.obj, List.cons_append, List.nil_append]); lcg_off
    intro v2 h2 tk2 ws2 F2 N3 O2 _
    simp only [List.nil_append] at N3
    dsimp only
    repeat' (k_extra "W1")
    repeat' (first | k_unfold | (dsimp only))
    obtain ⟨z1, z2⟩ := fin_W I (by rw [hidE]) keep gone F2 N3 O2
    refine hk _ _ _ _ ?_ z2
    rw [show bodiedR r k = _ by unfold bodiedR; rw [if_pos (by rw [← Int.fmod_eq_emod_of_nonneg _ (by decide)]; exact hodd)]]
    exact z1
  · change wpAny _ (ktrTop (dp + 1) (un + 3) gd _ _ L' 456 _ _ (envX cn cs L a ccd cl :: outer)) _ _ _ _
    (with_reducible rename News _ _ _ _ => NN)
    (with_reducible rename Fr _ _ _ _ => FF)
    (with_reducible rename Obj.IsDictOf _ _ (stored kO _ _) => dOn)
    (with_reducible rename k.fmod 2 ≠ 1 => heven)
    rename_i DT _ hltT _ _ oO2
    refine hideG fun GG hGG => ?_
    suffices kk : ∀ tO, Obj.IsDictOf (PySem.intKind prog w) oO2 (stored kO k (.int (10 + k) tO)) → GG by exact kk _ dOn
    intro tO dOn
    suffices kk : ∀ tS, News g' L' _ ((DT, tupOf [Value.str (Str.ofString "body") tS, Value.int k t] 0) :: (L' + 1, _) :: (RC, oRC) :: (dD, oD) :: (dO, oO2) :: (dA, oA) :: (dK, oK) :: (dE, oE) :: (dR, oR) :: (lO, listOf von.toArray cO) :: (lT, listOf (refs TT ++ [Value.ref DT]).toArray (cT + 1)) :: rest) → GG by exact kk _ NN
    intro tS NN
    obtain ⟨_, k1, k2, k3, k4, k5, k6, k7, k8, k9, kAl⟩ := hltT
    refine hGG ?_; clear hGG GG
    have hT : ∀ p ∈ RecP.objs RC ⟨dD, dO, dA, dK, dE, dR, lO, lT, oRC, oD, oO, oA, oK, oE, oR, kD, kO, kA, kK, cO, cT, tm, von, EL, WL, TT⟩, p.1 ≠ DT := by
      rw [← hidE]
      (repeat' (refine off_cons ?_ ?_)); (all_goals first | omega | exact allLt_mem (by assumption))
    have q2 := l.tell (e := .body k) (a := DT) (n := 0) (c := cT + 1) (.body k tS t) hT
    have q3 := q2.setOwn dOn (xO.put (.some _ _) h0 (by omega))
    dsimp only at q3
    refine hideG fun GG hGG => ?_
    suffices kk : ∀ P2 : RecP, P2 = ⟨dD, dO, dA, dK, dE, dR, lO, lT, oRC, oD, oO2, oA, oK, oE, oR, kD, stored kO k (.int (10 + k) tO), kA, kK, cO, cT + 1, tm, von, EL, WL, TT ++ [(DT, tupOf [Value.str (Str.ofString "body") tS, Value.int k t] 0)]⟩ → GG by exact kk _ rfl
    intro P2 hP2
    refine hGG ?_; clear hGG GG
    rw [← hP2] at q3
    refine call_W (own := []) (ws := RecP.objs RC P2) (Spec.toS (law_put_s (prog := prog) (w := w) (p := p) (loose := loose) (mean := mean) (mg := mg) (mb := mb) (by omega) (by omega))) (St := []) (fun v => rec_good) B' X' T' rfl (by omega) (by omega) FF (fun p hp => NN p ?_) (rec_own q3) (fun q hq => nomatch hq) (fun q hq => nomatch hq) ?_
    · rw [← hrest]
      rw [List.nil_append, hP2] at hp
      refine subOf ?_ hp; (try simp only [RecP.objs, RecP.rest, refs_snoc, List.map_append, List.map_cons, List.map_nil, LR.obj, List.cons_append, List.nil_append]); lcg_off
    intro v2 h2 tk2 ws2 F2 N3 O2 _
    simp only [List.nil_append] at N3
    dsimp only
    repeat' (k_extra "W1")
    repeat' (first | k_unfold | (dsimp only))
    obtain ⟨z1, z2⟩ := fin_W I (by rw [hidE]) keep gone F2 N3 O2
    refine hk _ _ _ _ ?_ z2
    rw [show bodiedR r k = _ by unfold bodiedR; rw [if_neg (by rw [← Int.fmod_eq_emod_of_nonneg _ (by decide)]; exact heven)]]
    exact z1
end
section
theorem wtClo1 : True := by
  w_top off
  trivial
variable {prog : Program} {w : World} {p : Program} {loose : List Str} {mean : ExcName → Option Value} {mg mb : Str → Option Value}
theorem kwClo13 : True := by
  k_with "eval Name" => (k_here; k_dflt (refine' nameX_FB (by k_asm) (by rfl) (by assumption) (by assumption) ?_ (by rfl) (by rfl) (by decide) (by decide); k_whole))
  k_with "subscriptTail" => (k_here; (with_reducible show wpAny _ _ (subscriptTail _ _ (Value.ref _) (Value.int _ _)) _ _ _); k_dflt (with_unfolding_all refine' item_litK (by exact base_list (by k_asm) (by assumption)) (by decide) (by decide) (by rfl) ?_ (by intros; rfl)))
  trivial
theorem called_s {q : LS} (ok : q.Ok) {A : Addr} {cA : Nat} {es : List Ev} {x : VarSt} {k f : Int} {t tf : Tok} (htold : es.length < 200000) : SpecS prog w p loose mean mg mb ((A, listOf #[Value.int k t] cA) :: q.st1) 6 q.fC [.int f tf, .ref A] (Star (Told q.T es) (Vars prog w q.V q.H x)) (fun _ => Star (Told q.T (es ++ [.fn k f])) (Vars prog w q.V q.H (x.fn es k f))) := by
  intro dp un gd cn cs a ccd cl outer A₀ base h₀ L m s Q E fp B X0 T hke hdp hu hst I hk
  refine hideG fun GG hGG => ?_
  obtain ⟨ws, hws, hHolds, O⟩ := own_of (Star.good told_good vars_good) I.C
  have F := I.F
  have N := I.news (hid := ws) (fun p hp => ⟨hws ▸ List.mem_map_of_mem hp, hHolds p hp⟩)
  obtain ⟨w1, w2, rfl, O1, O2, dis⟩ := own_star told_good vars_good hHolds O
  obtain ⟨c, TT, rfl, nd, ev⟩ := own_told O1 (fun p hp => hHolds p (List.mem_append_left _ hp))
  obtain ⟨vsK, tK, hvK, hqK⟩ := ok.codeC
  refine hGG ?_; clear hGG GG
  have hfo := hst (q.fC, q.called) (mI 1 rfl)
  have hkc := hst (q.kC, q.xC) (mI 2 rfl)
  refine wpAny_call ?_
  refine enter (K := hd.heap_1 w.params) (f := q.fC) (cl := [("variables", q.cVar), ("told_here", q.cTold), ("here", q.cHere)]) B F X0 T N rfl rfl hke hfo.1 rfl ⟨_, _, _, _, rfl, hkc.1, hvK, hqK⟩ (by k_room) (BindsTo.of_eq rfl) (locs rfl) ?_ (by decide) rfl rfl rfl
  intro g' L' h' keep gone fresh F' N' B' X' T' lt
  have S : ∀ p ∈ ((A, listOf #[Value.int k t] cA) :: q.st1), g'.get? p.1 = some p.2 := fun p hp => keep _ _ (hst p hp).1 (hws ▸ (hst p hp).2)
  clear N F B X0 T
  try dsimp only
  try k_fold
  have s1 := S (q.cVar, q.oVar) (mI 3 rfl)
  have s2 := S (q.cTold, q.oTold) (mI 4 rfl)
  have s3 := S (q.cHere, q.oHere) (mI 5 rfl)
  have s4 := S (A, listOf #[Value.int k t] cA) (by simp)
  have ok1 := ok.var
  have ok2 := ok.told
  have ok3 := ok.here
  dsimp only at s1 s2 s3 s4
  have hTlen : (refs TT).length ≤ sizeLine := by
    rw [show (refs TT).length = es.length by unfold refs; rw [List.length_map]; exact ev.length, sizeLine_eq]; omega
  have hTlen2 : (refs TT).length + 1 ≤ sizeLine := by
    rw [show (refs TT).length = es.length by unfold refs; rw [List.length_map]; exact ev.length, sizeLine_eq]; omega
  refine hideG fun GG hGG => ?_
  suffices kk : ∀ rest, TT ++ w2 = rest → GG by exact kk _ rfl
  intro rest hrest
  refine hGG ?_; clear hGG GG
  have N2 : News g' L' h' ((q.T, listOf (refs TT).toArray c) :: rest) := by rw [← hrest]; exact N'
  have disT : q.T ∉ w2.map (·.1) := dis (q.T, _) (.head _)
  have offT : ∀ p ∈ rest, p.1 ≠ q.T := by
    rw [← hrest]
    intro p hp e
    rcases List.mem_append.mp hp with hp | hp
    · exact (List.nodup_cons.mp nd).1 (e ▸ List.mem_map_of_mem hp)
    · exact disT (e ▸ List.mem_map_of_mem hp)
  clear N'
  repeat' (k_extra "W1")
  change wpAny _ (ktrTop (dp + 1) (un + 3) gd _ _ L' q.fC _ _ (envX cn cs L a ccd cl :: outer)) _ _ _ _
  (with_reducible rename News _ _ _ _ => NN)
  (with_reducible rename Fr _ _ _ _ => FF)
  (with_reducible rename _ ∧ AllLt _ _ => hlt0)
  refine hideG fun GG hGG => ?_
  suffices kk : ∀ DT tS, (@LT.lt Nat _ q.T DT ∧ AllLt DT rest) → News g' L' _ ((DT, tupOf [Value.str (Str.ofString "function") tS, Value.int k t, Value.int f tf] 0) :: (q.T, listOf (refs TT ++ [Value.ref DT]).toArray (c + 1)) :: rest) → GG by exact kk _ _ hlt0 NN
  intro DT tS hlt NN
  refine hGG ?_; clear hGG GG
  have offD : ∀ p ∈ rest, p.1 ≠ DT := allLt_mem hlt.2
  have nd2 : (q.T :: (TT ++ [(DT, tupOf [Value.str (Str.ofString "function") tS, Value.int k t, Value.int f tf] 0)]).map (·.1)).Nodup := by
    have e : (q.T :: (TT ++ [(DT, tupOf [Value.str (Str.ofString "function") tS, Value.int k t, Value.int f tf] 0)]).map (·.1)) = (q.T :: TT.map (·.1)) ++ [DT] := by simp
    rw [e]
    refine List.nodup_append.mpr ⟨nd, by simp, fun y hy z hz e => ?_⟩
    rw [List.mem_singleton.mp hz] at e
    rcases List.mem_cons.mp hy with h | h
    · exact Nat.ne_of_lt hlt.1 (h ▸ e)
    · obtain ⟨p, hp, h⟩ := List.mem_map.mp h
      exact offD p (by rw [← hrest]; exact List.mem_append_left _ hp) (h.trans e)
  have ev2 := ev.snoc (a := DT) (n := 0) (.fn k f tS t tf)
  have dis2 : ∀ p ∈ (q.T, listOf (refs (TT ++ [(DT, tupOf [Value.str (Str.ofString "function") tS, Value.int k t, Value.int f tf] 0)])).toArray (c + 1)) :: (TT ++ [(DT, tupOf [Value.str (Str.ofString "function") tS, Value.int k t, Value.int f tf] 0)]), p.1 ∉ w2.map (·.1) := fun p hp => by
    rcases List.mem_cons.mp hp with rfl | hp
    · exact disT
    · rcases List.mem_append.mp hp with hp | hp
      · exact dis _ (.tail _ hp)
      · rw [List.mem_singleton.mp hp]
        intro z
        obtain ⟨p', hp', z⟩ := List.mem_map.mp z
        exact offD p' (by rw [← hrest]; exact List.mem_append_right _ hp') z
  refine call_W (own := (q.T, listOf (refs (TT ++ [(DT, tupOf [Value.str (Str.ofString "function") tS, Value.int k t, Value.int f tf] 0)])).toArray (c + 1)) :: (TT ++ [(DT, tupOf [Value.str (Str.ofString "function") tS, Value.int k t, Value.int f tf] 0)])) (ws := w2) (Spec.toS (set_in_s (prog := prog) (w := w) (p := p) (loose := loose) (mean := mean) (mg := mg) (mb := mb) (by rw [fmod6]; omega) (by rw [fmod6]; omega))) (St := []) (fun v => vars_good) B' X' T' rfl (by omega) (by omega) FF (fun p hp => NN p ?_) O2 dis2 (fun q hq => nomatch hq) ?_
  · rw [← hrest]
    refine subOf ?_ hp; (try simp only [refs_snoc, List.cons_append, List.nil_append]); lcg_off
  intro v2 h2 tk2 ws2 F2 N3 O3 dis3
  dsimp only
  repeat' (k_extra "W1")
  repeat' (first | k_unfold | (dsimp only))
  have hx : ∀ D : Addr, x.put (f.fmod 6) (100 + ((refs TT ++ [Value.ref D]).length : Int)) = x.fn es k f := fun D => by
    simp only [VarSt.fn, fmod6]
    rw [show (refs TT ++ [Value.ref D]).length = es.length + 1 by rw [List.length_append]; unfold refs; rw [List.length_map, ev.length]; rfl]
  rw [hx] at O3
  obtain ⟨z1, z2⟩ := fin_W I hws keep gone F2 N3 (star_own (told_own nd2 ev2) O3 dis3)
  exact hk _ _ _ _ z1 z2
end
section
theorem wtClo2 : True := by
  w_top off
  trivial
def IsFn (o : Obj) : Prop := ∃ oc od fd sl, o = ⟨oc, od, .func fd, sl⟩
theorem fn_called (q : LS) : IsFn q.called := ⟨_, _, _, _, rfl⟩
theorem fn_hooked (q : LS) : IsFn q.hooked := ⟨_, _, _, _, rfl⟩
theorem fn_do (q : LS) : IsFn q.do := ⟨_, _, _, _, rfl⟩
theorem fnAt_b {h₀ h : Heap} {L f : Addr} {m : Str → Option Value} {o : Obj} (F : Fr h₀ L h m) (hv : h₀.get? f = some o) (i : IsFn o) : FnAt f h := by
  obtain ⟨oc, od, fd, sl, rfl⟩ := i
  exact ⟨oc, od, fd, sl, F.keep _ _ hv⟩
/-- told list and variables of the program's side -/
abbrev PT (prog : Program) (w : World) (q : LS) (r : RecSt) : Comp := Star (Told q.T r.told) (Vars prog w q.V q.H r.x)
theorem pt_good {prog : Program} {w : World} {q : LS} {r : RecSt} : Good (PT prog w q r) := Star.good told_good vars_good
abbrev HH (prog : Program) (w : World) (q : LS) (f g : Int → Option (List Int)) : Comp := Star (Hook prog w q.HK f) (Hook prog w q.R g)
theorem hh_good {prog : Program} {w : World} {q : LS} {f g : Int → Option (List Int)} : Good (HH prog w q f g) := Star.good hook_good hook_good
variable {prog : Program} {w : World} {p : Program} {loose : List Str} {mean : ExcName → Option Value} {mg mb : Str → Option Value}
theorem kwClo23 : True := by
  k_with "callWith ref" => (k_here; k_dflt (first | ((with_reducible show wpAny _ _ (callWith _ (Value.ref _) _ (backTo _ (starEach [] _)) []) _ _ _); refine' callWith_F0 (by exact fnAt_b (by k_asm) (by assumption) (by assumption)) ?_; k_whole; try dsimp only [List.nil_append, List.cons_append]) | ((with_reducible show wpAny _ _ (callWith _ (Value.ref _) _ (backTo _ (starEach (_ :: _) _)) []) _ _ _); refine' callWith_F (by exact fnAt_b (by k_asm) (by assumption) (by assumption)) ?_; k_whole) | fail))
  k_with "FnAt" => (k_dflt (exact fnAt_b (by k_asm) (by assumption) (by assumption)))
  trivial
theorem run_hook_s {q : LS} (ok : q.Ok) {A : Addr} {cA : Nat} {r : RecSt} {f g : Int → Option (List Int)} {k : Int} {t tA : Tok} (hszf : ∀ ns, f k = some ns → ns.length < 60) (hszg : ∀ ns, g k = some ns → ns.length < 60) (htold : r.told.length < 100000) :
    SpecS prog w p loose mean mg mb ((A, listOf #[Value.int k tA] cA) :: q.st1) 8 280 [.ref q.HK, .ref q.R, .int k t, .ref q.fC, .ref A] (Star (PT prog w q r) (HH prog w q f g)) (fun _ => Star (PT prog w q (hookedR r k (calledA (f k) (g k)))) (HH prog w q f g)) := by
  intro dp un gd cn cs a ccd cl outer A₀ base h₀ L m s Q E fp B X0 T hke hdp hu hst I hk
  refine hideG fun GG hGG => ?_
  obtain ⟨ws, hws, hHolds, O⟩ := own_of (Star.good pt_good hh_good) I.C
  have F := I.F
  have N := I.news (hid := ws) (fun p hp => ⟨hws ▸ List.mem_map_of_mem hp, hHolds p hp⟩)
  obtain ⟨wP, wH, rfl, OP, OH, dis⟩ := own_star pt_good hh_good hHolds O
  refine hGG ?_; clear hGG GG
  refine wpAny_call ?_
  refine enter (K := hd.heap_1 w.params) (f := 280) (cl := []) B F X0 T N rfl rfl hke ((X0.keeps F.keep) _ _ (by k_is)) rfl (codeRec_of (X0.keeps F.keep) (by k_is)) (by k_room) (BindsTo.of_eq rfl) (locs rfl) ?_ (by decide) rfl rfl rfl
  intro g' L' h' keep gone fresh F' N' B' X' T' lt
  have S : ∀ p ∈ ((A, listOf #[Value.int k tA] cA) :: q.st1), g'.get? p.1 = some p.2 := fun p hp => keep _ _ (hst p hp).1 (hws ▸ (hst p hp).2)
  have s1 : g'.get? q.fC = some q.called := S (q.fC, q.called) (mI 1 rfl)
  have s2 := fn_called q
  clear N F B X0 T
  refine hideG fun GG hGG => ?_
  suffices kk : ∀ m0 : Str → Option Value, Fr g' L' h' m0 → m0 (Str.ofString "hooks") = some (.ref q.HK) → m0 (Str.ofString "own") = some (.ref q.R) → m0 (Str.ofString "symbol") = some (.int k t) → m0 (Str.ofString "call") = some (.ref q.fC) → m0 (Str.ofString "arguments") = some (.ref A) → GG by exact kk _ F' rfl rfl rfl rfl rfl
  intro m0 F0 e1 e2 e3 e4 e5
  refine hGG ?_; clear hGG GG
  clear F'
  try dsimp only
  try k_fold
  refine wpAny_execs_cons ?_
  refine wpAny_For ?_
  repeat' (k_extra "W1")
  change wpAny _ (ktrTop (dp + 1) (un + 3) gd _ _ L' 280 _ [] (envX cn cs L a ccd cl :: outer)) _ _ _ _
  refine call_W (own := wP) (Spec.toS (functions_of_s (prog := prog) (w := w) (p := p) (loose := loose) (mean := mean) (mg := mg) (mb := mb) hszf hszg)) (St := []) (fun v => Star.good hh_good listV_good) B' X' T' rfl (by omega) (by omega) F0 N' OH dis (fun q hq => nomatch hq) ?_
  intro v h1 tk1 ws1 F1 N1 O1 dis1
  refine hideG fun GG hGG => ?_
  obtain ⟨wH1, wl, rfl, OH1, Ol, disl⟩ := own_star hh_good listV_good (fun p hp => (N1 p (List.mem_append_right _ hp)).1) O1
  obtain ⟨D, vs, c, rfl, rfl, iv⟩ := own_listV Ol (fun p hp => (N1 p (List.mem_append_right _ (List.mem_append_right _ hp))).1)
  refine hGG ?_; clear hGG GG
  have hns : (calledA (f k) (g k)).length ≤ 3600 := by
    have a2 : ((f k).getD []).length ≤ 60 := by
      cases e : f k with
      | none => decide
      | some z => exact Nat.le_of_lt (hszf z e)
    cases e : g k with
    | none => simp only [calledA]; omega
    | some z =>
      have := calledA_len a2 z
      have := hszg z e
      omega
  generalize calledA (f k) (g k) = ns at iv hk hns
  have disH : ∀ p ∈ (D, listOf vs.toArray c) :: wH1, p.1 ∉ wP.map (·.1) := fun p hp z => by
    obtain ⟨p', hp', z⟩ := List.mem_map.mp z
    refine dis1 p' hp' ?_
    rw [List.map_append]
    rcases List.mem_cons.mp hp with rfl | hp
    · exact List.mem_append_right _ (by simp [z])
    · exact List.mem_append_left _ (z ▸ List.mem_map_of_mem hp)
  clear O Ol O1 N' F0 OH dis
  dsimp only
  refine Iter_led (g := g') (L := L') (items := vs.toArray) rfl F1 (nw₀ := (D, listOf vs.toArray c) :: (wH1 ++ wP)) (fun p hp => N1 p (by
      refine subOf ?_ hp; lcg_off))
    (fun i m nw => ∃ u wP, m = (fun y => if y = Str.ofString "function" then u else m0 y) ∧ nw = (D, listOf vs.toArray c) :: (wH1 ++ wP) ∧ Own (PT prog w q (hookedR r k (ns.take i))) wP ∧ (∀ p ∈ (D, listOf vs.toArray c) :: wH1, p.1 ∉ wP.map (·.1))) ?_ ?_ ?_ ?_
  · rintro i m nw h ⟨u, wP, rfl, rfl, _⟩ F N
    exact ⟨_, (N _ (.head _)).1, rfl, _, rfl⟩
  · refine ⟨m0 (Str.ofString "function"), wP, ?_, rfl, OP, disH⟩
    funext y
    split
    · rename_i e; rw [e]
    · rfl
  · rintro i v it oi h tk m nw hx ⟨u, wP, rfl, rfl, OP, disP⟩ off F N
    obtain ⟨f, tf, rfl, hf⟩ := IntsAre.at iv i v (by simpa using hx)
    have hstep := hookedR_take (r := r) (w := k) hf
    have htl : (hookedR r k (ns.take i)).told.length ≤ 110000 := by
      rw [hookedR_told, List.length_take]
      omega
    generalize hookedR r k (ns.take i) = rI at OP hstep htl
    dsimp only
    repeat' (k_extra "W1")
    change wpAny _ (ktrTop (dp + 1) (un + 3) gd _ _ L' 280 _ [] (envX cn cs L a ccd cl :: outer)) _ _ _ _
    (with_reducible rename News _ _ _ _ => NN)
    (with_reducible rename Fr _ _ _ _ => FF)
    refine call_W (own := (it, oi) :: (D, listOf vs.toArray c) :: wH1) (ws := wP) (called_s (prog := prog) (w := w) (p := p) (loose := loose) (mean := mean) (mg := mg) (mb := mb) ok (f := f) (es := rI.told) (x := rI.x) (by omega)) (fun v => Star.good told_good vars_good) B' X' T' rfl (by omega) (by omega) FF NN OP (fun p hp => ?_) (fun p hp => .inl (S p hp)) ?_
    · rcases List.mem_cons.mp hp with rfl | hp
      · intro z
        obtain ⟨p', hp', z⟩ := List.mem_map.mp z
        exact off p' (.tail _ (List.mem_append_right _ hp')) z
      · exact disP p hp
    intro v2 h2 tk2 ws2 F2 N3 O2 off2
    dsimp only
    repeat' (k_extra "W1")
    refine LedEnd.mk (nw' := (D, listOf vs.toArray c) :: (wH1 ++ ws2)) F2 N3 (fun p hp => ?_) ⟨some (.int f tf), ws2, ?_, rfl, by rw [hstep]; exact O2, fun p hp => off2 p (.tail _ hp)⟩
    · simp only [List.mem_cons, List.mem_append] at hp
      rcases hp with rfl | hp | hp
      · exact off (D, _) (.head _)
      · exact off p (.tail _ (List.mem_append_left _ hp))
      · exact fun e => off2 (it, oi) (.head _) (List.mem_map.mpr ⟨p, hp, e⟩)
    · funext y
      split <;> rfl
  · rintro h tk m nw ⟨u, wP, rfl, rfl, OP, disP⟩ F N
    rw [show vs.toArray.size = ns.length by rw [List.size_toArray]; exact iv.length, List.take_length] at OP
    dsimp only
    repeat' (first | (k_unfold; (try dsimp only)) | walk1 | (dsimp only; walk1) | fail "no step")
    repeat' (first | k_unfold | (dsimp only))
    obtain ⟨z1, z2⟩ := fin_W I hws keep gone F (ws' := wP ++ wH1) (fun p hp => N p (by
      refine subOf ?_ hp; lcg_off)) (star_own OP OH1 (fun p hp z => by
        obtain ⟨p', hp', z⟩ := List.mem_map.mp z
        exact disP p' (.tail _ hp') (z ▸ List.mem_map_of_mem hp)))
    exact hk _ _ _ _ z1 z2
end
section
theorem wtLSwitch : True := by
  w_top off
  trivial
theorem kwLSwitch1 : True := by
  k_with_none
  k_with "W1" => ((fail_if_success (with_reducible show wpAny _ _ (PySem.call (Value.ref _) _ _) _ _ _)); (fail_if_success (with_reducible show wpAny _ _ (pyIter _) _ _ _)); (fail_if_success (with_reducible show wpAny _ _ (PySem.exec (Stmt.For _ _ _ _ _) _) _ _ _)); first | (k_unfold; (try dsimp only)) | walk1 | (dsimp only; walk1) | fail "no step")
  k_with "k_enter" => (first | (refine' code_def (by k_asm) (by k_asm) (by k_asm) (by k_asm) (by k_asm) rfl rfl (by first | exact rfl | assumption) (by k_is) (by k_is) (by k_room) (by first | exact BindsTo.of_eq rfl | exact binds_K (by k_in) rfl (by k_is) rfl rfl rfl) (by exact locs rfl) ?_ (by exact rfl) (by exact rfl) (by exact rfl) (by decide); k_whole; intro _ _ _ _ _ _ Bz9 _ _; (try dsimp only); (try k_lift Bz9); (try k_fold)) | (refine' code_defC (by k_asm) (by k_asm) (by k_asm) (by k_asm) (by k_asm) rfl rfl (by first | exact rfl | assumption) (by k_is) (by k_is) (by k_room) (by first | exact BindsTo.of_eq rfl | exact binds_K (by k_in) rfl (by k_is) rfl rfl rfl) (by exact rfl) (by decide +kernel) ?_ (by exact rfl) (by exact rfl) (by exact rfl); k_whole; intro _ _ _ _ _ _ _ Nz9 Yz9 Bz9 _ _ lz9; (try k_lt lz9); k_cells Yz9; (try simp only [List.cons_append, List.nil_append] at Nz9); (try dsimp only); (try k_lift Bz9); (try k_fold)) | fail)
  k_with "execs cons" => (k_fold; (first | show wpAny _ AB (PySem.execs _ eB) _ _ _ | (show (let eB := _; let AB := _; wpAny _ AB (PySem.execs _ eB) _ _ _); intro eB AB)); refine wpAny_execs_cons ?_)
  k_with "omega" => first | exact Nat.le_of_ble_eq_true rfl | with_reducible assumption | exact Mine.o1 (by with_reducible assumption) (by exact rfl) | exact Mine.o3 (by with_reducible assumption) (by exact rfl) | exact Mine.o2 (by with_reducible assumption) (by exact rfl) | exact Mine.o4 (by with_reducible assumption) (by exact rfl) | exact Mine.o5 (by with_reducible assumption) (by exact rfl) | exact Mine.o6 (by with_reducible assumption) (by exact rfl) | exact Mine.o7 (by with_reducible assumption) (by exact rfl) | exact Mine.o8 (by with_reducible assumption) (by exact rfl) | exact Mine.o9 (by with_reducible assumption) (by exact rfl) | exact Mine.o10 (by with_reducible assumption) (by exact rfl) | exact Mine.o11 (by with_reducible assumption) (by exact rfl) | exact Mine.o12 (by with_reducible assumption) (by exact rfl) | exact Mine.o13 (by with_reducible assumption) (by exact rfl) | exact Nat.ne_of_lt (by with_reducible assumption) | exact Nat.ne_of_gt (by with_reducible assumption) | exact Nat.le_of_lt (by with_reducible assumption) | fail
  k_with "k_room" => ((try simp only [depth_mark, depth_under_make, depth_under_kw, depth_in1, depth_deeper]); first | assumption | (show _ < 1000; (try dsimp only); omega))
  k_with "k_ne" => ((refine neN ?_); (try dsimp only); first | assumption | exact Ne.symm (by assumption))
  k_with "compareOp In int ref" => (k_here; k_dflt (first | (refine' in_C (by k_asm) (by k_mem) (by k_asm) (by k_asm) (by k_asm) ?_) | (refine' in_I (by k_asm) (by k_mem) (by k_asm) (by k_asm) (by k_asm) ?_) | (refine' in_B (by k_asm) (by k_mem) (by k_asm) (by k_asm) (by k_asm) ?_)))
  k_with "compareOp NotIn int ref" => (k_here; k_dflt ( (refine' notin_C (by k_asm) (by k_mem) (by k_asm) (by k_asm) (by k_asm) ?_)))
  k_with "call builtin:dict.get" => (k_here; k_dflt (first | (refine' get_I (by k_asm) (by k_mem) (by k_asm) (by k_asm) (by k_asm) ?_; refine ⟨fun _ _ _ => ?_, fun _ => ?_⟩) | (refine' get_B (by k_asm) (by k_mem) (by k_asm) (by k_asm) (by k_asm) ?_; (try simp only [Bool.or_false]))))
  k_with "getMethod ref" => (k_here; (with_reducible show wpAny _ _ (getMethod (Value.ref _) (Str.ofString "get") _) _ _ _); k_dflt (refine' kdg_method (knd := PySem.intKind _ _) (by k_asm) (by k_mem) (by k_asm) ?_))
  k_with "subscriptTail" => (k_here; (with_reducible show wpAny _ _ (subscriptTail _ _ (Value.ref _) (Value.int _ _)) _ _ _); k_dflt (refine' item_C (by k_asm) (by k_mem) (by k_asm) (by k_asm) (by k_asm) ?_ (by with_unfolding_all rfl); intro _ _ _ _))
  k_with "setItem ref int" => (k_here; k_dflt (refine' kda_set (knd := PySem.intKind _ _) (by k_asm) (by k_asm) (by k_updF) (by k_asm) (intKind_is _ _ _ _) (by exact KOK.line (by k_asm) (by k_asm)) ?_; intro hz9 oz9 Fz9 Nz9 hdz9; (try dsimp only at Nz9); (try k_sweep); revert hz9 oz9 Fz9 Nz9 hdz9; intro _ _ _ _ _))
  trivial
variable {prog : Program} {w : World} {p : Program} {loose : List Str} {mean : ExcName → Option Value} {mg mb : Str → Option Value}
theorem kwLSwitch2 : True := by
  k_with "eval ListComp" => (k_here; k_dflt (refine LCt.ListComp_T (F₀ := by k_asm) (by with_unfolding_all rfl) (by decide) (by rfl) (by decide) (by rfl) ?_))
  k_with "CompSrcT" => (k_here; k_dflt (first | (refine' LCt.CompSrcT.ledger rfl (by k_asm) (by k_asm) (by k_mem) (by k_asm) ?_) | (refine' LCt.CompSrcT.base rfl (by k_asm) (by k_asm) (by k_asm) (by k_asm) ?_)); intro _; k_dflt (refine' flt_rest (by k_asm) (by k_asm) (by first | exact .inl (by k_asm) | exact .inr ⟨_, by k_mem, rfl, _, rfl⟩) rfl rfl (by decide) (fun _ _ _ _ _ _ _ _ _ _ _ _ _ _ _ _ _ _ _ => ?_) (fun _ _ => ?_)); (all_goals (try (simp only [LCg.Off3, and_true] at off'))))
  k_with "FltT" => (k_here; k_dflt (refine' flt_t (by k_asm) (by k_asm) (by intro pz9 hpz9; first | exact hpz9 | exact .tail _ hpz9 | exact .tail _ (.tail _ hpz9) | exact .tail _ (.tail _ (.tail _ hpz9))) ?_); (try rfl))
  k_with "call type:list" => (k_here; k_dflt (refine' list_D rfl (by k_asm) (by k_asm) (by k_mem) (by k_asm) (by k_asm) (by k_asm) ?_); intro Bz9 cz9 hz9 tkz9 vsz9 Fz9 Nz9 l1z9 hiz9 h64z9 hszz9; (try k_lt l1z9); (try k_sweep); revert Bz9 cz9 hz9 tkz9 vsz9 Fz9 Nz9 l1z9 hiz9 h64z9 hszz9; intro _ _ _ _ _ _ _ _ _ _ _)
  k_with "call builtin:sorted" => (k_here; k_dflt (refine' sorted_L (by k_asm) (by k_asm) (by k_mem) (by k_asm) (by k_asm) ?_); intro Bz9 vsz9 nsz9 cz9 hz9 Fz9 Nz9 l1z9 hiz9 hpmz9 h64z9 hszz9; (try k_lt l1z9); (try k_sweep); revert Bz9 vsz9 nsz9 cz9 hz9 Fz9 Nz9 l1z9 hiz9 hpmz9 h64z9 hszz9; intro _ _ _ _ _ _ _ _ _ _ _ _)
  k_with "call builtin:dict.pop" => (k_here; k_dflt (refine' pop_C (by k_asm) (by k_asm) (by k_updF) (by k_asm) (by k_asm) (by k_asm) ?_); intro hz9 oz9 vz9 Fz9 Nz9 hdz9; (try dsimp only at Nz9); (try k_sweep); revert hz9 oz9 vz9 Fz9 Nz9 hdz9; intro _ _ _ _ _ _)
  k_with "getMethod ref" => (k_here; (with_reducible show wpAny _ _ (getMethod (Value.ref _) (Str.ofString "pop") _) _ _ _); k_dflt (refine' popm_D (by k_asm) (by k_mem) (by k_asm) ?_))
  k_with "eval Name" => (k_here; k_dflt (refine' nameX_L (by k_asm) (by first | exact rfl | assumption) ?_ (by rfl) (by rfl); k_whole))
  k_with "k_ne" => ((refine neN ?_); (try dsimp only); first | assumption | exact Ne.symm (by assumption) | omega)
  k_with "k_units" => (first | exact Nat.le_of_ble_eq_true rfl | (simp only [ktrTop, units_deeper, units_in1, cLine_is]; omega) | ((try dsimp only [ktrTop, Around.deeper, Around.in1, Around.under]); rw [cLine_is]; omega))
  k_with "compareOp In int ref" => (k_here; k_dflt (first | (refine' in_list_ints (by first | exact led_list (by k_asm) (by k_mem) | exact base_list (by k_asm) (by k_asm)) (by first | k_asm | exact .cons _ _ .nil | exact .nil) ?_; k_whole) | (refine' in_E (by k_asm) (by k_asm) (by k_asm) (by k_asm) ?_)))
  k_with "compareOp NotEq ref ref" => (k_here; k_dflt (refine' ne_E (by k_asm) (by k_mem) (by k_mem) (by k_asm) (by k_asm) (by k_asm) (by k_asm) (by k_units) ?_))
  k_with "binaryOp Add ref ref" => (k_here; k_dflt (refine' add_L (by k_asm) (by k_asm) (by first | exact led_list (by k_asm) (by k_mem) | exact base_list (by k_asm) (by k_asm)) (by first | exact led_list (by k_asm) (by k_mem) | exact base_list (by k_asm) (by k_asm)) (by first | k_asm | exact .cons _ _ .nil | exact .nil) (by first | k_asm | exact .cons _ _ .nil | exact .nil) (by first | k_asm | (simp only [List.length_cons, List.length_nil, sizeLine_eq]; omega)) ?_); intro hz9 Dz9 Fz9 Nz9 l1z9 hiz9; (try k_lt l1z9); (try k_sweep); revert hz9 Dz9 Fz9 Nz9 l1z9 hiz9; intro _ _ _ _ _ _)
  k_with "call builtin:dict.get" => (k_here; k_dflt (first | (refine' get_V (by k_asm) (by k_mem) (by k_asm) (by k_asm) (by first | k_asm | exact vaSame _ _ _) ?_) | (refine' get_N (by k_asm) (by k_mem) (by k_asm) (by k_asm) (by k_asm) ?_)))
  k_with "call type:list" => (k_here; k_dflt (refine' copy_L (by k_asm) (by k_asm) (by k_mem) (by k_asm) ?_); intro Bz9 cz9 hz9 tkz9 Fz9 Nz9 l1z9; (try k_lt l1z9); (try k_sweep); revert Bz9 cz9 hz9 tkz9 Fz9 Nz9 l1z9; intro _ _ _ _ _ _ _)
  k_with "call builtin:list.extend" => (k_here; k_dflt (refine' ext_L (by k_asm) (by k_asm) (by k_updF) (by k_mem) (by first | k_asm | exact .cons _ _ .nil | exact .nil) (by first | k_asm | exact .cons _ _ .nil | exact .nil) (by first | k_asm | (simp only [List.length_cons, List.length_nil, sizeLine_eq]; omega)) ?_); intro hz9 nz9 Fz9 Nz9 hiz9; (try dsimp only at Nz9); (try k_sweep); revert hz9 nz9 Fz9 Nz9 hiz9; intro _ _ _ _ _)
  k_with "k_all" => with_reducible assumption
  k_with "subscriptTail" => (k_here; (with_reducible show wpAny _ _ (subscriptTail _ _ (Value.ref _) (Value.int _ _)) _ _ _); k_dflt (refine' item_V (by k_asm) (by k_mem) (by k_asm) (by k_asm) ?_ (by with_unfolding_all rfl)))
  k_with "compareOp Eq ref ref" => (k_here; k_dflt (refine' ke_eq_ints (by first | exact led_list (by k_asm) (by k_mem) | exact base_list (by k_asm) (by k_asm)) (by first | exact led_list (by k_asm) (by k_mem) | exact base_list (by k_asm) (by k_asm)) (by first | k_asm | exact .cons _ _ .nil | exact .nil) (by first | k_asm | exact .cons _ _ .nil | exact .nil) (by k_units) ?_))
  k_with "k_mem" => (with_reducible refine memOf ?_; with_reducible assumption)
  k_with "subscriptTail" => (k_here; (with_reducible show wpAny _ _ (subscriptTail _ _ (Value.ref _) (Value.str _ _)) _ _ _); k_dflt (refine' item_S (by k_asm) (by k_mem) (by k_asm) (by rfl) ?_ (by with_unfolding_all rfl)))
  k_with "call builtin:list.append" => (k_here; (with_reducible show wpAny _ _ (call (Value.builtin _) [Value.ref _, _]) _ _ _); k_dflt (refine' app_T (by k_asm) (by k_asm) (by k_updF) (by k_asm) ?_); intro hz9 Fz9 Nz9; (try dsimp only at Nz9); (try k_sweep); revert hz9 Fz9 Nz9; intro _ _ _)
  k_with "call builtin:len" => (k_here; (with_reducible show wpAny _ _ (call (Value.builtin _) [Value.ref _]) _ _ _); k_dflt (refine' len_T (by k_asm) (by k_mem) (by first | k_asm | (simp only [List.length_append, List.length_cons, List.length_nil]; k_asm)) ?_))
  k_with "setItem ref str" => (k_here; k_dflt (refine' kda_set (knd := PySem.strKind _ _) (by k_asm) (by k_asm) (by k_updF) (by k_asm) (strKind_is _ _ _ _) (by exact Nat.le_of_ble_eq_true rfl) ?_; intro hz9 oz9 Fz9 Nz9 hdz9; (try dsimp only at Nz9); (try k_sweep); revert hz9 oz9 Fz9 Nz9 hdz9; intro _ _ _ _ _))
  trivial
theorem law_switched_s {RC : Addr} {r : RecSt} {k : Int} {t : Tok} (h0 : 0 ≤ k) (h9 : k < 4) (htold : r.told.length < 90000) (hrow : ∀ w ns, r.rows w = some ns → ns.length < 60) (hev : ∀ w ns, r.every w = some ns → ns.length < 60) (hon : r.on.length < 60) : Spec prog w p loose mean mg mb 10 461 [.ref RC, .int k t] (Rec prog w RC r) (fun _ => Rec prog w RC (switchedR r k)) := by
  intro dp un gd cn cs a ccd cl outer A₀ base h₀ L m s Q E fp B X0 T hke hdp hu I hk
  refine hideG fun GG hGG => ?_
  obtain ⟨⟨dD, dO, dA, dK, dE, dR, lO, lT, oRC, oD, oO, oA, oK, oE, oR, kD, kO, kA, kK, cO, cT, tm, von, EL, WL, TT⟩, rfl, l, hh⟩ := I.C
  obtain ⟨nd, dRC, lRC, lD, lO', lA, lK, lE, lR, iD, iO, iA, iK, iE, iR, xD, xO, xA, xK, kE, kR, fE, fR, vE, vR, ivon, tt⟩ := id l
  dsimp only at nd dRC lRC lD lO' lA lK lE lR iD iO iA iK iE iR xD xO xA xK kE kR fE fR vE vR ivon tt
  refine nd9e nd fun _ _ _ _ _ _ _ _ _ _ _ _ _ _ _ _ _ _ _ _ _ _ _ _ _ _ _ _ _ _ _ _ _ _ _ _ rRC rD rO rA rK rE rR rlO rlT => ?_
  have kD9 := xD.1
  have kO9 := xO.1
  have kA9 := xA.1
  have kK9 := xK.1
  have F := I.F
  have hsP : ∀ p ∈ RecP.objs RC ⟨dD, dO, dA, dK, dE, dR, lO, lT, oRC, oD, oO, oA, oK, oE, oR, kD, kO, kA, kK, cO, cT, tm, von, EL, WL, TT⟩, p.1 ∈ (RecP.objs RC ⟨dD, dO, dA, dK, dE, dR, lO, lT, oRC, oD, oO, oA, oK, oE, oR, kD, kO, kA, kK, cO, cT, tm, von, EL, WL, TT⟩).map (·.1) := fun p hp => List.mem_map_of_mem hp
  suffices kk : ∀ rest, EL.map LR.obj ++ (WL.map LR.obj ++ TT) = rest → GG by exact kk _ rfl
  intro rest hrest
  refine hGG ?_; clear hGG GG
  have N : News h₀ L s.heap ((RC, oRC) :: (dD, oD) :: (dO, oO) :: (dA, oA) :: (dK, oK) :: (dE, oE) :: (dR, oR) :: (lO, listOf von.toArray cO) :: (lT, listOf (refs TT).toArray cT) :: rest) := by
    rw [← hrest]; exact I.news fun p hp => ⟨hsP p hp, hh p hp⟩
  have hidE : ((RC, oRC) :: (dD, oD) :: (dO, oO) :: (dA, oA) :: (dK, oK) :: (dE, oE) :: (dR, oR) :: (lO, listOf von.toArray cO) :: (lT, listOf (refs TT).toArray cT) :: rest : List (Addr × Obj)) = RecP.objs RC ⟨dD, dO, dA, dK, dE, dR, lO, lT, oRC, oD, oO, oA, oK, oE, oR, kD, kO, kA, kK, cO, cT, tm, von, EL, WL, TT⟩ := by
    rw [← hrest]; rfl
  have hidS : ∀ p ∈ ((RC, oRC) :: (dD, oD) :: (dO, oO) :: (dA, oA) :: (dK, oK) :: (dE, oE) :: (dR, oR) :: (lO, listOf von.toArray cO) :: (lT, listOf (refs TT).toArray cT) :: rest : List (Addr × Obj)), p.1 ∈ (RecP.objs RC ⟨dD, dO, dA, dK, dE, dR, lO, lT, oRC, oD, oO, oA, oK, oE, oR, kD, kO, kA, kK, cO, cT, tm, von, EL, WL, TT⟩).map (·.1) := by
    rw [hidE]; exact hsP
  simp only [RecP.rest] at rRC rD rO rA rK rE rR rlO rlT
  rw [hrest] at rRC rD rO rA rK rE rR rlO rlT
  have hTlen : (refs TT).length ≤ sizeLine := by
    rw [show (refs TT).length = r.told.length by unfold refs; rw [List.length_map]; exact tt.length, sizeLine_eq]; omega
  refine wpAny_call ?_
  refine enterC (K := hd.heap_1 w.params) (f := 461) B F X0 T N rfl rfl hke ((X0.keeps F.keep) _ _ (by k_is)) rfl (codeRec_of (X0.keeps F.keep) (by k_is)) (by k_room) rfl rfl (by decide +kernel) ?_ rfl rfl rfl
  intro g' L' h' tk' cells' keep gone fresh F' N' Y' B' X' T' lt
  clear N F B X0 T
  k_cells Y'
  simp only [List.cons_append, List.nil_append] at N'
  try dsimp only
  try k_fold
  have b0 : @LT.lt Nat _ RC L' := lt (RC, _) (.head _)
  have b1 : @LT.lt Nat _ dD L' := lt (dD, _) (.tail _ (.head _))
  have b2 : @LT.lt Nat _ dO L' := lt (dO, _) (.tail _ (.tail _ (.head _)))
  have b3 : @LT.lt Nat _ dA L' := lt (dA, _) (.tail _ (.tail _ (.tail _ (.head _))))
  have b4 : @LT.lt Nat _ dK L' := lt (dK, _) (.tail _ (.tail _ (.tail _ (.tail _ (.head _)))))
  have b5 : @LT.lt Nat _ dE L' := lt (dE, _) (.tail _ (.tail _ (.tail _ (.tail _ (.tail _ (.head _))))))
  have b6 : @LT.lt Nat _ dR L' := lt (dR, _) (.tail _ (.tail _ (.tail _ (.tail _ (.tail _ (.tail _ (.head _)))))))
  have b7 : @LT.lt Nat _ lO L' := lt (lO, _) (.tail _ (.tail _ (.tail _ (.tail _ (.tail _ (.tail _ (.tail _ (.head _))))))))
  have b8 : @LT.lt Nat _ lT L' := lt (lT, _) (.tail _ (.tail _ (.tail _ (.tail _ (.tail _ (.tail _ (.tail _ (.tail _ (.head _)))))))))
  repeat' ((fail_if_success (with_reducible show wpAny _ _ (eval (PySem.Expr.ListComp _ _ _ _) _) _ _ _)); (fail_if_success (with_reducible show wpAny _ _ (PySem.call (Value.ref _) _ _) _ _ _)); (fail_if_success (with_reducible show wpAny _ _ (pyIter _) _ _ _)); (fail_if_success (with_reducible show wpAny _ _ (PySem.exec (Stmt.For _ _ _ _ _) _) _ _ _)); first | (k_unfold; (try dsimp only)) | walk1 | (dsimp only; walk1) | fail "no step")
  change wpAny _ (ktrTop (dp + 1) (un + 3) gd _ _ L' 461 _ _ (envX cn cs L a ccd cl :: outer)) _ _ _ _
  (with_reducible rename News _ _ _ _ => NN)
  (with_reducible rename Fr _ _ _ _ => FF)
  (with_reducible rename IntsAre _ (rangeKs _ _) => ivL)
  rename_i DL vsL cL _ _ hltL _ DT _ hltT _
  refine hideG fun GG hGG => ?_
  suffices kk : ∀ tS oc, oc.data = Data.cell (some (.ref RC)) → News g' L' _ ((DT, tupOf [Value.str (Str.ofString "change") tS, Value.int k t] 0) :: (DL, listOf vsL.toArray cL) :: (L' + 1, oc) :: (RC, oRC) :: (dD, oD) :: (dO, oO) :: (dA, oA) :: (dK, oK) :: (dE, oE) :: (dR, oR) :: (lO, listOf von.toArray cO) :: (lT, listOf (refs TT ++ [Value.ref DT]).toArray (cT + 1)) :: rest) → GG by exact kk _ _ (by assumption) NN
  intro tS oc dcell NN
  suffices kk : ∀ m0, Fr g' L' _ m0 → m0 (Str.ofString "mode") = some (.int k t) → m0 (Str.ofString "line") = some (.ref DL) → GG by exact kk _ FF rfl rfl
  intro m0 F0 em eL
  refine hGG ?_; clear hGG GG
  clear FF
  have hp1 : ∀ p ∈ RecP.objs RC ⟨dD, dO, dA, dK, dE, dR, lO, lT, oRC, oD, oO, oA, oK, oE, oR, kD, kO, kA, kK, cO, cT, tm, von, EL, WL, TT⟩, @LT.lt Nat _ p.1 L' := by
    rw [← hidE]; exact lt
  refine hideG fun GG hGG => ?_
  obtain ⟨hTL, hTC, k1, k2, k3, k4, k5, k6, k7, k8, k9, kAl⟩ := hltT
  refine hGG ?_; clear hGG GG
  have hT : ∀ p ∈ RecP.objs RC ⟨dD, dO, dA, dK, dE, dR, lO, lT, oRC, oD, oO, oA, oK, oE, oR, kD, kO, kA, kK, cO, cT, tm, von, EL, WL, TT⟩, p.1 ≠ DT := by
    rw [← hidE]
    (repeat' (refine off_cons ?_ ?_)); (all_goals first | omega | exact allLt_mem (by assumption))
  refine hideG fun GG hGG => ?_
  obtain ⟨hLC, n1, n2, n3, n4, n5, n6, n7, n8, n9, nAl⟩ := hltL
  refine hGG ?_; clear hGG GG
  have hL : ∀ p ∈ RecP.objs RC ⟨dD, dO, dA, dK, dE, dR, lO, lT, oRC, oD, oO, oA, oK, oE, oR, kD, kO, kA, kK, cO, cT, tm, von, EL, WL, TT⟩, p.1 ≠ DL := by
    rw [← hidE]
    (repeat' (refine off_cons ?_ ?_)); (all_goals first | omega | exact allLt_mem (by assumption))
  have q2 := l.tell (e := .change k) (a := DT) (n := 0) (c := cT + 1) (.change k tS t) hT
  dsimp only at q2
  refine hideG fun GG hGG => ?_
  suffices kk : ∀ P2 : RecP, P2 = ⟨dD, dO, dA, dK, dE, dR, lO, lT, oRC, oD, oO, oA, oK, oE, oR, kD, kO, kA, kK, cO, cT + 1, tm, von, EL, WL, TT ++ [(DT, tupOf [Value.str (Str.ofString "change") tS, Value.int k t] 0)]⟩ → GG by exact kk _ rfl
  intro P2 hP2
  refine hGG ?_; clear hGG GG
  rw [← hP2] at q2
  have off2 : ∀ q ∈ [(DL, listOf vsL.toArray cL), (L' + 1, oc)], q.1 ∉ (RecP.objs RC P2).map (·.1) := by
    rw [hP2]
    exact allC (nin_map (tell_fst (P := ⟨dD, dO, dA, dK, dE, dR, lO, lT, oRC, oD, oO, oA, oK, oE, oR, kD, kO, kA, kK, cO, cT, tm, von, EL, WL, TT⟩) hL (Ne.symm (Nat.ne_of_lt hTL)))) (allC (nin_map (tell_fst (P := ⟨dD, dO, dA, dK, dE, dR, lO, lT, oRC, oD, oO, oA, oK, oE, oR, kD, kO, kA, kK, cO, cT, tm, von, EL, WL, TT⟩) (fun p hp => Nat.ne_of_lt (Nat.lt_succ_of_lt (hp1 p hp))) (Ne.symm (Nat.ne_of_lt hTC)))) allN)
  refine call_W (own := [(DL, listOf vsL.toArray cL), (L' + 1, oc)]) (ws := RecP.objs RC P2) (Spec.toS (law_hooked_s (prog := prog) (w := w) (p := p) (loose := loose) (mean := mean) (mg := mg) (mb := mb) (r := { r with told := r.told ++ [Ev.change k] }) (hrow 7) (hev 7) (by rw [List.length_append]; simp; omega))) (St := []) (fun v => rec_good) B' X' T' rfl (by omega) (by omega) F0 (fun p hp => NN p ?_) (rec_own q2) off2 (fun q hq => nomatch hq) ?_
  · rw [← hrest]
    rw [hP2] at hp
    refine subOf ?_ hp; simp only [RecP.objs, RecP.rest, refs_snoc, List.cons_append, List.nil_append]; repeat first | (refine snoc3 ?_ (List.Sublist.subset ?_); (focus ((repeat first | exact List.Mem.head _ | apply List.Mem.tail); done)); (repeat first | exact List.Sublist.refl _ | apply List.Sublist.cons); done) | (refine Mine.subC ?_ ?_; (focus ((repeat first | exact List.Mem.head _ | apply List.Mem.tail); done)))
  intro v2 h2 tk2 ws2 F2 N2 O2 off3
  obtain ⟨P3, rfl, l3⟩ := own_rec O2 (fun p hp => (N2 p (List.mem_append_right _ hp)).1)
  refine hideG fun GG hGG => ?_
  suffices kk : ∀ r2, r2 = hookR { r with told := r.told ++ [Ev.change k] } 7 → GG by exact kk _ rfl
  intro r2 hr2
  refine hGG ?_; clear hGG GG
  change RecL prog w RC P3 (hookR { r with told := r.told ++ [Ev.change k] } 7) at l3
  rw [← hr2] at l3
  clear NN
  refine hideG fun GG hGG => ?_
  obtain ⟨dD, dO, dA, dK, dE, dR, lO, lT, oRC, oD, oO, oA, oK, oE, oR, kD, kO, kA, kK, cO, cT, tm, von, EL, WL, TT⟩ := P3
  obtain ⟨nd, dRC, lRC, lD, lO', lA, lK, lE, lR, iD, iO, iA, iK, iE, iR, xD, xO, xA, xK, kE, kR, fE, fR, vE, vR, ivon, tt⟩ := id l3
  dsimp only at dRC lRC lD lO' lA lK lE lR iD iO iA iK iE iR xD xO xA xK kE kR fE fR vE vR ivon tt
  have kD9 := xD.1
  have kO9 := xO.1
  have kA9 := xA.1
  have kK9 := xK.1
  suffices kk : ∀ rest, EL.map LR.obj ++ (WL.map LR.obj ++ TT) = rest → GG by exact kk _ rfl
  intro rest hrest
  refine hGG ?_; clear hGG GG
  have nd' : (RC :: dD :: dO :: dA :: dK :: dE :: dR :: lO :: lT :: rest.map (·.1)).Nodup := by
    rw [← hrest]; exact nd
  refine hideG fun GG hGG => ?_
  refine nd9e nd' fun _ _ _ _ _ _ _ _ _ _ _ _ _ _ _ _ _ _ _ _ _ _ _ _ _ _ _ _ _ _ _ _ _ _ _ _ rRC rD rO rA rK rE rR rlO rlT => ?_
  refine hGG ?_; clear hGG GG
  have NN : News g' L' h2 ((DL, listOf vsL.toArray cL) :: (L' + 1, oc) :: (RC, oRC) :: (dD, oD) :: (dO, oO) :: (dA, oA) :: (dK, oK) :: (dE, oE) :: (dR, oR) :: (lO, listOf von.toArray cO) :: (lT, listOf (refs TT).toArray cT) :: rest) := by
    rw [← hrest]; exact N2
  have oL1 : RC ≠ DL := fun e => off3 (DL, _) (.head _) (List.mem_map.mpr ⟨(RC, oRC), .head _, e⟩)
  have oC1 : RC ≠ L' + 1 := fun e => off3 (L' + 1, _) (.tail _ (.head _)) (List.mem_map.mpr ⟨(RC, oRC), .head _, e⟩)
  have oL2 : lT ≠ DL := fun e => off3 (DL, _) (.head _) (List.mem_map.mpr ⟨(lT, _), (.tail _ (.tail _ (.tail _ (.tail _ (.tail _ (.tail _ (.tail _ (.tail _ (.head _))))))))), e⟩)
  have oC2 : lT ≠ L' + 1 := fun e => off3 (L' + 1, _) (.tail _ (.head _)) (List.mem_map.mpr ⟨(lT, _), (.tail _ (.tail _ (.tail _ (.tail _ (.tail _ (.tail _ (.tail _ (.tail _ (.head _))))))))), e⟩)
  dsimp only
  repeat' ((fail_if_success (with_reducible show wpAny _ _ (eval (PySem.Expr.ListComp _ _ _ _) _) _ _ _)); (fail_if_success (with_reducible show wpAny _ _ (PySem.call (Value.ref _) _ _) _ _ _)); (fail_if_success (with_reducible show wpAny _ _ (pyIter _) _ _ _)); (fail_if_success (with_reducible show wpAny _ _ (PySem.exec (Stmt.For _ _ _ _ _) _) _ _ _)); first | (k_unfold; (try dsimp only)) | walk1 | (dsimp only; walk1) | fail "no step")
  refine ListComp_D (F₀ := by k_asm) (by with_unfolding_all rfl) (by decide) (by rfl) (by decide) (by rfl) ?_ (fun _ => rfl)
  repeat' ((fail_if_success (with_reducible show wpAny _ _ (eval (PySem.Expr.ListComp _ _ _ _) _) _ _ _)); (fail_if_success (with_reducible show wpAny _ _ (PySem.call (Value.ref _) _ _) _ _ _)); (fail_if_success (with_reducible show wpAny _ _ (pyIter _) _ _ _)); (fail_if_success (with_reducible show wpAny _ _ (PySem.exec (Stmt.For _ _ _ _ _) _) _ _ _)); first | (k_unfold; (try dsimp only)) | walk1 | (dsimp only; walk1) | fail "no step")
  have ndO := keysNodup_of_isDictOf iO
  refine ⟨dO, oO, kO, _, rfl, rfl, lO', by k_asm, by k_asm, by k_mem, iO, kO9.line iO, ?_⟩
  rintro s2 ⟨hz, rfl⟩
  refine pair_rest (p := r2.x.kept) (fun tt => List.mem_append_left _ (by k_mem)) ?_ ?_ ?_
  · intro k1 v1 t1 I1 oI1 C1 oC1 D1 mm1 ys1 hh1 tk1 tt1 E1 hk1 hC1 hx1 F1 N1 ne1
    simp only [List.cons_append] at N1 ⊢
    repeat' ((fail_if_success (with_reducible show wpAny _ _ (eval (PySem.Expr.ListComp _ _ _ _) _) _ _ _)); (fail_if_success (with_reducible show wpAny _ _ (PySem.call (Value.ref _) _ _) _ _ _)); (fail_if_success (with_reducible show wpAny _ _ (pyIter _) _ _ _)); (fail_if_success (with_reducible show wpAny _ _ (PySem.exec (Stmt.For _ _ _ _ _) _) _ _ _)); first | (k_unfold; (try dsimp only)) | walk1 | (dsimp only; walk1) | fail "no step")
  · intro k1 v1 t1 I1 oI1 C1 oC1 D1 mm1 ys1 hh1 tk1 tt1 E1 hk1 hC1 hx1 F1 N1 ne1
    have hv1 := valueAt_mem ndO hk1
    simp only [List.cons_append] at N1 ⊢
    repeat' ((fail_if_success (with_reducible show wpAny _ _ (eval (PySem.Expr.ListComp _ _ _ _) _) _ _ _)); (fail_if_success (with_reducible show wpAny _ _ (PySem.call (Value.ref _) _ _) _ _ _)); (fail_if_success (with_reducible show wpAny _ _ (pyIter _) _ _ _)); (fail_if_success (with_reducible show wpAny _ _ (PySem.exec (Stmt.For _ _ _ _ _) _) _ _ _)); first | (k_unfold; (try dsimp only)) | walk1 | (dsimp only; walk1) | fail "no step")
    rename_i TT1 hT1 FF1 NN1 lt1
    exact ⟨_, t1, 0, _, _, rfl, rfl, FF1, NN1, allLt_mem lt1⟩
  · intro tt1 htt1 D1 h3 tk3 F3 N3 off4
    simp only [List.cons_append] at N3
    dsimp only
    repeat' (k_extra "W1")
    refine dict_pairs rfl (modules_low (Top.nolimit T')) (by k_asm) N3 (List.Mem.head _) htt1 (fun p hp => ?_) ?_ ?_ ?_
    · simp only [List.mem_cons, List.mem_append]
      simp [hp]
    · exact List.Nodup.sublist (List.Sublist.map _ List.filter_sublist) ndO
    · exact Nat.le_trans (List.length_filter_le _ _) (kO9.line iO)
    intro d4 h4 tk4 o4 F4 N4 lt4 lo4 d4'
    have N5 : News g' L' h4 ((d4, o4) :: (DL, listOf vsL.toArray cL) :: (L' + 1, oc) :: (RC, oRC) :: (dD, oD) :: (dO, oO) :: (dA, oA) :: (dK, oK) :: (dE, oE) :: (dR, oR) :: (lO, listOf von.toArray cO) :: (lT, listOf (refs TT).toArray cT) :: rest) := fun p hp => N4 p (List.Sublist.subset (by repeat first | exact List.Sublist.refl _ | exact List.sublist_append_left _ _ | apply List.Sublist.cons_cons | apply List.Sublist.cons) hp)
    have lt5 : ∀ p ∈ ((DL, listOf vsL.toArray cL) :: (L' + 1, oc) :: (RC, oRC) :: (dD, oD) :: (dO, oO) :: (dA, oA) :: (dK, oK) :: (dE, oE) :: (dR, oR) :: (lO, listOf von.toArray cO) :: (lT, listOf (refs TT).toArray cT) :: rest), @LT.lt Nat _ p.1 d4 := fun p hp => lt4 p (List.Sublist.subset (by repeat first | exact List.Sublist.refl _ | exact List.sublist_append_left _ _ | apply List.Sublist.cons_cons | apply List.Sublist.cons) hp)
    have e4a : @LT.lt Nat _ RC d4 := lt5 (RC, _) (.tail _ (.tail _ (.head _)))
    have e4b : @LT.lt Nat _ lT d4 := lt5 (lT, _) (.tail _ (.tail _ (.tail _ (.tail _ (.tail _ (.tail _ (.tail _ (.tail _ (.tail _ (.tail _ (.head _)))))))))))
    clear N4 N3 NN
    have hvon : von.toArray.size ≤ sizeLine := by
      have h1 := ivon.length
      rw [hr2] at h1
      unfold hookR at h1
      rw [hookedR_on] at h1
      rw [List.size_toArray, sizeLine_eq]
      dsimp only at h1
      omega
    have hFP : FltP (fun i => decide (i = 40)) := trivial
    dsimp only
    repeat' (k_extra "W1")
    (with_reducible rename News _ _ _ _ => NN6)
    (with_reducible rename Fr _ _ _ _ => FF6)
    (with_reducible rename IntsAre _ (List.filter _ _) => hys6)
    (with_reducible rename Obj.IsDictOf (PySem.intKind _ _) _ [] => e6)
    (with_reducible rename Obj.IsDictOf _ _ (stored (stored (stored _ _ _) _ _) _ _) => d6)
    (with_reducible rename (_ == sysModules) = false => lo6)
    rename_i _ _ _ _ dR6 _ oR6 _ _ _ lt6 _ _ _ _ ys6 D6 _ _ ne6 _ oRC6
    rw [stored_three] at d6
    have hobj3 : ((RC, oRC) :: (dD, oD) :: (dO, oO) :: (dA, oA) :: (dK, oK) :: (dE, oE) :: (dR, oR) :: (lO, listOf von.toArray cO) :: (lT, listOf (refs TT).toArray cT) :: rest) = RecP.objs RC ⟨dD, dO, dA, dK, dE, dR, lO, lT, oRC, oD, oO, oA, oK, oE, oR, kD, kO, kA, kK, cO, cT, tm, von, EL, WL, TT⟩ := by rw [← hrest]; rfl
    have na : ∀ p ∈ RecP.objs RC ⟨dD, dO, dA, dK, dE, dR, lO, lT, oRC, oD, oO, oA, oK, oE, oR, kD, kO, kA, kK, cO, cT, tm, von, EL, WL, TT⟩, p.1 ≠ d4 := fun p hp => Nat.ne_of_lt (lt5 p (.tail _ (.tail _ (hobj3 ▸ hp))))
    have nb : ∀ p ∈ RecP.objs RC ⟨dD, dO, dA, dK, dE, dR, lO, lT, oRC, oD, oO, oA, oK, oE, oR, kD, kO, kA, kK, cO, cT, tm, von, EL, WL, TT⟩, p.1 ≠ dR6 := by
      rw [← hobj3]
      exact allLt_mem lt6.2.2.2
    have nc : ∀ p ∈ RecP.objs RC ⟨dD, dO, dA, dK, dE, dR, lO, lT, oRC, oD, oO, oA, oK, oE, oR, kD, kO, kA, kK, cO, cT, tm, von, EL, WL, TT⟩, p.1 ≠ D6 := by
      rw [← hobj3]
      exact off1_mem ne6.2.2.2.2
    have q6 := l3.shed (n := ys6.length) lo4 lo6 d6 d4' e6 hys6 na nb nc (Nat.ne_of_lt lt6.1) ne6.2.1 ne6.1
    dsimp only at q6
    refine hideG fun GG hGG => ?_
    suffices kk : ∀ P7 : RecP, P7 = ⟨dD, d4, dA, dK, dE, dR6, D6, lT, oRC6, oD, o4, oA, oK, oE, oR6, kD, kO.filter fun q => r2.x.kept q.1, kA, kK, ys6.length, cT, tm, ys6, EL, [], TT⟩ → GG by exact kk _ rfl
    intro P7 hP7
    refine hGG ?_; clear hGG GG
    rw [← hP7] at q6
    have N7 : News g' L' _ ((DL, listOf vsL.toArray cL) :: (L' + 1, oc) :: RecP.objs RC P7) := fun p hp => NN6 p (by
      rw [← hrest]
      rw [hP7] at hp
      refine subOf ?_ hp; dsimp only [RecP.objs, RecP.rest, List.map_nil, List.nil_append]; repeat first | (refine List.Sublist.subset ?_; (repeat first | exact List.Sublist.append_left (List.sublist_append_right _ _) _ | apply List.Sublist.cons_cons | apply List.Sublist.cons); done) | (refine Mine.subC ?_ ?_; (focus ((repeat first | exact List.Mem.head _ | apply List.Mem.tail); done))))
    have o7 : ∀ p ∈ RecP.objs RC P7, p.1 ≠ DL := by
      rw [hP7]
      exact shed_fst (P := ⟨dD, dO, dA, dK, dE, dR, lO, lT, oRC, oD, oO, oA, oK, oE, oR, kD, kO, kA, kK, cO, cT, tm, von, EL, WL, TT⟩) (fun p hp e => off3 (DL, _) (.head _) (List.mem_map.mpr ⟨p, hp, e⟩)) (Ne.symm (Nat.ne_of_lt (lt5 (DL, _) (.head _)))) (Ne.symm (Nat.ne_of_lt lt6.2.1)) (Ne.symm ne6.2.2.1)
    have o8 : ∀ p ∈ RecP.objs RC P7, p.1 ≠ L' + 1 := by
      rw [hP7]
      exact shed_fst (P := ⟨dD, dO, dA, dK, dE, dR, lO, lT, oRC, oD, oO, oA, oK, oE, oR, kD, kO, kA, kK, cO, cT, tm, von, EL, WL, TT⟩) (fun p hp e => off3 (L' + 1, _) (.tail _ (.head _)) (List.mem_map.mpr ⟨p, hp, e⟩)) (Ne.symm (Nat.ne_of_lt (lt5 (L' + 1, _) (.tail _ (.head _))))) (Ne.symm (Nat.ne_of_lt lt6.2.2.1)) (Ne.symm ne6.2.2.2.1)
    have hLC' : DL ≠ L' + 1 := Ne.symm (Nat.ne_of_lt hLC)
    generalize hks : rangeKs 0 (k + 1 - 0).toNat = ks at ivL
    have hkl : ks.length ≤ 4 := by rw [← hks, rangeKs_length]; omega
    have h2told : r2.told.length ≤ 90200 := by
      rw [hr2]
      unfold hookR
      rw [hookedR_told]
      have a1 : ((r.rows 7).getD []).length < 60 := by
        cases e : r.rows 7 with
        | none => decide
        | some z => exact hrow 7 z e
      have a2 : ((r.every 7).getD []).length < 60 := by
        cases e : r.every 7 with
        | none => decide
        | some z => exact hev 7 z e
      dsimp only [lawCalled]
      rw [List.length_append, List.length_append]
      simp only [List.length_cons, List.length_nil]
      omega
    clear NN6 hP7 nb nc na hys6 d6 e6 d4' lt5
    refine wpAny_For ?_
    repeat' (k_extra "W1")
    refine Iter_led (g := g') (L := L') (items := vsL.toArray) rfl FF6 (nw₀ := (DL, listOf vsL.toArray cL) :: (L' + 1, oc) :: RecP.objs RC P7) N7
      (fun i m nw => ∃ u P, m = (fun y => if y = Str.ofString "own" then u else m0 y) ∧ nw = (DL, listOf vsL.toArray cL) :: (L' + 1, oc) :: RecP.objs RC P ∧ RecL prog w RC P ((ks.take i).foldl bodiedR (shedR r2)) ∧ (∀ q ∈ RecP.objs RC P, q.1 ≠ DL) ∧ (∀ q ∈ RecP.objs RC P, q.1 ≠ L' + 1)) ?_ ?_ ?_ ?_
    · rintro i m nw h ⟨u, P, rfl, rfl, _⟩ F N
      exact ⟨_, (N _ (.head _)).1, rfl, _, rfl⟩
    · refine ⟨m0 (Str.ofString "own"), P7, ?_, rfl, q6, o7, o8⟩
      funext y
      split
      · rename_i e; rw [e]
      · rfl
    · rintro i v it oi h tk m nw hx ⟨u, P, rfl, rfl, l, o9, o10⟩ off F N
      obtain ⟨f, tf, rfl, hf⟩ := IntsAre.at ivL i v (by simpa using hx)
      have hf0 := range_at (hks ▸ hf)
      have hfn := range_new (hks ▸ hf)
      rw [hks] at hfn
      have hil := List.length_take_le i ks
      dsimp only
      repeat' (k_extra "W1")
      change wpAny _ (ktrTop (dp + 1) (un + 3) gd _ _ L' 461 _ _ (envX cn cs L a ccd cl :: outer)) _ _ _ _
      (with_reducible rename Fr _ _ _ _ => FT)
      (with_reducible rename News _ _ _ _ => NT)
      refine call_W (own := [(it, oi), (DL, listOf vsL.toArray cL), (L' + 1, oc)]) (ws := RecP.objs RC P) (Spec.toS (law_bodied_s (prog := prog) (w := w) (p := p) (loose := loose) (mean := mean) (mg := mg) (mb := mb) (r := (ks.take i).foldl bodiedR (shedR r2)) (by omega) (by omega) (foldl_rows_none hfn rfl) (by rw [foldl_told]; simp only [shedR]; omega))) (St := []) (fun v => rec_good) B' X' T' rfl (by omega) (by omega) FT NT (rec_own l) (allC (nin_map fun p hp => off p (.tail _ (.tail _ hp))) (allC (nin_map o9) (allC (nin_map o10) allN))) (fun q hq => nomatch hq) ?_
      intro v8 h8 tk8 ws8 F8 N8 O8 off8
      obtain ⟨P8, rfl, l8⟩ := own_rec O8 (fun p hp => (N8 p (List.mem_append_right _ hp)).1)
      dsimp only
      repeat' (k_extra "W1")
      have hst : (ks.take (i + 1)).foldl bodiedR (shedR r2) = bodiedR ((ks.take i).foldl bodiedR (shedR r2)) f := by
        rw [List.take_add_one, hf, Option.toList_some, List.foldl_append]; rfl
      rw [← hst] at l8
      refine LedEnd.mk (nw' := (DL, listOf vsL.toArray cL) :: (L' + 1, oc) :: RecP.objs RC P8) F8 N8 (fun p hp => ?_) ⟨some (.int f tf), P8, ?_, rfl, l8, fun q hq e => off8 (DL, _) (.tail _ (.head _)) (List.mem_map.mpr ⟨q, hq, e⟩), fun q hq e => off8 (L' + 1, _) (.tail _ (.tail _ (.head _))) (List.mem_map.mpr ⟨q, hq, e⟩)⟩
      · rcases List.mem_cons.mp hp with rfl | hp
        · exact off (DL, _) (.head _)
        · rcases List.mem_cons.mp hp with rfl | hp
          · exact off (L' + 1, _) (.tail _ (.head _))
          · exact fun e => off8 (it, _) (.head _) (List.mem_map.mpr ⟨p, hp, e⟩)
      · funext y
        split <;> rfl
    · rintro h tk m nw ⟨u, P, rfl, rfl, l, o9, o10⟩ F N
      rw [show vsL.toArray.size = ks.length by rw [List.size_toArray]; exact ivL.length, List.take_length] at l
      dsimp only
      repeat' (k_extra "W1")
      refine hideG fun GG hGG => ?_
      suffices kk : ∀ r4, r4 = ks.foldl bodiedR (shedR r2) → GG by exact kk _ rfl
      intro r4 hr4
      refine hGG ?_; clear hGG GG
      rw [← hr4] at l
      have s4r : ∀ w ns, r4.rows w = some ns → ns.length < 60 := by
        rw [hr4]
        exact foldl_small fun w ns e => (nomatch e)
      have s4e : ∀ w ns, r4.every w = some ns → ns.length < 60 := by
        rw [hr4, foldl_every]
        show ∀ w ns, r2.every w = some ns → ns.length < 60
        rw [hr2, hookR_every]
        exact hev
      have s4t : r4.told.length ≤ 90300 := by
        rw [hr4, foldl_told]
        simp only [shedR]
        omega
      refine wpAny_For ?_
      repeat' (k_extra "W1")
      (with_reducible rename Fr _ _ _ _ => FB)
      (with_reducible rename News _ _ _ _ => NB)
      refine Iter_led (g := g') (L := L') (items := vsL.toArray) rfl FB (nw₀ := (DL, listOf vsL.toArray cL) :: (L' + 1, oc) :: RecP.objs RC P) NB
        (fun i m nw => ∃ u P, m = (fun y => if y = Str.ofString "own" then u else m0 y) ∧ nw = (DL, listOf vsL.toArray cL) :: (L' + 1, oc) :: RecP.objs RC P ∧ RecL prog w RC P ((ks.take i).foldl hookR r4) ∧ (∀ q ∈ RecP.objs RC P, q.1 ≠ DL) ∧ (∀ q ∈ RecP.objs RC P, q.1 ≠ L' + 1)) ?_ ?_ ?_ ?_
      · rintro i m nw h ⟨u, P, rfl, rfl, _⟩ F N
        exact ⟨_, (N _ (.head _)).1, rfl, _, rfl⟩
      · exact ⟨u, P, rfl, rfl, l, o9, o10⟩
      · clear l o9 o10
        rintro i v it oi h tk m nw hx ⟨u, P, rfl, rfl, l, o9, o10⟩ off F N
        obtain ⟨f, tf, rfl, hf⟩ := IntsAre.at ivL i v (by simpa using hx)
        have hil : (ks.take i).length ≤ 4 := Nat.le_trans (List.length_take_le' i ks) hkl
        dsimp only
        repeat' (k_extra "W1")
        change wpAny _ (ktrTop (dp + 1) (un + 3) gd _ _ L' 461 _ _ (envX cn cs L a ccd cl :: outer)) _ _ _ _
        (with_reducible rename Fr _ _ _ _ => FT)
        (with_reducible rename News _ _ _ _ => NT)
        refine call_W (own := [(it, oi), (DL, listOf vsL.toArray cL), (L' + 1, oc)]) (ws := RecP.objs RC P) (Spec.toS (law_hooked_s (prog := prog) (w := w) (p := p) (loose := loose) (mean := mean) (mg := mg) (mb := mb) (r := (ks.take i).foldl hookR r4) (by rw [foldlH_rows]; exact s4r f) (by rw [foldlH_every]; exact s4e f) (by have := foldlH_told (l := ks.take i) s4r s4e; omega))) (St := []) (fun v => rec_good) B' X' T' rfl (by omega) (by omega) FT NT (rec_own l) (allC (nin_map fun p hp => off p (.tail _ (.tail _ hp))) (allC (nin_map o9) (allC (nin_map o10) allN))) (fun q hq => nomatch hq) ?_
        intro v8 h8 tk8 ws8 F8 N8 O8 off8
        obtain ⟨P8, rfl, l8⟩ := own_rec O8 (fun p hp => (N8 p (List.mem_append_right _ hp)).1)
        dsimp only
        repeat' (k_extra "W1")
        have hst : (ks.take (i + 1)).foldl hookR r4 = hookR ((ks.take i).foldl hookR r4) f := by
          rw [List.take_add_one, hf, Option.toList_some, List.foldl_append]; rfl
        rw [show hookedR ((ks.take i).foldl hookR r4) f (lawCalled (((ks.take i).foldl hookR r4).every f) (((ks.take i).foldl hookR r4).rows f)) = (ks.take (i + 1)).foldl hookR r4 from hst.symm] at l8
        refine LedEnd.mk (nw' := (DL, listOf vsL.toArray cL) :: (L' + 1, oc) :: RecP.objs RC P8) F8 N8 (fun p hp => ?_) ⟨some (.int f tf), P8, ?_, rfl, l8, fun q hq e => off8 (DL, _) (.tail _ (.head _)) (List.mem_map.mpr ⟨q, hq, e⟩), fun q hq e => off8 (L' + 1, _) (.tail _ (.tail _ (.head _))) (List.mem_map.mpr ⟨q, hq, e⟩)⟩
        · rcases List.mem_cons.mp hp with rfl | hp
          · exact off (DL, _) (.head _)
          · rcases List.mem_cons.mp hp with rfl | hp
            · exact off (L' + 1, _) (.tail _ (.head _))
            · exact fun e => off8 (it, _) (.head _) (List.mem_map.mpr ⟨p, hp, e⟩)
        · funext y
          split <;> rfl
      · clear l o9 o10
        rintro h tk m nw ⟨u, P, rfl, rfl, l, o9, o10⟩ F N
        rw [show vsL.toArray.size = ks.length by rw [List.size_toArray]; exact ivL.length, List.take_length] at l
        refine hideG fun GG hGG => ?_
        suffices kk : ∀ r5, r5 = ks.foldl hookR r4 → GG by exact kk _ rfl
        intro r5 hr5
        rw [← hr5] at l
        obtain ⟨dD, dO, dA, dK, dE, dR, lO, lT, oRC, oD, oO, oA, oK, oE, oR, kD, kO, kA, kK, cO, cT, tm, von, EL, WL, TT⟩ := P
        obtain ⟨nd, dRC, lRC, lD, lO', lA, lK, lE, lR, iD, iO, iA, iK, iE, iR, xD, xO, xA, xK, kE, kR, fE, fR, vE, vR, ivon, tt⟩ := id l
        dsimp only at dRC lRC lD lO' lA lK lE lR iD iO iA iK iE iR xD xO xA xK kE kR fE fR vE vR ivon tt
        have kD9 := xD.1
        have kO9 := xO.1
        have kA9 := xA.1
        have kK9 := xK.1
        suffices kk : ∀ rest, EL.map LR.obj ++ (WL.map LR.obj ++ TT) = rest → GG by exact kk _ rfl
        intro rest hrest
        refine hGG ?_; clear hGG GG
        have nd' : (RC :: dD :: dO :: dA :: dK :: dE :: dR :: lO :: lT :: rest.map (·.1)).Nodup := by
          rw [← hrest]; exact nd
        refine hideG fun GG hGG => ?_
        refine nd9e nd' fun _ _ _ _ _ _ _ _ _ _ _ _ _ _ _ _ _ _ _ _ _ _ _ _ _ _ _ _ _ _ _ _ _ _ _ _ rRC rD rO rA rK rE rR rlO rlT => ?_
        refine hGG ?_; clear hGG GG
        have h5t : r5.told.length ≤ 90900 := by
          rw [hr5]
          have := foldlH_told (l := ks) s4r s4e
          omega
        have hTlen : (refs TT).length ≤ sizeLine := by
          rw [show (refs TT).length = r5.told.length by unfold refs; rw [List.length_map]; exact tt.length, sizeLine_eq]; omega
        have hobj5 : ((RC, oRC) :: (dD, oD) :: (dO, oO) :: (dA, oA) :: (dK, oK) :: (dE, oE) :: (dR, oR) :: (lO, listOf von.toArray cO) :: (lT, listOf (refs TT).toArray cT) :: rest) = RecP.objs RC ⟨dD, dO, dA, dK, dE, dR, lO, lT, oRC, oD, oO, oA, oK, oE, oR, kD, kO, kA, kK, cO, cT, tm, von, EL, WL, TT⟩ := by rw [← hrest]; rfl
        have NN : News g' L' h ((DL, listOf vsL.toArray cL) :: (L' + 1, oc) :: (RC, oRC) :: (dD, oD) :: (dO, oO) :: (dA, oA) :: (dK, oK) :: (dE, oE) :: (dR, oR) :: (lO, listOf von.toArray cO) :: (lT, listOf (refs TT).toArray cT) :: rest) := by
          rw [← hrest]; exact N
        have oL1 : RC ≠ DL := o9 (RC, oRC) (.head _)
        have oC1 : RC ≠ L' + 1 := o10 (RC, oRC) (.head _)
        have oL2 : lT ≠ DL := o9 (lT, _) (.tail _ (.tail _ (.tail _ (.tail _ (.tail _ (.tail _ (.tail _ (.tail _ (.head _)))))))))
        have oC2 : lT ≠ L' + 1 := o10 (lT, _) (.tail _ (.tail _ (.tail _ (.tail _ (.tail _ (.tail _ (.tail _ (.tail _ (.head _)))))))))
        have zL : @LT.lt Nat _ DL h.objs.size := Heap.lt_size (NN (DL, _) (.head _)).1
        have zC : @LT.lt Nat _ (L' + 1) h.objs.size := Heap.lt_size (NN (L' + 1, _) (.tail _ (.head _))).1
        have zA : ∀ p ∈ ((RC, oRC) :: (dD, oD) :: (dO, oO) :: (dA, oA) :: (dK, oK) :: (dE, oE) :: (dR, oR) :: (lO, listOf von.toArray cO) :: (lT, listOf (refs TT).toArray cT) :: rest), @LT.lt Nat _ p.1 h.objs.size := fun p hp => Heap.lt_size (NN p (.tail _ (.tail _ hp))).1
        have zT : @LT.lt Nat _ lT h.objs.size := zA (lT, _) (.tail _ (.tail _ (.tail _ (.tail _ (.tail _ (.tail _ (.tail _ (.tail _ (.head _)))))))))
        clear N N7
        dsimp only
        repeat' (k_extra "W1")
        change wpAny _ (ktrTop (dp + 1) (un + 3) gd _ _ L' 461 _ _ (envX cn cs L a ccd cl :: outer)) _ _ _ _
        (with_reducible rename News _ _ _ _ => N9)
        (with_reducible rename Fr _ _ _ _ => F9)
        refine hideG fun GG hGG => ?_
        suffices kk : ∀ DT tS, DT = h.objs.size → News g' L' _ ((DT, tupOf [Value.str (Str.ofString "behind") tS, Value.int k t] 0) :: (DL, listOf vsL.toArray cL) :: (L' + 1, oc) :: (RC, oRC) :: (dD, oD) :: (dO, oO) :: (dA, oA) :: (dK, oK) :: (dE, oE) :: (dR, oR) :: (lO, listOf von.toArray cO) :: (lT, listOf (refs TT ++ [Value.ref DT]).toArray (cT + 1)) :: rest) → GG by exact kk _ _ rfl N9
        intro DT tS hDT N9
        refine hGG ?_; clear hGG GG
        have hT : ∀ p ∈ RecP.objs RC ⟨dD, dO, dA, dK, dE, dR, lO, lT, oRC, oD, oO, oA, oK, oE, oR, kD, kO, kA, kK, cO, cT, tm, von, EL, WL, TT⟩, p.1 ≠ DT := by
          rw [← hobj5]
          exact fun p hp => Nat.ne_of_lt (hDT ▸ zA p hp)
        have q9 := l.tell (e := .behind k) (a := DT) (n := 0) (c := cT + 1) (.behind k tS t) hT
        dsimp only at q9
        refine hideG fun GG hGG => ?_
        suffices kk : ∀ P10 : RecP, P10 = ⟨dD, dO, dA, dK, dE, dR, lO, lT, oRC, oD, oO, oA, oK, oE, oR, kD, kO, kA, kK, cO, cT + 1, tm, von, EL, WL, TT ++ [(DT, tupOf [Value.str (Str.ofString "behind") tS, Value.int k t] 0)]⟩ → GG by exact kk _ rfl
        intro P10 hP10
        refine hGG ?_; clear hGG GG
        rw [← hP10] at q9
        refine call_W (own := [(DL, listOf vsL.toArray cL), (L' + 1, oc)]) (ws := RecP.objs RC P10) (Spec.toS (law_hooked_s (prog := prog) (w := w) (p := p) (loose := loose) (mean := mean) (mg := mg) (mb := mb) (r := { r5 with told := r5.told ++ [Ev.behind k] }) (by show ∀ ns, r5.rows 8 = some ns → _; rw [hr5, foldlH_rows]; exact s4r 8) (by show ∀ ns, r5.every 8 = some ns → _; rw [hr5, foldlH_every]; exact s4e 8) (by rw [List.length_append]; simp; omega))) (St := []) (fun v => rec_good) B' X' T' rfl (by omega) (by omega) F9 (fun p hp => N9 p ?_) (rec_own q9) ?_ (fun q hq => nomatch hq) ?_
        · rw [← hrest]
          rw [hP10] at hp
          refine subOf ?_ hp; simp only [RecP.objs, RecP.rest, refs_snoc, List.cons_append, List.nil_append]; repeat first | (refine snoc3 ?_ (List.Sublist.subset ?_); (focus ((repeat first | exact List.Mem.head _ | apply List.Mem.tail); done)); (repeat first | exact List.Sublist.refl _ | apply List.Sublist.cons); done) | (refine Mine.subC ?_ ?_; (focus ((repeat first | exact List.Mem.head _ | apply List.Mem.tail); done)))
        · rw [hP10]
          exact allC (nin_map (tell_fst (P := ⟨dD, dO, dA, dK, dE, dR, lO, lT, oRC, oD, oO, oA, oK, oE, oR, kD, kO, kA, kK, cO, cT, tm, von, EL, WL, TT⟩) o9 (Ne.symm (Nat.ne_of_lt (hDT ▸ zL))))) (allC (nin_map (tell_fst (P := ⟨dD, dO, dA, dK, dE, dR, lO, lT, oRC, oD, oO, oA, oK, oE, oR, kD, kO, kA, kK, cO, cT, tm, von, EL, WL, TT⟩) o10 (Ne.symm (Nat.ne_of_lt (hDT ▸ zC))))) allN)
        intro v10 h10 tk10 ws10 F10 N10 O10 off10
        obtain ⟨P11, rfl, l11⟩ := own_rec O10 (fun p hp => (N10 p (List.mem_append_right _ hp)).1)
        dsimp only at l11
        clear l q9 N9
        refine hideG fun GG hGG => ?_
        suffices kk : ∀ r6, r6 = hookR { r5 with told := r5.told ++ [Ev.behind k] } 8 → GG by exact kk _ rfl
        intro r6 hr6
        refine hGG ?_; clear hGG GG
        change RecL prog w RC P11 (hookR { r5 with told := r5.told ++ [Ev.behind k] } 8) at l11
        rw [← hr6] at l11
        refine hideG fun GG hGG => ?_
        obtain ⟨dD, dO, dA, dK, dE, dR, lO, lT, oRC, oD, oO, oA, oK, oE, oR, kD, kO, kA, kK, cO, cT, tm, von, EL, WL, TT⟩ := P11
        obtain ⟨nd, dRC, lRC, lD, lO', lA, lK, lE, lR, iD, iO, iA, iK, iE, iR, xD, xO, xA, xK, kE, kR, fE, fR, vE, vR, ivon, tt⟩ := id l11
        dsimp only at dRC lRC lD lO' lA lK lE lR iD iO iA iK iE iR xD xO xA xK kE kR fE fR vE vR ivon tt
        have kD9 := xD.1
        have kO9 := xO.1
        have kA9 := xA.1
        have kK9 := xK.1
        suffices kk : ∀ rest, EL.map LR.obj ++ (WL.map LR.obj ++ TT) = rest → GG by exact kk _ rfl
        intro rest hrest
        refine hGG ?_; clear hGG GG
        have nd' : (RC :: dD :: dO :: dA :: dK :: dE :: dR :: lO :: lT :: rest.map (·.1)).Nodup := by
          rw [← hrest]; exact nd
        refine hideG fun GG hGG => ?_
        refine nd9e nd' fun _ _ _ _ _ _ _ _ _ _ _ _ _ _ _ _ _ _ _ _ _ _ _ _ _ _ _ _ _ _ _ _ _ _ _ _ rRC rD rO rA rK rE rR rlO rlT => ?_
        refine hGG ?_; clear hGG GG
        have NN : News g' L' h10 ((DL, listOf vsL.toArray cL) :: (L' + 1, oc) :: (RC, oRC) :: (dD, oD) :: (dO, oO) :: (dA, oA) :: (dK, oK) :: (dE, oE) :: (dR, oR) :: (lO, listOf von.toArray cO) :: (lT, listOf (refs TT).toArray cT) :: rest) := by
          rw [← hrest]; exact N10
        have oL1 : RC ≠ DL := fun e => off10 (DL, _) (.head _) (List.mem_map.mpr ⟨(RC, oRC), .head _, e⟩)
        have oC1 : RC ≠ L' + 1 := fun e => off10 (L' + 1, _) (.tail _ (.head _)) (List.mem_map.mpr ⟨(RC, oRC), .head _, e⟩)
        clear N10
        dsimp only
        repeat' (k_extra "W1")
        repeat' (first | k_unfold | (dsimp only))
        (with_reducible rename News _ _ _ _ => N12)
        (with_reducible rename Fr _ _ _ _ => F12)
        (with_reducible rename Obj.IsDictOf (PySem.strKind _ _) _ _ => d12)
        rw [stored_mode] at d12
        have q12 := l11.setMode d12
        dsimp only at q12
        obtain ⟨z1, z2⟩ := fin_W I (by rw [hidE]) keep gone F12 (fun p hp => N12 p (by
          rw [← hrest]; exact .tail _ (.tail _ hp))) (rec_own q12)
        refine hk _ _ _ _ ?_ z2
        rw [show switchedR r k = { r6 with mode := k } by rw [hr6, hr5, hr4, hr2, ← hks]; rfl]
        exact z1
end
section
theorem wtTab1 : True := by
  w_top off
  trivial
theorem kwTab11 : True := by
  k_with_none
  k_with "W1" => ((fail_if_success (with_reducible show wpAny _ _ (PySem.call (Value.ref _) _ _) _ _ _)); (fail_if_success (with_reducible show wpAny _ _ (pyIter _) _ _ _)); (fail_if_success (with_reducible show wpAny _ _ (PySem.exec (Stmt.For _ _ _ _ _) _) _ _ _)); first | (k_unfold; (try dsimp only)) | walk1 | (dsimp only; walk1) | fail "no step")
  k_with "k_enter" => (first | (refine' code_def (by k_asm) (by k_asm) (by k_asm) (by k_asm) (by k_asm) rfl rfl (by first | exact rfl | assumption) (by k_is) (by k_is) (by k_room) (by first | exact BindsTo.of_eq rfl | exact binds_K (by k_in) rfl (by k_is) rfl rfl rfl) (by exact locs rfl) ?_ (by exact rfl) (by exact rfl) (by exact rfl) (by decide); k_whole; intro _ _ _ _ _ _ Bz9 _ _; (try dsimp only); (try k_lift Bz9); (try k_fold)) | (refine' code_defC (by k_asm) (by k_asm) (by k_asm) (by k_asm) (by k_asm) rfl rfl (by first | exact rfl | assumption) (by k_is) (by k_is) (by k_room) (by first | exact BindsTo.of_eq rfl | exact binds_K (by k_in) rfl (by k_is) rfl rfl rfl) (by exact rfl) (by decide +kernel) ?_ (by exact rfl) (by exact rfl) (by exact rfl); k_whole; intro _ _ _ _ _ _ _ Nz9 Yz9 Bz9 _ _ lz9; (try k_lt lz9); k_cells Yz9; (try simp only [List.cons_append, List.nil_append] at Nz9); (try dsimp only); (try k_lift Bz9); (try k_fold)) | fail)
  k_with "execs cons" => (k_fold; (first | show wpAny _ AB (PySem.execs _ eB) _ _ _ | (show (let eB := _; let AB := _; wpAny _ AB (PySem.execs _ eB) _ _ _); intro eB AB)); refine wpAny_execs_cons ?_)
  k_with "omega" => first | exact Nat.le_of_ble_eq_true rfl | with_reducible assumption | exact Mine.o1 (by with_reducible assumption) (by exact rfl) | exact Mine.o3 (by with_reducible assumption) (by exact rfl) | exact Mine.o2 (by with_reducible assumption) (by exact rfl) | exact Mine.o4 (by with_reducible assumption) (by exact rfl) | exact Mine.o5 (by with_reducible assumption) (by exact rfl) | exact Mine.o6 (by with_reducible assumption) (by exact rfl) | exact Mine.o7 (by with_reducible assumption) (by exact rfl) | exact Mine.o8 (by with_reducible assumption) (by exact rfl) | exact Mine.o9 (by with_reducible assumption) (by exact rfl) | exact Mine.o10 (by with_reducible assumption) (by exact rfl) | exact Mine.o11 (by with_reducible assumption) (by exact rfl) | exact Mine.o12 (by with_reducible assumption) (by exact rfl) | exact Mine.o13 (by with_reducible assumption) (by exact rfl) | exact Nat.ne_of_lt (by with_reducible assumption) | exact Nat.ne_of_gt (by with_reducible assumption) | exact Nat.le_of_lt (by with_reducible assumption) | fail
  k_with "k_room" => ((try simp only [depth_mark, depth_under_make, depth_under_kw, depth_in1, depth_deeper]); first | assumption | (show _ < 1000; (try dsimp only); omega))
  k_with "k_ne" => ((refine neN ?_); (try dsimp only); first | assumption | exact Ne.symm (by assumption))
  k_with "compareOp In int ref" => (k_here; k_dflt (first | (refine' in_C (by k_asm) (by k_mem) (by k_asm) (by k_asm) (by k_asm) ?_) | (refine' in_I (by k_asm) (by k_mem) (by k_asm) (by k_asm) (by k_asm) ?_) | (refine' in_B (by k_asm) (by k_mem) (by k_asm) (by k_asm) (by k_asm) ?_)))
  k_with "compareOp NotIn int ref" => (k_here; k_dflt ( (refine' notin_C (by k_asm) (by k_mem) (by k_asm) (by k_asm) (by k_asm) ?_)))
  k_with "call builtin:dict.get" => (k_here; k_dflt (first | (refine' get_I (by k_asm) (by k_mem) (by k_asm) (by k_asm) (by k_asm) ?_; refine ⟨fun _ _ _ => ?_, fun _ => ?_⟩) | (refine' get_B (by k_asm) (by k_mem) (by k_asm) (by k_asm) (by k_asm) ?_; (try simp only [Bool.or_false]))))
  k_with "getMethod ref" => (k_here; (with_reducible show wpAny _ _ (getMethod (Value.ref _) (Str.ofString "get") _) _ _ _); k_dflt (refine' kdg_method (knd := PySem.intKind _ _) (by k_asm) (by k_mem) (by k_asm) ?_))
  k_with "subscriptTail" => (k_here; (with_reducible show wpAny _ _ (subscriptTail _ _ (Value.ref _) (Value.int _ _)) _ _ _); k_dflt (refine' item_C (by k_asm) (by k_mem) (by k_asm) (by k_asm) (by k_asm) ?_ (by with_unfolding_all rfl); intro _ _ _ _))
  k_with "setItem ref int" => (k_here; k_dflt (refine' kda_set (knd := PySem.intKind _ _) (by k_asm) (by k_asm) (by k_updF) (by k_asm) (intKind_is _ _ _ _) (by exact KOK.line (by k_asm) (by k_asm)) ?_; intro hz9 oz9 Fz9 Nz9 hdz9; (try dsimp only at Nz9); (try k_sweep); revert hz9 oz9 Fz9 Nz9 hdz9; intro _ _ _ _ _))
  trivial
variable {prog : Program} {w : World} {p : Program} {loose : List Str} {mean : ExcName → Option Value} {mg mb : Str → Option Value}
theorem kwTab12 : True := by
  k_with "eval ListComp" => (k_here; k_dflt (refine LCt.ListComp_T (F₀ := by k_asm) (by with_unfolding_all rfl) (by decide) (by rfl) (by decide) (by rfl) ?_))
  k_with "CompSrcT" => (k_here; k_dflt (first | (refine' LCt.CompSrcT.ledger rfl (by k_asm) (by k_asm) (by k_mem) (by k_asm) ?_) | (refine' LCt.CompSrcT.base rfl (by k_asm) (by k_asm) (by k_asm) (by k_asm) ?_)); intro _; k_dflt (refine' flt_rest (by k_asm) (by k_asm) (by first | exact .inl (by k_asm) | exact .inr ⟨_, by k_mem, rfl, _, rfl⟩) rfl rfl (by decide) (fun _ _ _ _ _ _ _ _ _ _ _ _ _ _ _ _ _ _ _ => ?_) (fun _ _ => ?_)); (all_goals (try (simp only [LCg.Off3, and_true] at off'))))
  k_with "FltT" => (k_here; k_dflt (refine' flt_t (by k_asm) (by k_asm) (by intro pz9 hpz9; first | exact hpz9 | exact .tail _ hpz9 | exact .tail _ (.tail _ hpz9) | exact .tail _ (.tail _ (.tail _ hpz9))) ?_); (try rfl))
  k_with "call type:list" => (k_here; k_dflt (refine' list_D rfl (by k_asm) (by k_asm) (by k_mem) (by k_asm) (by k_asm) (by k_asm) ?_); intro Bz9 cz9 hz9 tkz9 vsz9 Fz9 Nz9 l1z9 hiz9 h64z9 hszz9; (try k_lt l1z9); (try k_sweep); revert Bz9 cz9 hz9 tkz9 vsz9 Fz9 Nz9 l1z9 hiz9 h64z9 hszz9; intro _ _ _ _ _ _ _ _ _ _ _)
  k_with "call builtin:sorted" => (k_here; k_dflt (refine' sorted_L (by k_asm) (by k_asm) (by k_mem) (by k_asm) (by k_asm) ?_); intro Bz9 vsz9 nsz9 cz9 hz9 Fz9 Nz9 l1z9 hiz9 hpmz9 h64z9 hszz9; (try k_lt l1z9); (try k_sweep); revert Bz9 vsz9 nsz9 cz9 hz9 Fz9 Nz9 l1z9 hiz9 hpmz9 h64z9 hszz9; intro _ _ _ _ _ _ _ _ _ _ _ _)
  k_with "call builtin:dict.pop" => (k_here; k_dflt (refine' pop_C (by k_asm) (by k_asm) (by k_updF) (by k_asm) (by k_asm) (by k_asm) ?_); intro hz9 oz9 vz9 Fz9 Nz9 hdz9; (try dsimp only at Nz9); (try k_sweep); revert hz9 oz9 vz9 Fz9 Nz9 hdz9; intro _ _ _ _ _ _)
  k_with "getMethod ref" => (k_here; (with_reducible show wpAny _ _ (getMethod (Value.ref _) (Str.ofString "pop") _) _ _ _); k_dflt (refine' popm_D (by k_asm) (by k_mem) (by k_asm) ?_))
  k_with "eval Name" => (k_here; k_dflt (refine' nameX_L (by k_asm) (by first | exact rfl | assumption) ?_ (by rfl) (by rfl); k_whole))
  k_with "k_ne" => ((refine neN ?_); (try dsimp only); first | assumption | exact Ne.symm (by assumption) | omega)
  k_with "k_units" => (first | exact Nat.le_of_ble_eq_true rfl | (simp only [ktrTop, units_deeper, units_in1, cLine_is]; omega) | ((try dsimp only [ktrTop, Around.deeper, Around.in1, Around.under]); rw [cLine_is]; omega))
  k_with "compareOp In int ref" => (k_here; k_dflt (first | (refine' in_list_ints (by first | exact led_list (by k_asm) (by k_mem) | exact base_list (by k_asm) (by k_asm)) (by first | k_asm | exact .cons _ _ .nil | exact .nil) ?_; k_whole) | (refine' in_E (by k_asm) (by k_asm) (by k_asm) (by k_asm) ?_)))
  k_with "compareOp NotEq ref ref" => (k_here; k_dflt (refine' ne_E (by k_asm) (by k_mem) (by k_mem) (by k_asm) (by k_asm) (by k_asm) (by k_asm) (by k_units) ?_))
  k_with "binaryOp Add ref ref" => (k_here; k_dflt (refine' add_L (by k_asm) (by k_asm) (by first | exact led_list (by k_asm) (by k_mem) | exact base_list (by k_asm) (by k_asm)) (by first | exact led_list (by k_asm) (by k_mem) | exact base_list (by k_asm) (by k_asm)) (by first | k_asm | exact .cons _ _ .nil | exact .nil) (by first | k_asm | exact .cons _ _ .nil | exact .nil) (by first | k_asm | (simp only [List.length_cons, List.length_nil, sizeLine_eq]; omega)) ?_); intro hz9 Dz9 Fz9 Nz9 l1z9 hiz9; (try k_lt l1z9); (try k_sweep); revert hz9 Dz9 Fz9 Nz9 l1z9 hiz9; intro _ _ _ _ _ _)
  k_with "call builtin:dict.get" => (k_here; k_dflt (first | (refine' get_V (by k_asm) (by k_mem) (by k_asm) (by k_asm) (by first | k_asm | exact vaSame _ _ _) ?_) | (refine' get_N (by k_asm) (by k_mem) (by k_asm) (by k_asm) (by k_asm) ?_)))
  k_with "call type:list" => (k_here; k_dflt (refine' copy_L (by k_asm) (by k_asm) (by k_mem) (by k_asm) ?_); intro Bz9 cz9 hz9 tkz9 Fz9 Nz9 l1z9; (try k_lt l1z9); (try k_sweep); revert Bz9 cz9 hz9 tkz9 Fz9 Nz9 l1z9; intro _ _ _ _ _ _ _)
  k_with "call builtin:list.extend" => (k_here; k_dflt (refine' ext_L (by k_asm) (by k_asm) (by k_updF) (by k_mem) (by first | k_asm | exact .cons _ _ .nil | exact .nil) (by first | k_asm | exact .cons _ _ .nil | exact .nil) (by first | k_asm | (simp only [List.length_cons, List.length_nil, sizeLine_eq]; omega)) ?_); intro hz9 nz9 Fz9 Nz9 hiz9; (try dsimp only at Nz9); (try k_sweep); revert hz9 nz9 Fz9 Nz9 hiz9; intro _ _ _ _ _)
  k_with "k_all" => with_reducible assumption
  k_with "subscriptTail" => (k_here; (with_reducible show wpAny _ _ (subscriptTail _ _ (Value.ref _) (Value.int _ _)) _ _ _); k_dflt (refine' item_V (by k_asm) (by k_mem) (by k_asm) (by k_asm) ?_ (by with_unfolding_all rfl)))
  k_with "compareOp Eq ref ref" => (k_here; k_dflt (refine' ke_eq_ints (by first | exact led_list (by k_asm) (by k_mem) | exact base_list (by k_asm) (by k_asm)) (by first | exact led_list (by k_asm) (by k_mem) | exact base_list (by k_asm) (by k_asm)) (by first | k_asm | exact .cons _ _ .nil | exact .nil) (by first | k_asm | exact .cons _ _ .nil | exact .nil) (by k_units) ?_))
  k_with "compareOp NotIn int ref" => (k_here; k_dflt ( (refine' notin_V (by k_asm) (by k_mem) (by k_asm) (by k_asm) (by rfl) ?_)))
  k_with "subscriptTail" => (k_here; (with_reducible show wpAny _ _ (subscriptTail _ _ (Value.ref _) (Value.int _ _)) _ _ _); k_dflt (refine' item_V (by k_asm) (by k_mem) (by k_asm) (by rfl) ?_ (by with_unfolding_all rfl)))
  trivial
theorem kwTab19 : True := by
  k_with "k_lt0" => skip
  k_with "nd9" => ((try dsimp only [List.map]); first | exact SD.all (by with_reducible assumption) | with_reducible assumption | exact SD.all (SD.up (by with_reducible assumption)))
  trivial
theorem kwTab13 : True := by
  k_with "k_updF" => (refine' updF_nd (by repeat (first | exact UpdG.head | apply UpdG.tail)) (by ((try dsimp only [List.map]); first | exact SD.all (by with_reducible assumption) | with_reducible assumption | exact SD.all (SD.up (by with_reducible assumption)))))
  k_with "k_upd" => (refine' upd_nd (by repeat (first | exact UpdH.head | apply UpdH.tail)) (by ((try dsimp only [List.map]); first | exact SD.all (by with_reducible assumption) | with_reducible assumption | exact SD.all (SD.up (by with_reducible assumption)))))
  k_with "k_mem" => (with_reducible refine memOf ?_; with_reducible assumption)
  k_with "compareOp NotIn int ref" => (k_here; k_dflt (refine' notin_V (by k_asm) (by k_mem) (by k_asm) (by k_asm) (by k_asm) ?_))
  trivial
theorem ind4 {P : Shared → Prop} (I : Nat → Shared → Prop) (st : ∀ n s, I n s → (∀ m s', m < n → I m s' → P s') → P s) : ∀ n s, I n s → P s := fun n => by
  induction n using Nat.strongRecOn with
  | _ n ih => exact fun s h => st n s h fun m s' hm h' => ih m hm s' h'
theorem table_at {l : List MR} (ks : l.map (·.k) = rangeKs 0 4) {n : Nat} (hn : n < 4) : ∃ q ∈ l, q.k = (n : Int) ∧ valueAt (mrKvs l) (n : Int) = some (Value.ref q.M) := by
  obtain ⟨a, b, c, d, rfl, ha, hb, hc, hd⟩ := four ks
  match n, hn with
  | 0, _ => exact ⟨a, .head _, ha, by simp [valueAt, mrKvs, ha]⟩
  | 1, _ => exact ⟨b, .tail _ (.head _), hb, by simp [valueAt, mrKvs, ha, hb]⟩
  | 2, _ => exact ⟨c, .tail _ (.tail _ (.head _)), hc, by simp [valueAt, mrKvs, ha, hb, hc]⟩
  | 3, _ => exact ⟨d, .tail _ (.tail _ (.tail _ (.head _))), hd, by simp [valueAt, mrKvs, ha, hb, hc, hd]⟩
theorem rangeKs_succ (n : Nat) : (rangeKs 0 (n + 1)).reverse = (n : Int) :: (rangeKs 0 n).reverse := by
  simp [rangeKs, List.range_succ]
theorem line_of_s {TB : Addr} {t : Tok} {k : Int} (h0 : 0 ≤ k) (h9 : k < 4) : Spec prog w p loose mean mg mb 8 111 [.ref TB, .int k t] (TableC prog w TB 4) (fun v => Star (TableC prog w TB 4) (ListV v (rangeKs 0 (k + 1).toNat).reverse)) := by
  intro dp un gd cn cs a ccd cl outer A₀ base h₀ L m s Q E fp B X0 T hke hdp hu I hk
  refine hideG fun GG hGG => ?_
  obtain ⟨d, mj, oD, oM, l, rfl, ⟨nd, ⟨k1, k2, k3, t1, t2, t3, mi, od, rfl⟩, lo, dM, ks⟩, hh⟩ := I.C
  suffices kk : ∀ W, tabObjs TB d mj (dictOf [⟨k1, .str "majors" t1, .ref mj⟩, ⟨k2, .str "minors" t2, .ref mi⟩, ⟨k3, .str "order" t3, .ref od⟩] 3) oM l = W → GG by exact kk _ rfl
  intro W hW
  have nd' : ((tabObjs TB d mj (dictOf [⟨k1, .str "majors" t1, .ref mj⟩, ⟨k2, .str "minors" t2, .ref mi⟩, ⟨k3, .str "order" t3, .ref od⟩] 3) oM l).map (·.1)).Nodup := nd
  have mTB : (TB, instObj 135 d) ∈ W := by rw [← hW]; exact .head _
  have mD : (d, dictOf [⟨k1, .str "majors" t1, .ref mj⟩, ⟨k2, .str "minors" t2, .ref mi⟩, ⟨k3, .str "order" t3, .ref od⟩] 3) ∈ W := by rw [← hW]; exact .tail _ (.head _)
  have mM : (mj, oM) ∈ W := by rw [← hW]; exact .tail _ (.tail _ (.head _))
  have mQ : ∀ q ∈ l, (q.M, instObj 58 q.d) ∈ W ∧ (q.d, dictOf [⟨q.h1, .str "symbol" q.t1, .int q.k q.tk⟩, ⟨q.h2, .str "title" q.t2, .str "m" q.tm⟩, ⟨q.h3, .str "parent" q.t3, .int (q.k - 1) q.tp⟩, ⟨q.h4, .str "keymap" q.t4, .none⟩, ⟨q.h5, .str "syntax" q.t5, .none⟩, ⟨q.h6, .str "body" q.t6, .none⟩, ⟨q.h7, .str "hook" q.t7, .none⟩] 7) ∈ W := fun q hq => by
    rw [← hW]
    exact ⟨.tail _ (.tail _ (.tail _ (List.mem_flatMap.mpr ⟨q, hq, .head _⟩))), .tail _ (.tail _ (.tail _ (List.mem_flatMap.mpr ⟨q, hq, .tail _ (.head _)⟩)))⟩
  rw [hW] at hh nd' hk I
  refine hGG ?_; clear hGG GG nd
  have N := I.news (hid := W) (fun p hp => ⟨List.mem_map_of_mem hp, hh p hp⟩)
  have F := I.F
  refine wpAny_call ?_
  refine enter (K := hd.heap_1 w.params) (f := 111) (cl := []) B F X0 T N rfl rfl hke ((X0.keeps F.keep) _ _ (by k_is)) rfl (codeRec_of (X0.keeps F.keep) (by k_is)) (by k_room) (BindsTo.of_eq rfl) (locs rfl) ?_ (by decide) rfl rfl rfl
  intro g' L' h' keep gone fresh F' N' B' X' T' lt
  clear N F B X0 T
  try dsimp only
  repeat' ((fail_if_success (with_reducible show wpAny _ _ (PySem.exec (Stmt.While _ _ _ _) _) _ _ _)); first | (k_unfold; (try dsimp only)) | walk1 | (dsimp only; walk1) | fail "no step")
  (with_reducible rename News _ _ _ _ => NN)
  (with_reducible rename Fr _ _ _ _ => FF)
  rename_i l' h1 s1' D' h2 s2' h3 h4 h5
  refine whl_start 1 ?_
  refine ind4 (P := WhlRest _ _ _ _ _ _ _ _ _ 1) (fun n s1 => ∃ vs ns c ta h tk mm oD', s1 = Shared.mk h s.gens s.drawn tk s.os ∧ Fr g' L' h mm ∧ mm (Str.ofString "found") = some (.ref l') ∧ mm (Str.ofString "at") = some (.int ((n : Int) - 1) ta) ∧ mm (Str.ofString "self") = some (.ref TB) ∧
    News g' L' h ((D', oD') :: (l', listOf vs.toArray c) :: W) ∧ IntsAre vs ns ∧ (∀ x ∈ ns, (n : Int) ≤ x) ∧ ns ++ (rangeKs 0 n).reverse = (rangeKs 0 (k + 1).toNat).reverse ∧ n ≤ 4 ∧ vs.length + n ≤ 4) ?_ (k + 1).toNat _
    ⟨[], [], 0, t, _, _, _, _, rfl, FF, rfl, by rw [show (((k + 1).toNat : Int) - 1) = k by omega]; rfl, rfl, NN, .nil, fun _ h => (nomatch h), rfl, by omega, by simp; omega⟩
  rintro n s1 ⟨vs, ns, c, ta, h, tk, mm, oD', rfl, F1, e1, e2, e3, N1, iv, lo1, ens, hn, hlen⟩ IH
  clear FF NN
  cases n with
  | zero =>
    have e2' : mm (Str.ofString "at") = some (.int (-1) ta) := e2
    clear IH e2
    repeat' (first | (k_unfold; (try dsimp only)) | walk1 | (dsimp only; walk1) | fail "no step")
    all_goals (repeat' (first | k_unfold | (dsimp only)))
    (with_reducible rename News _ _ _ _ => NN)
    (with_reducible rename Fr _ _ _ _ => FF)
    have ens' : ns = (rangeKs 0 (k + 1).toNat).reverse := by rw [← ens]; simp [rangeKs]
    refine leafList (fun _ => rfl) table_good I keep gone (fun p hp => ⟨List.mem_map_of_mem hp, hh p hp⟩) hk FF NN (fun p hp => .tail _ (.tail _ hp)) (vs := vs) (.tail _ (.head _)) (fun p hp => Nat.ne_of_lt (s1'.lt _ (List.mem_map_of_mem hp))) (ens' ▸ iv)
  | succ n =>
    have e2' : mm (Str.ofString "at") = some (.int (n : Int) ta) := by rw [e2, show (((n + 1 : Nat) : Int) - 1) = n by omega]
    obtain ⟨q, hq, hqk, hqv⟩ := table_at ks (n := n) (by omega)
    obtain ⟨mq1, mq2⟩ := mQ q hq
    clear e2
    walk1
    repeat' ((fail_if_success (with_reducible show WhlRest _ _ _ _ _ _ _ _ _ _ _)); (fail_if_success (with_reducible show wpAny _ _ (PySem.call (Value.ref 38) _) _ _ _)); first | (k_unfold; (try dsimp only)) | walk1 | (dsimp only; walk1) | fail "no step")
    · have ea : List.any ns (fun y => y == (n : Int)) = true := by assumption
      obtain ⟨x, hx, e⟩ := List.any_eq_true.mp ea
      have := lo1 x hx
      rw [beq_iff_eq.mp e] at this
      exact absurd this (by omega)
    · (with_reducible rename News _ _ _ _ => NN)
      (with_reducible rename Fr _ _ _ _ => FF)
      have ep : (vs ++ [Value.int (n : Int) ta]).toArray = vs.toArray.push (Value.int (n : Int) ta) := by simp
      rw [← ep] at NN
      refine IH n _ (Nat.lt_succ_self n) ⟨vs ++ [.int n ta], ns ++ [(n : Int)], c + 1, q.tp, _, _, _, oD', rfl, FF, ?_, ?_, ?_, NN, IntsAre.append iv (.cons _ _ .nil), ?_, ?_, by omega, by rw [List.length_append]; simp; omega⟩
      · show (if _ then _ else _) = _
        rw [if_neg (by decide)]; exact e1
      · show (if _ then _ else _) = _
        rw [if_pos rfl, hqk]
      · show (if _ then _ else _) = _
        rw [if_neg (by decide)]; exact e3
      · intro x hx
        rcases List.mem_append.mp hx with h | h
        · have := lo1 x h; omega
        · rw [List.mem_singleton.mp h]; omega
      · rw [← ens, rangeKs_succ, List.append_assoc]; rfl
end
section
section
theorem wtSteps : True := by
  w_top off
  trivial
theorem kwSteps1 : True := by
  k_with_none
  k_with "W1" => ((fail_if_success (with_reducible show wpAny _ _ (PySem.call (Value.ref _) _ _) _ _ _)); (fail_if_success (with_reducible show wpAny _ _ (pyIter _) _ _ _)); (fail_if_success (with_reducible show wpAny _ _ (PySem.exec (Stmt.For _ _ _ _ _) _) _ _ _)); first | (k_unfold; (try dsimp only)) | walk1 | (dsimp only; walk1) | fail "no step")
  k_with "k_enter" => (first | (refine' code_def (by k_asm) (by k_asm) (by k_asm) (by k_asm) (by k_asm) rfl rfl (by first | exact rfl | assumption) (by k_is) (by k_is) (by k_room) (by first | exact BindsTo.of_eq rfl | exact binds_K (by k_in) rfl (by k_is) rfl rfl rfl) (by exact locs rfl) ?_ (by exact rfl) (by exact rfl) (by exact rfl) (by decide); k_whole; intro _ _ _ _ _ _ Bz9 _ _; (try dsimp only); (try k_lift Bz9); (try k_fold)) | (refine' code_defC (by k_asm) (by k_asm) (by k_asm) (by k_asm) (by k_asm) rfl rfl (by first | exact rfl | assumption) (by k_is) (by k_is) (by k_room) (by first | exact BindsTo.of_eq rfl | exact binds_K (by k_in) rfl (by k_is) rfl rfl rfl) (by exact rfl) (by decide +kernel) ?_ (by exact rfl) (by exact rfl) (by exact rfl); k_whole; intro _ _ _ _ _ _ _ Nz9 Yz9 Bz9 _ _ lz9; (try k_lt lz9); k_cells Yz9; (try simp only [List.cons_append, List.nil_append] at Nz9); (try dsimp only); (try k_lift Bz9); (try k_fold)) | fail)
  k_with "execs cons" => (k_fold; (first | show wpAny _ AB (PySem.execs _ eB) _ _ _ | (show (let eB := _; let AB := _; wpAny _ AB (PySem.execs _ eB) _ _ _); intro eB AB)); refine wpAny_execs_cons ?_)
  k_with "omega" => first | exact Nat.le_of_ble_eq_true rfl | with_reducible assumption | exact Mine.o1 (by with_reducible assumption) (by exact rfl) | exact Mine.o3 (by with_reducible assumption) (by exact rfl) | exact Mine.o2 (by with_reducible assumption) (by exact rfl) | exact Mine.o4 (by with_reducible assumption) (by exact rfl) | exact Mine.o5 (by with_reducible assumption) (by exact rfl) | exact Mine.o6 (by with_reducible assumption) (by exact rfl) | exact Mine.o7 (by with_reducible assumption) (by exact rfl) | exact Mine.o8 (by with_reducible assumption) (by exact rfl) | exact Mine.o9 (by with_reducible assumption) (by exact rfl) | exact Mine.o10 (by with_reducible assumption) (by exact rfl) | exact Mine.o11 (by with_reducible assumption) (by exact rfl) | exact Mine.o12 (by with_reducible assumption) (by exact rfl) | exact Mine.o13 (by with_reducible assumption) (by exact rfl) | exact Nat.ne_of_lt (by with_reducible assumption) | exact Nat.ne_of_gt (by with_reducible assumption) | exact Nat.le_of_lt (by with_reducible assumption) | fail
  k_with "tlg_ne" => first | exact List.Mem.head _ | (apply List.Mem.tail; tlg_ne) | (apply List.mem_append_left; tlg_ne) | (apply List.mem_append_right; tlg_ne)
  k_with "lcg_off" => first | exact List.Subset.refl _ | exact List.nil_subset _ | (refine List.Sublist.subset ?_; (repeat first | exact List.Sublist.refl _ | apply List.Sublist.cons_cons | apply List.Sublist.cons); done) | (refine Mine.subC ?_ ?_; (focus tlg_ne); lcg_off) | (refine Mine.subA ?_ ?_ <;> lcg_off) | (apply List.subset_cons_of_subset; lcg_off) | (apply List.subset_append_of_subset_left; lcg_off) | (apply List.subset_append_of_subset_right; lcg_off)
  trivial
def StepsV (v : Value) (ps : List (Int × Int)) : Comp := fun fp h => ∃ D c TT, v = .ref D ∧ fp = D :: TT.map (·.1) ∧ (D :: TT.map (·.1)).Nodup ∧ Holds h ((D, listOf (refs TT).toArray c) :: TT) ∧ PairsA ps TT
theorem steps_good {v : Value} {ps : List (Int × Int)} : Good (StepsV v ps) where
  nodup := by rintro fp h ⟨D, c, TT, rfl, rfl, nd, _⟩; exact nd
  alive := by
    rintro fp h ⟨D, c, TT, rfl, rfl, nd, hh, _⟩ a ha
    rcases List.mem_cons.mp ha with rfl | ha
    · exact ⟨_, hh _ (.head _)⟩
    · obtain ⟨p, hp, rfl⟩ := List.mem_map.mp ha
      exact ⟨_, hh p (.tail _ hp)⟩
  keeps := by
    rintro fp h h' ⟨D, c, TT, rfl, rfl, nd, hh, ev⟩ k
    refine ⟨D, c, TT, rfl, rfl, nd, fun p hp => ?_, ev⟩
    rcases List.mem_cons.mp hp with rfl | hp
    · exact k _ _ (.head _) (hh _ (.head _))
    · exact k _ _ (.tail _ (List.mem_map_of_mem hp)) (hh p (.tail _ hp))
theorem own_steps {v : Value} {ps : List (Int × Int)} {ws : List (Addr × Obj)} {h : Heap} (O : Own (StepsV v ps) ws) (hh : Holds h ws) : ∃ D c TT, v = .ref D ∧ ws = (D, listOf (refs TT).toArray c) :: TT ∧ (D :: TT.map (·.1)).Nodup ∧ PairsA ps TT := by
  refine hideG fun GG hGG => ?_
  obtain ⟨D, c, TT, rfl, e, nd, k, ev⟩ := O h hh
  refine hGG ?_; clear hGG GG
  exact ⟨D, c, TT, rfl, same_list (h := h) (by simpa using e) hh k, nd, ev⟩
theorem steps_own {D : Addr} {ps : List (Int × Int)} {c : Nat} {TT : List (Addr × Obj)} (nd : (D :: TT.map (·.1)).Nodup) (ev : PairsA ps TT) : Own (StepsV (.ref D) ps) ((D, listOf (refs TT).toArray c) :: TT) := fun _ hh => ⟨D, c, TT, rfl, rfl, nd, hh, ev⟩
def stepsOf (k : Int) : List (Int × Int) := [(0, k), (1, k)] ++ (rangeKs 0 (k + 1).toNat).map (fun i => (2, i)) ++ (rangeKs 0 (k + 1).toNat).map (fun i => (3, i)) ++ [(4, k)]
theorem table_head {prog : Program} {w : World} {TB : Addr} {n : Nat} {ws : List (Addr × Obj)} {h : Heap} (O : Own (TableC prog w TB n) ws) (hh : Holds h ws) : ∃ d mj k1 k2 k3 t1 t2 t3 mi od, (TB, instObj 135 d) ∈ ws ∧ (d, dictOf [⟨k1, .str "majors" t1, .ref mj⟩, ⟨k2, .str "minors" t2, .ref mi⟩, ⟨k3, .str "order" t3, .ref od⟩] 3) ∈ ws := by
  refine hideG fun GG hGG => ?_
  obtain ⟨d, mj, oD, oM, l, rfl, t⟩ := own_table O hh
  obtain ⟨k1, k2, k3, t1, t2, t3, mi, od, rfl⟩ := t.iD
  refine hGG ?_; clear hGG GG
  exact ⟨d, mj, k1, k2, k3, t1, t2, t3, mi, od, .head _, .tail _ (.head _)⟩
section
variable {prog : Program} {w : World} {A : Around} {E : Value → Shared → Prop} {s : Shared} {h₀ : Heap} {L d : Addr} {m : Str → Option Value} {news : List (Addr × Obj)} {g : Obj → List (Addr × Obj)} {Q : Value → Shared → Prop}
theorem ext_R {D b : Addr} {ys ws : List Value} {n n2 : Nat} (F : Fr h₀ L s.heap m) (N : News h₀ L s.heap news) (U : UpdF D (listOf ys.toArray n) news g) (hb : (b, listOf ws.toArray n2) ∈ news) (hsz : ys.length + ws.length ≤ sizeLine)
    (h : ∀ h' n', Fr h₀ L h' m → News h₀ L h' (g (listOf (ys ++ ws).toArray n')) → Q .none { s with heap := h' }) :
    wpAny (model prog w) A (call (.builtin "list.extend") [.ref D, .ref b]) Q E s := by
  refine hideG fun GG hGG => ?_
  obtain ⟨pre, post, rfl, hg, h1, h2⟩ := U.split
  refine hGG ?_; clear hGG GG
  refine extend_in F N h1 h2 (N _ hb).1 (fun h' n' F' N' => ?_) (by rw [List.size_toArray]; omega)
  rw [List.toList_toArray] at N'
  exact h h' n' F' (hg _ ▸ N')
theorem nd_app {l r : List (Addr × Obj)} (hl : (l.map (·.1)).Nodup) (hr : (r.map (·.1)).Nodup) (h : ∀ p ∈ l, ∀ q ∈ r, p.1 ≠ q.1) : ((l ++ r).map (·.1)).Nodup := by
  rw [List.map_append]
  refine List.nodup_append.mpr ⟨hl, hr, fun x hx y hy e => ?_⟩
  refine hideG fun GG hGG => ?_
  obtain ⟨p, hp, rfl⟩ := List.mem_map.mp hx
  obtain ⟨q, hq, e2⟩ := List.mem_map.mp hy
  refine hGG ?_; clear hGG GG
  exact h p hp q hq (e.trans e2.symm)
theorem refs_append {a b : List (Addr × Obj)} : refs (a ++ b) = refs a ++ refs b := by simp [refs]
theorem slack_offs {T : Addr} {l : List (Addr × Obj)} (h : ∀ p ∈ l, @LT.lt Nat _ p.1 T) : ∀ p ∈ l, p.1 ≠ T := fun p hp => Nat.ne_of_lt (h p hp)
end
set_option maxHeartbeats 2000000
theorem kwSteps2 : True := by
  k_with "k_room" => ((try simp only [depth_mark, depth_under_make, depth_under_kw, depth_in1, depth_deeper]); first | assumption | (show _ < 1000; (try dsimp only); omega))
  k_with "k_ne" => ((refine neN ?_); (try dsimp only); first | assumption | exact Ne.symm (by assumption))
  k_with "compareOp In int ref" => (k_here; k_dflt (first | (refine' in_C (by k_asm) (by k_mem) (by k_asm) (by k_asm) (by k_asm) ?_) | (refine' in_I (by k_asm) (by k_mem) (by k_asm) (by k_asm) (by k_asm) ?_) | (refine' in_B (by k_asm) (by k_mem) (by k_asm) (by k_asm) (by k_asm) ?_)))
  k_with "compareOp NotIn int ref" => (k_here; k_dflt ( (refine' notin_C (by k_asm) (by k_mem) (by k_asm) (by k_asm) (by k_asm) ?_)))
  k_with "call builtin:dict.get" => (k_here; k_dflt (first | (refine' get_I (by k_asm) (by k_mem) (by k_asm) (by k_asm) (by k_asm) ?_; refine ⟨fun _ _ _ => ?_, fun _ => ?_⟩) | (refine' get_B (by k_asm) (by k_mem) (by k_asm) (by k_asm) (by k_asm) ?_; (try simp only [Bool.or_false]))))
  k_with "getMethod ref" => (k_here; (with_reducible show wpAny _ _ (getMethod (Value.ref _) (Str.ofString "get") _) _ _ _); k_dflt (refine' kdg_method (knd := PySem.intKind _ _) (by k_asm) (by k_mem) (by k_asm) ?_))
  k_with "subscriptTail" => (k_here; (with_reducible show wpAny _ _ (subscriptTail _ _ (Value.ref _) (Value.int _ _)) _ _ _); k_dflt (refine' item_C (by k_asm) (by k_mem) (by k_asm) (by k_asm) (by k_asm) ?_ (by with_unfolding_all rfl); intro _ _ _ _))
  k_with "setItem ref int" => (k_here; k_dflt (refine' kda_set (knd := PySem.intKind _ _) (by k_asm) (by k_asm) (by k_updF) (by k_asm) (intKind_is _ _ _ _) (by exact KOK.line (by k_asm) (by k_asm)) ?_; intro hz9 oz9 Fz9 Nz9 hdz9; (try dsimp only at Nz9); (try k_sweep); revert hz9 oz9 Fz9 Nz9 hdz9; intro _ _ _ _ _))
  trivial
variable {prog : Program} {w : World} {p : Program} {loose : List Str} {mean : ExcName → Option Value} {mg mb : Str → Option Value}
theorem kwSteps3 : True := by
  k_with "CompSrcT" => (k_here; k_dflt (first | (refine' LCt.CompSrcT.ledger rfl (by k_asm) (by k_asm) (by k_mem) (by k_asm) ?_) | (refine' LCt.CompSrcT.base rfl (by k_asm) (by k_asm) (by k_asm) (by k_asm) ?_)); intro _; k_dflt (refine' flt_rest (by k_asm) (by k_asm) (by first | exact .inl (by k_asm) | exact .inr ⟨_, by k_mem, rfl, _, rfl⟩) rfl rfl (by decide) (fun _ _ _ _ _ _ _ _ _ _ _ _ _ _ _ _ _ _ _ => ?_) (fun _ _ => ?_)); (all_goals (try (simp only [LCg.Off3, and_true] at off'))))
  k_with "FltT" => (k_here; k_dflt (refine' flt_t (by k_asm) (by k_asm) (by intro pz9 hpz9; first | exact hpz9 | exact .tail _ hpz9 | exact .tail _ (.tail _ hpz9) | exact .tail _ (.tail _ (.tail _ hpz9))) ?_); (try rfl))
  k_with "call type:list" => (k_here; k_dflt (refine' list_D rfl (by k_asm) (by k_asm) (by k_mem) (by k_asm) (by k_asm) (by k_asm) ?_); intro Bz9 cz9 hz9 tkz9 vsz9 Fz9 Nz9 l1z9 hiz9 h64z9 hszz9; (try k_lt l1z9); (try k_sweep); revert Bz9 cz9 hz9 tkz9 vsz9 Fz9 Nz9 l1z9 hiz9 h64z9 hszz9; intro _ _ _ _ _ _ _ _ _ _ _)
  k_with "call builtin:sorted" => (k_here; k_dflt (refine' sorted_L (by k_asm) (by k_asm) (by k_mem) (by k_asm) (by k_asm) ?_); intro Bz9 vsz9 nsz9 cz9 hz9 Fz9 Nz9 l1z9 hiz9 hpmz9 h64z9 hszz9; (try k_lt l1z9); (try k_sweep); revert Bz9 vsz9 nsz9 cz9 hz9 Fz9 Nz9 l1z9 hiz9 hpmz9 h64z9 hszz9; intro _ _ _ _ _ _ _ _ _ _ _ _)
  k_with "call builtin:dict.pop" => (k_here; k_dflt (refine' pop_C (by k_asm) (by k_asm) (by k_updF) (by k_asm) (by k_asm) (by k_asm) ?_); intro hz9 oz9 vz9 Fz9 Nz9 hdz9; (try dsimp only at Nz9); (try k_sweep); revert hz9 oz9 vz9 Fz9 Nz9 hdz9; intro _ _ _ _ _ _)
  k_with "getMethod ref" => (k_here; (with_reducible show wpAny _ _ (getMethod (Value.ref _) (Str.ofString "pop") _) _ _ _); k_dflt (refine' popm_D (by k_asm) (by k_mem) (by k_asm) ?_))
  k_with "eval Name" => (k_here; k_dflt (refine' nameX_L (by k_asm) (by first | exact rfl | assumption) ?_ (by rfl) (by rfl); k_whole))
  k_with "k_ne" => ((refine neN ?_); (try dsimp only); first | assumption | exact Ne.symm (by assumption) | omega)
  k_with "k_units" => (first | exact Nat.le_of_ble_eq_true rfl | (simp only [ktrTop, units_deeper, units_in1, cLine_is]; omega) | ((try dsimp only [ktrTop, Around.deeper, Around.in1, Around.under]); rw [cLine_is]; omega))
  k_with "compareOp In int ref" => (k_here; k_dflt (first | (refine' in_list_ints (by first | exact led_list (by k_asm) (by k_mem) | exact base_list (by k_asm) (by k_asm)) (by first | k_asm | exact .cons _ _ .nil | exact .nil) ?_; k_whole) | (refine' in_E (by k_asm) (by k_asm) (by k_asm) (by k_asm) ?_)))
  k_with "compareOp NotEq ref ref" => (k_here; k_dflt (refine' ne_E (by k_asm) (by k_mem) (by k_mem) (by k_asm) (by k_asm) (by k_asm) (by k_asm) (by k_units) ?_))
  k_with "binaryOp Add ref ref" => (k_here; k_dflt (refine' add_L (by k_asm) (by k_asm) (by first | exact led_list (by k_asm) (by k_mem) | exact base_list (by k_asm) (by k_asm)) (by first | exact led_list (by k_asm) (by k_mem) | exact base_list (by k_asm) (by k_asm)) (by first | k_asm | exact .cons _ _ .nil | exact .nil) (by first | k_asm | exact .cons _ _ .nil | exact .nil) (by first | k_asm | (simp only [List.length_cons, List.length_nil, sizeLine_eq]; omega)) ?_); intro hz9 Dz9 Fz9 Nz9 l1z9 hiz9; (try k_lt l1z9); (try k_sweep); revert hz9 Dz9 Fz9 Nz9 l1z9 hiz9; intro _ _ _ _ _ _)
  k_with "call builtin:dict.get" => (k_here; k_dflt (first | (refine' get_V (by k_asm) (by k_mem) (by k_asm) (by k_asm) (by first | k_asm | exact vaSame _ _ _) ?_) | (refine' get_N (by k_asm) (by k_mem) (by k_asm) (by k_asm) (by k_asm) ?_)))
  k_with "call type:list" => (k_here; k_dflt (refine' copy_L (by k_asm) (by k_asm) (by k_mem) (by k_asm) ?_); intro Bz9 cz9 hz9 tkz9 Fz9 Nz9 l1z9; (try k_lt l1z9); (try k_sweep); revert Bz9 cz9 hz9 tkz9 Fz9 Nz9 l1z9; intro _ _ _ _ _ _ _)
  k_with "call builtin:list.extend" => (k_here; k_dflt (refine' ext_L (by k_asm) (by k_asm) (by k_updF) (by k_mem) (by first | k_asm | exact .cons _ _ .nil | exact .nil) (by first | k_asm | exact .cons _ _ .nil | exact .nil) (by first | k_asm | (simp only [List.length_cons, List.length_nil, sizeLine_eq]; omega)) ?_); intro hz9 nz9 Fz9 Nz9 hiz9; (try dsimp only at Nz9); (try k_sweep); revert hz9 nz9 Fz9 Nz9 hiz9; intro _ _ _ _ _)
  k_with "k_all" => with_reducible assumption
  k_with "subscriptTail" => (k_here; (with_reducible show wpAny _ _ (subscriptTail _ _ (Value.ref _) (Value.int _ _)) _ _ _); k_dflt (refine' item_V (by k_asm) (by k_mem) (by k_asm) (by k_asm) ?_ (by with_unfolding_all rfl)))
  k_with "compareOp Eq ref ref" => (k_here; k_dflt (refine' ke_eq_ints (by first | exact led_list (by k_asm) (by k_mem) | exact base_list (by k_asm) (by k_asm)) (by first | exact led_list (by k_asm) (by k_mem) | exact base_list (by k_asm) (by k_asm)) (by first | k_asm | exact .cons _ _ .nil | exact .nil) (by first | k_asm | exact .cons _ _ .nil | exact .nil) (by k_units) ?_))
  k_with "k_mem" => (with_reducible refine memOf ?_; with_reducible assumption)
  k_with "subscriptTail" => (k_here; (with_reducible show wpAny _ _ (subscriptTail _ _ (Value.ref _) (Value.str _ _)) _ _ _); k_dflt (refine' item_S (by k_asm) (by k_mem) (by k_asm) (by rfl) ?_ (by with_unfolding_all rfl)))
  k_with "call builtin:list.append" => (k_here; (with_reducible show wpAny _ _ (call (Value.builtin _) [Value.ref _, _]) _ _ _); k_dflt (refine' app_T (by k_asm) (by k_asm) (by k_updF) (by k_asm) ?_); intro hz9 Fz9 Nz9; (try dsimp only at Nz9); (try k_sweep); revert hz9 Fz9 Nz9; intro _ _ _)
  k_with "call builtin:len" => (k_here; (with_reducible show wpAny _ _ (call (Value.builtin _) [Value.ref _]) _ _ _); k_dflt (refine' len_T (by k_asm) (by k_mem) (by first | k_asm | (simp only [List.length_append, List.length_cons, List.length_nil]; k_asm)) ?_))
  k_with "call builtin:list.extend" => (k_here; k_dflt (refine' ext_R (by k_asm) (by k_asm) (by k_updF) (by k_mem) (by k_asm) ?_); intro hz9 nz9 Fz9 Nz9; (try dsimp only at Nz9); (try k_sweep); revert hz9 nz9 Fz9 Nz9; intro _ _ _ _)
  trivial
theorem switch_steps_s {TB : Addr} {t : Tok} {k : Int} (h0 : 0 ≤ k) (h9 : k < 4) : Spec prog w p loose mean mg mb 10 172 [.ref TB, .int k t] (TableC prog w TB 4) (fun v => Star (TableC prog w TB 4) (StepsV v (stepsOf k))) := by
  intro dp un gd cn cs a ccd cl outer A₀ base h₀ L m s Q E fp B X0 T hke hdp hu I hk
  refine hideG fun GG hGG => ?_
  obtain ⟨ws, hws, hHolds, O⟩ := own_of table_good I.C
  have F := I.F
  have N := I.news (hid := ws) (fun p hp => ⟨hws ▸ List.mem_map_of_mem hp, hHolds p hp⟩)
  obtain ⟨d, mj, k1, k2, k3, t1, t2, t3, mi, od, mm1, mm2⟩ := table_head O hHolds
  refine hGG ?_; clear hGG GG
  refine wpAny_call ?_
  refine enter (K := hd.heap_1 w.params) (f := 172) (cl := []) B F X0 T N rfl rfl hke ((X0.keeps F.keep) _ _ (by k_is)) rfl (codeRec_of (X0.keeps F.keep) (by k_is)) (by k_room) (BindsTo.of_eq rfl) (locs rfl) ?_ (by decide) rfl rfl rfl
  intro g' L' h' keep gone fresh F' N' B' X' T' lt
  clear N F B X0 T
  try dsimp only
  repeat' (k_extra "W1")
  change wpAny _ (ktrTop (dp + 1) (un + 3) gd _ _ L' 172 _ [] (envX cn cs L a ccd cl :: outer)) _ _ _ _
  (with_reducible rename News _ _ _ _ => NN)
  (with_reducible rename Fr _ _ _ _ => FF)
  refine call_W (own := []) (ws := ws) (Spec.toS (line_of_s (prog := prog) (w := w) (p := p) (loose := loose) (mean := mean) (mg := mg) (mb := mb) h0 h9)) (St := []) (fun v => Star.good table_good listV_good) B' X' T' rfl (by omega) (by omega) FF NN O (fun q hq => nomatch hq) (fun q hq => nomatch hq) ?_
  intro v1 hp1 tk1 ws1 F1 N1 O1 _
  refine hideG fun GG hGG => ?_
  obtain ⟨wt, wl, rfl, Ot, Ol, dis1⟩ := own_star table_good listV_good (fun p hp => (N1 p hp).1) O1
  obtain ⟨DL, vs, c, rfl, rfl, iv⟩ := own_listV Ol (fun p hp => (N1 p (List.mem_append_right _ (List.mem_append_right _ hp))).1)
  refine hGG ?_; clear hGG GG
  have N2 : News g' L' hp1 ((DL, listOf vs.toArray c) :: wt) := fun p hp => N1 p (by
    refine subOf ?_ hp; (try simp only [List.nil_append, List.cons_append]); lcg_off)
  have offL : ∀ p ∈ wt, p.1 ≠ DL := fun p hp e => dis1 p hp (by simp [e])
  clear N1 NN O1 mm1 mm2
  generalize hns : rangeKs 0 (k + 1).toNat = ns at iv
  have hnl : ns.length ≤ 4 := by rw [← hns, rangeKs_length]; omega
  have hvl : vs.toArray.size ≤ sizeLine := by rw [List.size_toArray, iv.length, List.length_reverse, sizeLine_eq]; omega
  dsimp only
  repeat' ((fail_if_success (with_reducible show wpAny _ _ (eval (PySem.Expr.ListComp _ _ _ _) _) _ _ _)); (fail_if_success (with_reducible show wpAny _ _ (PySem.call (Value.ref _) _ _) _ _ _)); (fail_if_success (with_reducible show wpAny _ _ (pyIter _) _ _ _)); (fail_if_success (with_reducible show wpAny _ _ (PySem.exec (Stmt.For _ _ _ _ _) _) _ _ _)); first | (k_unfold; (try dsimp only)) | walk1 | (dsimp only; walk1) | fail "no step")
  (with_reducible rename News _ _ _ _ => NN)
  (with_reducible rename Fr _ _ _ _ => FF)
  (with_reducible rename IntsAre _ (List.reverse (List.reverse _)) => iv2)
  (with_reducible rename _ ∧ _ ∧ _ ∧ _ ∧ AllLt _ _ => b1)
  (with_reducible rename _ ∧ _ ∧ _ ∧ AllLt _ _ => b2)
  (with_reducible rename _ ∧ _ ∧ AllLt _ _ => b3)
  (with_reducible rename _ ∧ AllLt _ _ => b4)
  rename_i DR wr _ _ _ _ T0 _ T1 _ DF _ _
  rw [List.reverse_reverse] at iv2
  refine hideG fun GG hGG => ?_
  obtain ⟨c1, c2, c3, c4, c5⟩ := b1
  obtain ⟨c6, c7, c8, c9⟩ := b2
  obtain ⟨d1, d2, d3⟩ := b3
  obtain ⟨d4, d5⟩ := b4
  refine hGG ?_; clear hGG GG
  have hwl : wr.toArray.size ≤ sizeLine := by rw [List.size_toArray, iv2.length, sizeLine_eq]; omega
  refine LCg.ListComp_U (F₀ := by k_asm) (by rfl) (by decide) (by rfl) (by decide) (by rfl) ?_
  repeat' ((fail_if_success (with_reducible show wpAny _ _ (eval (PySem.Expr.ListComp _ _ _ _) _) _ _ _)); (fail_if_success (with_reducible show wpAny _ _ (PySem.call (Value.ref _) _ _) _ _ _)); (fail_if_success (with_reducible show wpAny _ _ (pyIter _) _ _ _)); (fail_if_success (with_reducible show wpAny _ _ (PySem.exec (Stmt.For _ _ _ _ _) _) _ _ _)); first | (k_unfold; (try dsimp only)) | walk1 | (dsimp only; walk1) | fail "no step")
  refine LCg.CompSrc.ledger (k := 0) rfl (by k_asm) (by k_asm) (show (DR, _) ∈ _ by k_mem) hwl (fun gg => tup_rest (c := 2) iv2 (fun tt => .inr ⟨_, List.mem_append_left _ (show (DR, listOf wr.toArray 0) ∈ _ by k_mem), rfl, _, rfl⟩) ?_ ?_)
  · intro k1 t1 I1 oI1 C1 oC1 D1 mm1 ys1 hh1 tk1 tt1 E1 hk1 hC1 hx1 F1 N1 ne1
    simp only [List.cons_append] at N1 ⊢
    repeat' ((fail_if_success (with_reducible show wpAny _ _ (eval (PySem.Expr.ListComp _ _ _ _) _) _ _ _)); (fail_if_success (with_reducible show wpAny _ _ (PySem.call (Value.ref _) _ _) _ _ _)); (fail_if_success (with_reducible show wpAny _ _ (pyIter _) _ _ _)); (fail_if_success (with_reducible show wpAny _ _ (PySem.exec (Stmt.For _ _ _ _ _) _) _ _ _)); first | (k_unfold; (try dsimp only)) | walk1 | (dsimp only; walk1) | fail "no step")
    rename_i TT1 hT1 FF1 NN1 lt1
    exact ⟨_, _, _, 0, _, _, rfl, rfl, FF1, NN1, allLt_mem lt1⟩
  · intro tt2 htt2 nd2 ds2 D2 h3 tk3 F3 N3 off4
    simp only [List.cons_append] at N3
    have hr2F : ∀ p ∈ wt ++ tt2, p.1 ≠ DF := fun p hp => by
      rcases List.mem_append.mp hp with hp | hp
      · exact allLt_mem c5 p hp
      · exact ds2 p hp (DF, _) (.head _)
    have hD2 : @Ne Nat DF D2 := off4.1
    have l2 : (refs tt2).length = ns.length := by unfold refs; rw [List.length_map, htt2.length, List.length_map]
    have hz2 : [Value.ref T0, Value.ref T1].length + (refs tt2).length ≤ sizeLine := by rw [l2, sizeLine_eq]; simp; omega
    have ds2' : ∀ p ∈ tt2, p.1 ≠ T0 ∧ p.1 ≠ T1 := fun p hp => ⟨ds2 p hp (T0, _) (.tail _ (.tail _ (.head _))), ds2 p hp (T1, _) (.tail _ (.head _))⟩
    have ds2w : ∀ p ∈ tt2, ∀ q ∈ wt, p.1 ≠ q.1 := fun p hp q hq => ds2 p hp q (.tail _ (.tail _ (.tail _ (.tail _ (.tail _ hq)))))
    clear ds2 off4
    generalize hr2 : wt ++ tt2 = r2 at N3 hr2F
    dsimp only
    repeat' ((fail_if_success (with_reducible show wpAny _ _ (eval (PySem.Expr.ListComp _ _ _ _) _) _ _ _)); (fail_if_success (with_reducible show wpAny _ _ (PySem.call (Value.ref _) _ _) _ _ _)); (fail_if_success (with_reducible show wpAny _ _ (pyIter _) _ _ _)); (fail_if_success (with_reducible show wpAny _ _ (PySem.exec (Stmt.For _ _ _ _ _) _) _ _ _)); first | (k_unfold; (try dsimp only)) | walk1 | (dsimp only; walk1) | fail "no step")
    refine LCg.ListComp_U (F₀ := by k_asm) (by rfl) (by decide) (by rfl) (by decide) (by rfl) ?_
    repeat' ((fail_if_success (with_reducible show wpAny _ _ (eval (PySem.Expr.ListComp _ _ _ _) _) _ _ _)); (fail_if_success (with_reducible show wpAny _ _ (PySem.call (Value.ref _) _ _) _ _ _)); (fail_if_success (with_reducible show wpAny _ _ (pyIter _) _ _ _)); (fail_if_success (with_reducible show wpAny _ _ (PySem.exec (Stmt.For _ _ _ _ _) _) _ _ _)); first | (k_unfold; (try dsimp only)) | walk1 | (dsimp only; walk1) | fail "no step")
    refine LCg.CompSrc.ledger (k := 0) rfl (by k_asm) (by k_asm) (show (DR, _) ∈ _ by k_mem) hwl (fun gg => tup_rest (c := 3) iv2 (fun tt => .inr ⟨_, List.mem_append_left _ (show (DR, listOf wr.toArray 0) ∈ _ by k_mem), rfl, _, rfl⟩) ?_ ?_)
    · intro k1 t1 I1 oI1 C1 oC1 D1 mm1 ys1 hh1 tk1 tt1 E1 hk1 hC1 hx1 F1 N1 ne1
      simp only [List.cons_append] at N1 ⊢
      repeat' ((fail_if_success (with_reducible show wpAny _ _ (eval (PySem.Expr.ListComp _ _ _ _) _) _ _ _)); (fail_if_success (with_reducible show wpAny _ _ (PySem.call (Value.ref _) _ _) _ _ _)); (fail_if_success (with_reducible show wpAny _ _ (pyIter _) _ _ _)); (fail_if_success (with_reducible show wpAny _ _ (PySem.exec (Stmt.For _ _ _ _ _) _) _ _ _)); first | (k_unfold; (try dsimp only)) | walk1 | (dsimp only; walk1) | fail "no step")
      rename_i TT1 hT1 FF1 NN1 lt1
      exact ⟨_, _, _, 0, _, _, rfl, rfl, FF1, NN1, allLt_mem lt1⟩
    · intro tt3 htt3 nd3 ds3 D3 h5 tk5 F5 N5 off5
      simp only [List.cons_append] at N5
      have mDF : ∀ p ∈ tt3, p.1 ≠ DF := fun p hp => ds3 p hp (DF, _) (.tail _ (.head _))
      have hr3F : ∀ p ∈ r2 ++ tt3, p.1 ≠ DF := fun p hp => by
        rcases List.mem_append.mp hp with hp | hp
        · exact hr2F p hp
        · exact mDF p hp
      have hD3 : @Ne Nat DF D3 := off5.2.1
      have l3 : (refs tt3).length = ns.length := by unfold refs; rw [List.length_map, htt3.length, List.length_map]
      have hz3 : ([Value.ref T0, Value.ref T1] ++ refs tt2).length + (refs tt3).length ≤ sizeLine := by rw [List.length_append, l2, l3, sizeLine_eq]; simp; omega
      have hz4 : (([Value.ref T0, Value.ref T1] ++ refs tt2) ++ refs tt3).length ≤ sizeLine := by rw [List.length_append]; exact hz3
      have ds3' : ∀ p ∈ tt3, p.1 ≠ T0 ∧ p.1 ≠ T1 := fun p hp => ⟨ds3 p hp (T0, _) (.tail _ (.tail _ (.tail _ (.head _)))), ds3 p hp (T1, _) (.tail _ (.tail _ (.head _)))⟩
      have ds32 : ∀ p ∈ tt3, ∀ q ∈ r2, p.1 ≠ q.1 := fun p hp q hq => ds3 p hp q (.tail _ (.tail _ (.tail _ (.tail _ (.tail _ (.tail _ hq))))))
      clear ds3 off5
      generalize hr3 : r2 ++ tt3 = r3 at N5 hr3F
      dsimp only
      repeat' ((fail_if_success (with_reducible show wpAny _ _ (eval (PySem.Expr.ListComp _ _ _ _) _) _ _ _)); (fail_if_success (with_reducible show wpAny _ _ (PySem.call (Value.ref _) _ _) _ _ _)); (fail_if_success (with_reducible show wpAny _ _ (pyIter _) _ _ _)); (fail_if_success (with_reducible show wpAny _ _ (PySem.exec (Stmt.For _ _ _ _ _) _) _ _ _)); first | (k_unfold; (try dsimp only)) | walk1 | (dsimp only; walk1) | fail "no step")
      all_goals (repeat' (first | k_unfold | (dsimp only)))
      (with_reducible rename News _ _ _ _ => NN)
      (with_reducible rename Fr _ _ _ _ => FF)
      (with_reducible rename _ ∧ _ ∧ _ ∧ _ ∧ _ ∧ _ ∧ _ ∧ AllLt _ _ => b9)
      refine hideG fun GG hGG => ?_
      suffices kk : ∀ T4 u0 u1 u4 nF, (@LT.lt Nat _ D3 T4 ∧ @LT.lt Nat _ D2 T4 ∧ @LT.lt Nat _ DF T4 ∧ @LT.lt Nat _ T1 T4 ∧ @LT.lt Nat _ T0 T4 ∧ @LT.lt Nat _ DR T4 ∧ @LT.lt Nat _ DL T4 ∧ AllLt T4 r3) → News g' L' _ ((T4, tupOf [Value.int 4 u4, Value.int k t] 0) :: (D3, LCg.lst (refs tt3)) :: (D2, LCg.lst (refs tt2)) :: (DF, listOf (Value.ref T0 :: Value.ref T1 :: ([] ++ refs tt2) ++ refs tt3 ++ [Value.ref T4]).toArray nF) :: (T1, tupOf [Value.int 1 u1, Value.int k t] 0) :: (T0, tupOf [Value.int 0 u0, Value.int k t] 0) :: (DR, listOf wr.toArray 0) :: (DL, listOf vs.toArray c) :: r3) → GG by exact kk _ _ _ _ _ b9 NN
      intro T4 u0 u1 u4 nF b9 NN
      obtain ⟨_, _, f1, f2, f3, _, _, f4⟩ := b9
      suffices kk : ∀ TTF, TTF = ([(T0, tupOf [Value.int 0 u0, Value.int k t] 0), (T1, tupOf [Value.int 1 u1, Value.int k t] 0)] ++ tt2 ++ tt3) ++ [(T4, tupOf [Value.int 4 u4, Value.int k t] 0)] → GG by exact kk _ rfl
      intro TTF hTTF
      refine hGG ?_; clear hGG GG
      have eR : (Value.ref T0 :: Value.ref T1 :: ([] ++ refs tt2) ++ refs tt3 ++ [Value.ref T4]) = refs TTF := by rw [hTTF]; simp [refs]
      rw [eR] at NN
      have ev : PairsA (stepsOf k) TTF := by
        rw [hTTF]
        unfold stepsOf
        rw [hns]
        exact (((PairsA.cons (.cons .nil)).append htt2).append htt3).append (.cons .nil)
      have hw3 : ∀ p ∈ wt, p ∈ r3 := fun p hp => by rw [← hr3, ← hr2]; exact List.mem_append_left _ (List.mem_append_left _ hp)
      have h23 : ∀ p ∈ tt2, p ∈ r2 := fun p hp => by rw [← hr2]; exact List.mem_append_right _ hp
      have hw2 : ∀ p ∈ wt, p ∈ r2 := fun p hp => by rw [← hr2]; exact List.mem_append_left _ hp
      have h2r3 : ∀ p ∈ tt2, p ∈ r3 := fun p hp => by rw [← hr3]; exact List.mem_append_left _ (h23 p hp)
      have h3r3 : ∀ p ∈ tt3, p ∈ r3 := fun p hp => by rw [← hr3]; exact List.mem_append_right _ hp
      have ndF : (DF :: TTF.map (·.1)).Nodup := by
        refine List.nodup_cons.mpr ⟨fun z => ?_, ?_⟩
        · obtain ⟨p, hp, z⟩ := List.mem_map.mp z
          rw [hTTF] at hp
          simp only [List.mem_append, List.mem_cons, List.not_mem_nil, or_false] at hp
          rcases hp with (((rfl | rfl) | hp) | hp) | rfl
          · exact Nat.ne_of_lt c2 z
          · exact Nat.ne_of_lt c1 z
          · exact hr2F p (h23 p hp) z
          · exact mDF p hp z
          · exact Nat.ne_of_gt f1 z
        · rw [hTTF]
          refine nd_app (nd_app (nd_app ?_ nd2 ?_) nd3 ?_) (by simp) ?_
          · simp only [List.map_cons, List.map_nil, List.nodup_cons, List.mem_cons, List.not_mem_nil, or_false, not_false_eq_true, List.nodup_nil, and_true]
            exact Nat.ne_of_lt c6
          · intro p hp q hq
            simp only [List.mem_cons, List.not_mem_nil, or_false] at hp
            rcases hp with rfl | rfl
            · exact Ne.symm (ds2' q hq).1
            · exact Ne.symm (ds2' q hq).2
          · intro p hp q hq
            simp only [List.mem_append, List.mem_cons, List.not_mem_nil, or_false] at hp
            rcases hp with (rfl | rfl) | hp
            · exact Ne.symm (ds3' q hq).1
            · exact Ne.symm (ds3' q hq).2
            · exact Ne.symm (ds32 q hq p (h23 p hp))
          · intro p hp q hq
            rw [List.mem_singleton.mp hq]
            simp only [List.mem_append, List.mem_cons, List.not_mem_nil, or_false] at hp
            rcases hp with ((rfl | rfl) | hp) | hp
            · exact Nat.ne_of_lt f3
            · exact Nat.ne_of_lt f2
            · exact allLt_mem f4 p (h2r3 p hp)
            · exact allLt_mem f4 p (h3r3 p hp)
      have disF : ∀ p ∈ wt, p.1 ∉ ((DF, listOf (refs TTF).toArray nF) :: TTF).map (·.1) := fun p hp z => by
        obtain ⟨q, hq, z⟩ := List.mem_map.mp z
        rcases List.mem_cons.mp hq with rfl | hq
        · exact allLt_mem c5 p hp z.symm
        · rw [hTTF] at hq
          simp only [List.mem_append, List.mem_cons, List.not_mem_nil, or_false] at hq
          rcases hq with (((rfl | rfl) | hq) | hq) | rfl
          · exact allLt_mem d3 p hp z.symm
          · exact allLt_mem c9 p hp z.symm
          · exact ds2w q hq p hp z
          · exact ds32 q hq p (hw2 p hp) z
          · exact allLt_mem f4 p (hw3 p hp) z.symm
      obtain ⟨z1, z2⟩ := fin_W I hws keep gone FF (ws' := wt ++ (DF, listOf (refs TTF).toArray nF) :: TTF) (fun p hp => NN p (by
        rcases List.mem_append.mp hp with h | h
        · simp [hw3 p h]
        · rcases List.mem_cons.mp h with rfl | h
          · simp
          · rw [hTTF] at h
            simp only [List.mem_append, List.mem_cons, List.not_mem_nil, or_false] at h
            rcases h with (((rfl | rfl) | h) | h) | rfl
            · simp
            · simp
            · simp [h2r3 p h]
            · simp [h3r3 p h]
            · simp)) (star_own Ot (steps_own ndF ev) disF)
      exact hk _ _ _ _ z1 z2
end
end
section
theorem wtClo3 : True := by
  w_top off
  trivial
/-- the buffer's own rows, as the program holds them: each ends by the mark for all buffers -/
def rowsP (rows : Int → Option (List Int)) (k : Int) : Option (List Int) := (rows k).map fun ns => ns ++ [-1]
def RowsOk (rows : Int → Option (List Int)) : Prop := ∀ w ns, rows w = some ns → 0 ≤ w ∧ ns = [30 + w]
theorem called_law {rows : Int → Option (List Int)} (ok : RowsOk rows) (fk : Option (List Int)) (k : Int) : calledA fk (rowsP rows k) = lawCalled fk (rows k) := by
  unfold rowsP
  cases e : rows k with
  | none => simp [calledA, lawCalled]
  | some ns =>
    obtain ⟨h0, rfl⟩ := ok k ns e
    have : ¬ (30 + k = -1) := by omega
    simp [calledA, lawCalled, this]
theorem rowsP_small {rows : Int → Option (List Int)} (ok : RowsOk rows) (k : Int) : ∀ ns, rowsP rows k = some ns → ns.length < 60 := by
  intro ns e
  unfold rowsP at e
  cases e2 : rows k with
  | none => rw [e2] at e; cases e
  | some z =>
    obtain ⟨h0, rfl⟩ := ok k z e2
    rw [e2] at e
    cases e
    simp
/-- the program's side of the law, the modes' state left out -/
abbrev PW (prog : Program) (w : World) (q : LS) (r : RecSt) : Comp := Star (PT prog w q r) (HH prog w q r.every (rowsP r.rows))
theorem pw_good {prog : Program} {w : World} {q : LS} {r : RecSt} : Good (PW prog w q r) := Star.good pt_good hh_good
theorem pw_hook {prog : Program} {w : World} {q : LS} {r : RecSt} {k : Int} (ok : RowsOk r.rows) : Star (PT prog w q (hookedR r k (calledA (r.every k) (rowsP r.rows k)))) (HH prog w q r.every (rowsP r.rows)) = PW prog w q (hookR r k) := by
  rw [called_law ok]
  show _ = Star (PT prog w q (hookR r k)) (HH prog w q (hookR r k).every (rowsP (hookR r k).rows))
  rw [hookR_every, hookR_rows]
  rfl
theorem kwClo31 : True := by
  k_with_none
  k_with "W1" => ((fail_if_success (with_reducible show wpAny _ _ (PySem.call (Value.ref _) _ _) _ _ _)); (fail_if_success (with_reducible show wpAny _ _ (pyIter _) _ _ _)); (fail_if_success (with_reducible show wpAny _ _ (PySem.exec (Stmt.For _ _ _ _ _) _) _ _ _)); first | (k_unfold; (try dsimp only)) | walk1 | (dsimp only; walk1) | fail "no step")
  k_with "k_enter" => (first | (refine' code_def (by k_asm) (by k_asm) (by k_asm) (by k_asm) (by k_asm) rfl rfl (by first | exact rfl | assumption) (by k_is) (by k_is) (by k_room) (by first | exact BindsTo.of_eq rfl | exact binds_K (by k_in) rfl (by k_is) rfl rfl rfl) (by exact locs rfl) ?_ (by exact rfl) (by exact rfl) (by exact rfl) (by decide); k_whole; intro _ _ _ _ _ _ Bz9 _ _; (try dsimp only); (try k_lift Bz9); (try k_fold)) | (refine' code_defC (by k_asm) (by k_asm) (by k_asm) (by k_asm) (by k_asm) rfl rfl (by first | exact rfl | assumption) (by k_is) (by k_is) (by k_room) (by first | exact BindsTo.of_eq rfl | exact binds_K (by k_in) rfl (by k_is) rfl rfl rfl) (by exact rfl) (by decide +kernel) ?_ (by exact rfl) (by exact rfl) (by exact rfl); k_whole; intro _ _ _ _ _ _ _ Nz9 Yz9 Bz9 _ _ lz9; (try k_lt lz9); k_cells Yz9; (try simp only [List.cons_append, List.nil_append] at Nz9); (try dsimp only); (try k_lift Bz9); (try k_fold)) | fail)
  k_with "execs cons" => (k_fold; (first | show wpAny _ AB (PySem.execs _ eB) _ _ _ | (show (let eB := _; let AB := _; wpAny _ AB (PySem.execs _ eB) _ _ _); intro eB AB)); refine wpAny_execs_cons ?_)
  k_with "omega" => first | exact Nat.le_of_ble_eq_true rfl | with_reducible assumption | exact Mine.o1 (by with_reducible assumption) (by exact rfl) | exact Mine.o3 (by with_reducible assumption) (by exact rfl) | exact Mine.o2 (by with_reducible assumption) (by exact rfl) | exact Mine.o4 (by with_reducible assumption) (by exact rfl) | exact Mine.o5 (by with_reducible assumption) (by exact rfl) | exact Mine.o6 (by with_reducible assumption) (by exact rfl) | exact Mine.o7 (by with_reducible assumption) (by exact rfl) | exact Mine.o8 (by with_reducible assumption) (by exact rfl) | exact Mine.o9 (by with_reducible assumption) (by exact rfl) | exact Mine.o10 (by with_reducible assumption) (by exact rfl) | exact Mine.o11 (by with_reducible assumption) (by exact rfl) | exact Mine.o12 (by with_reducible assumption) (by exact rfl) | exact Mine.o13 (by with_reducible assumption) (by exact rfl) | exact Nat.ne_of_lt (by with_reducible assumption) | exact Nat.ne_of_gt (by with_reducible assumption) | exact Nat.le_of_lt (by with_reducible assumption) | fail
  k_with "k_room" => ((try simp only [depth_mark, depth_under_make, depth_under_kw, depth_in1, depth_deeper]); first | assumption | (show _ < 1000; (try dsimp only); omega))
  k_with "k_ne" => ((refine neN ?_); (try dsimp only); first | assumption | exact Ne.symm (by assumption))
  k_with "compareOp In int ref" => (k_here; k_dflt (first | (refine' in_C (by k_asm) (by k_mem) (by k_asm) (by k_asm) (by k_asm) ?_) | (refine' in_I (by k_asm) (by k_mem) (by k_asm) (by k_asm) (by k_asm) ?_) | (refine' in_B (by k_asm) (by k_mem) (by k_asm) (by k_asm) (by k_asm) ?_)))
  k_with "compareOp NotIn int ref" => (k_here; k_dflt ( (refine' notin_C (by k_asm) (by k_mem) (by k_asm) (by k_asm) (by k_asm) ?_)))
  k_with "call builtin:dict.get" => (k_here; k_dflt (first | (refine' get_I (by k_asm) (by k_mem) (by k_asm) (by k_asm) (by k_asm) ?_; refine ⟨fun _ _ _ => ?_, fun _ => ?_⟩) | (refine' get_B (by k_asm) (by k_mem) (by k_asm) (by k_asm) (by k_asm) ?_; (try simp only [Bool.or_false]))))
  k_with "getMethod ref" => (k_here; (with_reducible show wpAny _ _ (getMethod (Value.ref _) (Str.ofString "get") _) _ _ _); k_dflt (refine' kdg_method (knd := PySem.intKind _ _) (by k_asm) (by k_mem) (by k_asm) ?_))
  k_with "subscriptTail" => (k_here; (with_reducible show wpAny _ _ (subscriptTail _ _ (Value.ref _) (Value.int _ _)) _ _ _); k_dflt (refine' item_C (by k_asm) (by k_mem) (by k_asm) (by k_asm) (by k_asm) ?_ (by with_unfolding_all rfl); intro _ _ _ _))
  k_with "setItem ref int" => (k_here; k_dflt (refine' kda_set (knd := PySem.intKind _ _) (by k_asm) (by k_asm) (by k_updF) (by k_asm) (intKind_is _ _ _ _) (by exact KOK.line (by k_asm) (by k_asm)) ?_; intro hz9 oz9 Fz9 Nz9 hdz9; (try dsimp only at Nz9); (try k_sweep); revert hz9 oz9 Fz9 Nz9 hdz9; intro _ _ _ _ _))
  trivial
variable {prog : Program} {w : World} {p : Program} {loose : List Str} {mean : ExcName → Option Value} {mg mb : Str → Option Value}
theorem kwClo32 : True := by
  k_with "eval ListComp" => (k_here; k_dflt (refine LCt.ListComp_T (F₀ := by k_asm) (by with_unfolding_all rfl) (by decide) (by rfl) (by decide) (by rfl) ?_))
  k_with "CompSrcT" => (k_here; k_dflt (first | (refine' LCt.CompSrcT.ledger rfl (by k_asm) (by k_asm) (by k_mem) (by k_asm) ?_) | (refine' LCt.CompSrcT.base rfl (by k_asm) (by k_asm) (by k_asm) (by k_asm) ?_)); intro _; k_dflt (refine' flt_rest (by k_asm) (by k_asm) (by first | exact .inl (by k_asm) | exact .inr ⟨_, by k_mem, rfl, _, rfl⟩) rfl rfl (by decide) (fun _ _ _ _ _ _ _ _ _ _ _ _ _ _ _ _ _ _ _ => ?_) (fun _ _ => ?_)); (all_goals (try (simp only [LCg.Off3, and_true] at off'))))
  k_with "FltT" => (k_here; k_dflt (refine' flt_t (by k_asm) (by k_asm) (by intro pz9 hpz9; first | exact hpz9 | exact .tail _ hpz9 | exact .tail _ (.tail _ hpz9) | exact .tail _ (.tail _ (.tail _ hpz9))) ?_); (try rfl))
  k_with "call type:list" => (k_here; k_dflt (refine' list_D rfl (by k_asm) (by k_asm) (by k_mem) (by k_asm) (by k_asm) (by k_asm) ?_); intro Bz9 cz9 hz9 tkz9 vsz9 Fz9 Nz9 l1z9 hiz9 h64z9 hszz9; (try k_lt l1z9); (try k_sweep); revert Bz9 cz9 hz9 tkz9 vsz9 Fz9 Nz9 l1z9 hiz9 h64z9 hszz9; intro _ _ _ _ _ _ _ _ _ _ _)
  k_with "call builtin:sorted" => (k_here; k_dflt (refine' sorted_L (by k_asm) (by k_asm) (by k_mem) (by k_asm) (by k_asm) ?_); intro Bz9 vsz9 nsz9 cz9 hz9 Fz9 Nz9 l1z9 hiz9 hpmz9 h64z9 hszz9; (try k_lt l1z9); (try k_sweep); revert Bz9 vsz9 nsz9 cz9 hz9 Fz9 Nz9 l1z9 hiz9 hpmz9 h64z9 hszz9; intro _ _ _ _ _ _ _ _ _ _ _ _)
  k_with "call builtin:dict.pop" => (k_here; k_dflt (refine' pop_C (by k_asm) (by k_asm) (by k_updF) (by k_asm) (by k_asm) (by k_asm) ?_); intro hz9 oz9 vz9 Fz9 Nz9 hdz9; (try dsimp only at Nz9); (try k_sweep); revert hz9 oz9 vz9 Fz9 Nz9 hdz9; intro _ _ _ _ _ _)
  k_with "getMethod ref" => (k_here; (with_reducible show wpAny _ _ (getMethod (Value.ref _) (Str.ofString "pop") _) _ _ _); k_dflt (refine' popm_D (by k_asm) (by k_mem) (by k_asm) ?_))
  k_with "eval Name" => (k_here; k_dflt (refine' nameX_L (by k_asm) (by first | exact rfl | assumption) ?_ (by rfl) (by rfl); k_whole))
  k_with "k_ne" => ((refine neN ?_); (try dsimp only); first | assumption | exact Ne.symm (by assumption) | omega)
  k_with "k_units" => (first | exact Nat.le_of_ble_eq_true rfl | (simp only [ktrTop, units_deeper, units_in1, cLine_is]; omega) | ((try dsimp only [ktrTop, Around.deeper, Around.in1, Around.under]); rw [cLine_is]; omega))
  k_with "compareOp In int ref" => (k_here; k_dflt (first | (refine' in_list_ints (by first | exact led_list (by k_asm) (by k_mem) | exact base_list (by k_asm) (by k_asm)) (by first | k_asm | exact .cons _ _ .nil | exact .nil) ?_; k_whole) | (refine' in_E (by k_asm) (by k_asm) (by k_asm) (by k_asm) ?_)))
  k_with "compareOp NotEq ref ref" => (k_here; k_dflt (refine' ne_E (by k_asm) (by k_mem) (by k_mem) (by k_asm) (by k_asm) (by k_asm) (by k_asm) (by k_units) ?_))
  k_with "binaryOp Add ref ref" => (k_here; k_dflt (refine' add_L (by k_asm) (by k_asm) (by first | exact led_list (by k_asm) (by k_mem) | exact base_list (by k_asm) (by k_asm)) (by first | exact led_list (by k_asm) (by k_mem) | exact base_list (by k_asm) (by k_asm)) (by first | k_asm | exact .cons _ _ .nil | exact .nil) (by first | k_asm | exact .cons _ _ .nil | exact .nil) (by first | k_asm | (simp only [List.length_cons, List.length_nil, sizeLine_eq]; omega)) ?_); intro hz9 Dz9 Fz9 Nz9 l1z9 hiz9; (try k_lt l1z9); (try k_sweep); revert hz9 Dz9 Fz9 Nz9 l1z9 hiz9; intro _ _ _ _ _ _)
  k_with "call builtin:dict.get" => (k_here; k_dflt (first | (refine' get_V (by k_asm) (by k_mem) (by k_asm) (by k_asm) (by first | k_asm | exact vaSame _ _ _) ?_) | (refine' get_N (by k_asm) (by k_mem) (by k_asm) (by k_asm) (by k_asm) ?_)))
  k_with "call type:list" => (k_here; k_dflt (refine' copy_L (by k_asm) (by k_asm) (by k_mem) (by k_asm) ?_); intro Bz9 cz9 hz9 tkz9 Fz9 Nz9 l1z9; (try k_lt l1z9); (try k_sweep); revert Bz9 cz9 hz9 tkz9 Fz9 Nz9 l1z9; intro _ _ _ _ _ _ _)
  k_with "call builtin:list.extend" => (k_here; k_dflt (refine' ext_L (by k_asm) (by k_asm) (by k_updF) (by k_mem) (by first | k_asm | exact .cons _ _ .nil | exact .nil) (by first | k_asm | exact .cons _ _ .nil | exact .nil) (by first | k_asm | (simp only [List.length_cons, List.length_nil, sizeLine_eq]; omega)) ?_); intro hz9 nz9 Fz9 Nz9 hiz9; (try dsimp only at Nz9); (try k_sweep); revert hz9 nz9 Fz9 Nz9 hiz9; intro _ _ _ _ _)
  k_with "k_all" => with_reducible assumption
  k_with "subscriptTail" => (k_here; (with_reducible show wpAny _ _ (subscriptTail _ _ (Value.ref _) (Value.int _ _)) _ _ _); k_dflt (refine' item_V (by k_asm) (by k_mem) (by k_asm) (by k_asm) ?_ (by with_unfolding_all rfl)))
  k_with "compareOp Eq ref ref" => (k_here; k_dflt (refine' ke_eq_ints (by first | exact led_list (by k_asm) (by k_mem) | exact base_list (by k_asm) (by k_asm)) (by first | exact led_list (by k_asm) (by k_mem) | exact base_list (by k_asm) (by k_asm)) (by first | k_asm | exact .cons _ _ .nil | exact .nil) (by first | k_asm | exact .cons _ _ .nil | exact .nil) (by k_units) ?_))
  k_with "k_mem" => (with_reducible refine memOf ?_; with_reducible assumption)
  k_with "subscriptTail" => (k_here; (with_reducible show wpAny _ _ (subscriptTail _ _ (Value.ref _) (Value.str _ _)) _ _ _); k_dflt (refine' item_S (by k_asm) (by k_mem) (by k_asm) (by rfl) ?_ (by with_unfolding_all rfl)))
  k_with "call builtin:list.append" => (k_here; (with_reducible show wpAny _ _ (call (Value.builtin _) [Value.ref _, _]) _ _ _); k_dflt (refine' app_T (by k_asm) (by k_asm) (by k_updF) (by k_asm) ?_); intro hz9 Fz9 Nz9; (try dsimp only at Nz9); (try k_sweep); revert hz9 Fz9 Nz9; intro _ _ _)
  k_with "call builtin:len" => (k_here; (with_reducible show wpAny _ _ (call (Value.builtin _) [Value.ref _]) _ _ _); k_dflt (refine' len_T (by k_asm) (by k_mem) (by first | k_asm | (simp only [List.length_append, List.length_cons, List.length_nil]; k_asm)) ?_))
  k_with "eval Name" => (k_here; k_dflt (refine' nameX_FB (by k_asm) (by rfl) (by assumption) (by assumption) ?_ (by rfl) (by rfl) (by decide) (by decide); k_whole))
  k_with "subscriptTail" => (k_here; (with_reducible show wpAny _ _ (subscriptTail _ _ (Value.ref _) (Value.int _ _)) _ _ _); k_dflt (with_unfolding_all refine' item_litK (by exact base_list (by k_asm) (by assumption)) (by decide) (by decide) (by rfl) ?_ (by intros; rfl)))
  k_with "callWith ref" => (k_here; k_dflt (first | ((with_reducible show wpAny _ _ (callWith _ (Value.ref _) _ (backTo _ (starEach [] _)) []) _ _ _); refine' callWith_F0 (by exact fnAt_b (by k_asm) (by assumption) (by assumption)) ?_; k_whole; try dsimp only [List.nil_append, List.cons_append]) | ((with_reducible show wpAny _ _ (callWith _ (Value.ref _) _ (backTo _ (starEach (_ :: _) _)) []) _ _ _); refine' callWith_F (by exact fnAt_b (by k_asm) (by assumption) (by assumption)) ?_; k_whole) | fail))
  k_with "FnAt" => (k_dflt (exact fnAt_b (by k_asm) (by assumption) (by assumption)))
  trivial
theorem hooked_s {q : LS} (ok : q.Ok) {r : RecSt} {k : Int} {t : Tok} (hrow : RowsOk r.rows) (hev : ∀ w ns, r.every w = some ns → ns.length < 60) (htold : r.told.length < 100000) :
    SpecS prog w p loose mean mg mb q.st2 10 q.fH [.int k t] (PW prog w q r) (fun _ => PW prog w q (hookR r k)) := by
  intro dp un gd cn cs a ccd cl outer A₀ base h₀ L m s Q E fp B X0 T hke hdp hu hst I hk
  refine hideG fun GG hGG => ?_
  obtain ⟨ws, hws, hHolds, O⟩ := own_of pw_good I.C
  have F := I.F
  have N := I.news (hid := ws) (fun p hp => ⟨hws ▸ List.mem_map_of_mem hp, hHolds p hp⟩)
  obtain ⟨vsK, tK, hvK, hqK⟩ := ok.codeH
  refine hGG ?_; clear hGG GG
  have hfo := hst (q.fH, q.hooked) (mI 0 rfl)
  have hkc := hst (q.kH, q.xH) (mI 1 rfl)
  refine wpAny_call ?_
  refine enter (K := hd.heap_1 w.params) (f := q.fH) (cl := [("rows", q.cRows), ("hooks", q.cHooks), ("called", q.cCalled)]) B F X0 T N rfl rfl hke hfo.1 rfl ⟨_, _, _, _, rfl, hkc.1, hvK, hqK⟩ (by k_room) (BindsTo.of_eq rfl) (locs rfl) ?_ (by decide) rfl rfl rfl
  intro g' L' h' keep gone fresh F' N' B' X' T' lt
  have S : ∀ p ∈ q.st2, g'.get? p.1 = some p.2 := fun p hp => keep _ _ (hst p hp).1 (hws ▸ (hst p hp).2)
  clear N F B X0 T
  try dsimp only
  try k_fold
  have s1 := S (q.cRows, q.oRows) (mI 2 rfl)
  have s2 := S (q.cHooks, q.oHooks) (mI 3 rfl)
  have s3 := S (q.cCalled, q.oCalled) (mI 4 rfl)
  have ok1 := ok.rows
  have ok2 := ok.hooks
  have ok3 := ok.called
  dsimp only at s1 s2 s3
  repeat' (k_extra "W1")
  change wpAny _ (ktrTop (dp + 1) (un + 3) gd _ _ L' q.fH _ _ (envX cn cs L a ccd cl :: outer)) _ _ _ _
  (with_reducible rename News _ _ _ _ => NN)
  (with_reducible rename Fr _ _ _ _ => FF)
  (with_reducible rename ∀ (p : Addr × Obj), p ∈ ws → @LT.lt Nat _ p.1 _ => hlt0)
  rename_i A hN
  refine call_W (own := [(A, listOf #[Value.int k t] 0)]) (ws := ws) (run_hook_s (prog := prog) (w := w) (p := p) (loose := loose) (mean := mean) (mg := mg) (mb := mb) ok (A := A) (cA := 0) (tA := t) (hev k) (rowsP_small hrow k) htold) (fun v => Star.good pt_good hh_good) B' X' T' rfl (by omega) (by omega) FF NN O (fun p hp => ?_) (fun p hp => ?_) ?_
  · rw [List.mem_singleton.mp hp]
    intro z
    obtain ⟨p', hp', z⟩ := List.mem_map.mp z
    exact Nat.ne_of_lt (hlt0 p' hp') z
  · rcases List.mem_cons.mp hp with rfl | hp
    · exact .inr (.head _)
    · exact .inl (S p (LS.m12 hp))
  intro v2 h2 tk2 ws2 F2 N3 O2 off2
  dsimp only
  repeat' (k_extra "W1")
  repeat' (first | k_unfold | (dsimp only))
  rw [pw_hook hrow] at O2
  obtain ⟨z1, z2⟩ := fin_W I hws keep gone F2 (fun p hp => N3 p (.tail _ hp)) O2
  exact hk _ _ _ _ z1 z2
end
section
section
theorem wtSwP : True := by
  w_top off
  trivial
/-- the steps of one change of the mode -/
def stepsK (k : Int) : List (Int × Int) := [(0, k), (1, k)] ++ (rangeKs 0 (k + 1).toNat).map (fun i => (2, i)) ++ (rangeKs 0 (k + 1).toNat).map (fun i => (3, i)) ++ [(4, k)]
def stepR (r : RecSt) (p : Int × Int) : RecSt :=
  if p.1 = 0 then hookR { r with told := r.told ++ [Ev.change p.2] } 7
  else if p.1 = 1 then shedR r
  else if p.1 = 2 then { bodiedR r p.2 with mode := p.2 }
  else if p.1 = 3 then hookR r p.2
  else hookR { r with told := r.told ++ [Ev.behind p.2] } 8
def rowsStep (f : Int → Option (List Int)) (p : Int × Int) : Int → Option (List Int) :=
  if p.1 = 1 then fun _ => none else if p.1 = 2 then (if p.2 % 2 = 1 then setAt f p.2 (some [30 + p.2]) else f) else f
theorem stepR_rows {r : RecSt} {p : Int × Int} : (stepR r p).rows = rowsStep r.rows p := by
  unfold stepR rowsStep
  by_cases h0 : p.1 = 0
  · rw [if_pos h0, if_neg (by omega), if_neg (by omega), hookR_rows]
  · rw [if_neg h0]
    by_cases h1 : p.1 = 1
    · rw [if_pos h1, if_pos h1]; rfl
    · rw [if_neg h1, if_neg h1]
      by_cases h2 : p.1 = 2
      · rw [if_pos h2, if_pos h2]; rfl
      · rw [if_neg h2, if_neg h2]
        by_cases h3 : p.1 = 3
        · rw [if_pos h3, hookR_rows]
        · rw [if_neg h3, hookR_rows]
theorem stepR_every {r : RecSt} {p : Int × Int} : (stepR r p).every = r.every := by
  unfold stepR
  split
  · rw [hookR_every]
  · split
    · rfl
    · split
      · rfl
      · split
        · rw [hookR_every]
        · rw [hookR_every]
theorem foldS_rows {l : List (Int × Int)} {r : RecSt} : (l.foldl stepR r).rows = l.foldl rowsStep r.rows := by
  induction l generalizing r with
  | nil => rfl
  | cons p l ih => rw [List.foldl_cons, ih, stepR_rows]; rfl
theorem foldS_every {l : List (Int × Int)} {r : RecSt} : (l.foldl stepR r).every = r.every := by
  induction l generalizing r with
  | nil => rfl
  | cons p l ih => rw [List.foldl_cons, ih, stepR_every]
theorem rowsStep_ok {f : Int → Option (List Int)} {p : Int × Int} (h : RowsOk f) (hp : 0 ≤ p.2) : RowsOk (rowsStep f p) := by
  unfold rowsStep
  split
  · intro w ns e; cases e
  · split
    · split
      · intro w ns e
        unfold setAt at e
        by_cases hw : w = p.2
        · rw [if_pos hw] at e
          cases e
          exact ⟨by omega, by rw [hw]⟩
        · rw [if_neg hw] at e
          exact h w ns e
      · exact h
    · exact h
theorem foldS_ok {l : List (Int × Int)} {f : Int → Option (List Int)} (h : RowsOk f) (hl : ∀ p ∈ l, 0 ≤ p.2) : RowsOk (l.foldl rowsStep f) := by
  induction l generalizing f with
  | nil => exact h
  | cons p l ih => exact ih (rowsStep_ok h (hl p (.head _))) fun q hq => hl q (.tail _ hq)
theorem rowsOk_small {f : Int → Option (List Int)} (h : RowsOk f) : ∀ w ns, f w = some ns → ns.length < 60 := fun w ns e => by
  obtain ⟨_, rfl⟩ := h w ns e
  simp
theorem stepR_told {r : RecSt} {p : Int × Int} (h : RowsOk r.rows) (hev : ∀ w ns, r.every w = some ns → ns.length < 60) : (stepR r p).told.length ≤ r.told.length + 130 := by
  have hs := rowsOk_small h
  unfold stepR
  split
  · have := hookR_told (r := { r with told := r.told ++ [Ev.change p.2] }) (hs 7) (hev 7)
    simp only [List.length_append, List.length_cons, List.length_nil] at this
    omega
  · split
    · show r.told.length ≤ _
      omega
    · split
      · show (r.told ++ _).length ≤ _
        simp
      · split
        · have := hookR_told (r := r) (hs p.2) (hev p.2)
          omega
        · have := hookR_told (r := { r with told := r.told ++ [Ev.behind p.2] }) (hs 8) (hev 8)
          simp only [List.length_append, List.length_cons, List.length_nil] at this
          omega
theorem foldS_told {l : List (Int × Int)} {r : RecSt} (h : RowsOk r.rows) (hev : ∀ w ns, r.every w = some ns → ns.length < 60) (hl : ∀ p ∈ l, 0 ≤ p.2) : (l.foldl stepR r).told.length ≤ r.told.length + 130 * l.length := by
  induction l generalizing r with
  | nil => exact Nat.le_refl _
  | cons p l ih =>
    rw [List.foldl_cons]
    have h1 := stepR_told (p := p) h hev
    have h2 := ih (r := stepR r p) (by rw [stepR_rows]; exact rowsStep_ok h (hl p (.head _))) (by rw [stepR_every]; exact hev) fun q hq => hl q (.tail _ hq)
    rw [List.length_cons]
    omega
theorem four_of {k : Int} (h0 : 0 ≤ k) (h9 : k < 4) : k = 0 ∨ k = 1 ∨ k = 2 ∨ k = 3 := int_nat (P := fun k => k = 0 ∨ k = 1 ∨ k = 2 ∨ k = 3) 4 h0 h9 (by decide)
theorem stepsK_vals {k : Int} (h0 : 0 ≤ k) (h9 : k < 4) : ∀ p ∈ stepsK k, 0 ≤ p.2 ∧ p.2 < 4 ∧ (p.1 = 0 ∨ p.1 = 1 ∨ p.1 = 2 ∨ p.1 = 3 ∨ p.1 = 4) :=
  int_nat (P := fun k => ∀ p ∈ stepsK k, 0 ≤ p.2 ∧ p.2 < 4 ∧ (p.1 = 0 ∨ p.1 = 1 ∨ p.1 = 2 ∨ p.1 = 3 ∨ p.1 = 4)) 4 h0 h9 (by decide +kernel)
theorem stepsK_len {k : Int} (h0 : 0 ≤ k) (h9 : k < 4) : (stepsK k).length ≤ 11 := int_nat (P := fun k => (stepsK k).length ≤ 11) 4 h0 h9 (by decide +kernel)
/-- at a body's step the mode has no row of its own yet -/
def noneAt (o : Int) (l : List (Int × Int)) (b : Bool) : Bool := l.foldl (fun b p => p.1 == 1 || (b && !(p.1 == 2 && p.2 == o))) b
theorem noneAt_of {o : Int} {l : List (Int × Int)} {b : Bool} {f : Int → Option (List Int)} (hb : b = true → f o = none) (h : noneAt o l b = true) : l.foldl rowsStep f o = none := by
  induction l generalizing b f with
  | nil => exact hb h
  | cons p l ih =>
    refine ih (b := p.1 == 1 || (b && !(p.1 == 2 && p.2 == o))) (fun e => ?_) h
    unfold rowsStep
    by_cases h1 : p.1 = 1
    · rw [if_pos h1]
    · rw [if_neg h1]
      have e : (b && !(p.1 == 2 && p.2 == o)) = true := by
        rwa [beq_eq_false_iff_ne.mpr h1, Bool.false_or] at e
      have e := Bool.and_eq_true_iff.mp e
      by_cases h2 : p.1 = 2
      · rw [if_pos h2]
        split
        · unfold setAt
          rw [if_neg, hb e.1]
          intro e3
          rw [h2, e3] at e
          simp at e
        · exact hb e.1
      · rw [if_neg h2]; exact hb e.1
theorem body_none {k : Int} (h0 : 0 ≤ k) (h9 : k < 4) {f : Int → Option (List Int)} {i : Nat} {o : Int} (h : (stepsK k)[i]? = some (2, o)) : ((stepsK k).take i).foldl rowsStep f o = none := by
  have hi : i < 11 := Nat.lt_of_lt_of_le (List.getElem?_eq_some_iff.mp h).1 (stepsK_len h0 h9)
  have z := int_nat (P := fun k => ∀ i < 11, ((stepsK k)[i]?.all fun p => p.1 != 2 || noneAt p.2 ((stepsK k).take i) false) = true) 4 h0 h9 (by decide +kernel) i hi
  rw [h] at z
  exact noneAt_of (b := false) (fun e => nomatch e) z
theorem hookedR_mode' {r : RecSt} {w m : Int} {l : List Int} : hookedR { r with mode := m } w l = { hookedR r w l with mode := m } := by
  induction l generalizing r with
  | nil => rfl
  | cons x l ih => exact ih (r := { r with told := r.told ++ [.fn w x], x := r.x.fn r.told w x })
theorem hookR_mode' {r : RecSt} {w m : Int} : hookR { r with mode := m } w = { hookR r w with mode := m } := hookedR_mode'
theorem hookR_tell' {r : RecSt} {w m : Int} {e : Ev} : hookR { ({ r with mode := m } : RecSt) with told := r.told ++ [e] } w = { hookR { r with told := r.told ++ [e] } w with mode := m } := hookedR_mode' (r := { r with told := r.told ++ [e] })
theorem bodies_mode {l : List Int} {r : RecSt} {m : Int} : l.foldl bodiedR { r with mode := m } = { l.foldl bodiedR r with mode := m } := by
  induction l generalizing r with
  | nil => rfl
  | cons x l ih => exact ih (r := bodiedR r x)
theorem hooks_mode {l : List Int} {r : RecSt} {m : Int} : l.foldl hookR { r with mode := m } = { l.foldl hookR r with mode := m } := by
  induction l generalizing r with
  | nil => rfl
  | cons x l ih => rw [List.foldl_cons, List.foldl_cons, hookR_mode']; exact ih
theorem steps_bodies {l : List Int} {r : RecSt} {m : Int} : (l.map fun i => ((2 : Int), i)).foldl stepR { r with mode := m } = { l.foldl bodiedR r with mode := (l.getLast?).getD m } := by
  induction l generalizing r m with
  | nil => rfl
  | cons x l ih =>
    have h : stepR { r with mode := m } (2, x) = { bodiedR r x with mode := x } := rfl
    rw [List.map_cons, List.foldl_cons, h, ih, List.foldl_cons]
    congr 1
    cases l with
    | nil => rfl
    | cons y l => rw [List.getLast?_cons_cons]; rfl
theorem steps_hooks {l : List Int} {r : RecSt} : (l.map fun i => ((3 : Int), i)).foldl stepR r = l.foldl hookR r := by
  induction l generalizing r with
  | nil => rfl
  | cons x l ih => rw [List.map_cons, List.foldl_cons, List.foldl_cons, ih]; rfl
theorem last_ks {k : Int} (h0 : 0 ≤ k) (h9 : k < 4) (m : Int) : ((rangeKs 0 (k + 1).toNat).getLast?).getD m = k := by
  rcases four_of h0 h9 with rfl | rfl | rfl | rfl <;> rfl
/-- what the program does in its steps is what the record does -/
theorem steps_switched {r : RecSt} {k : Int} (h0 : 0 ≤ k) (h9 : k < 4) : (stepsK k).foldl stepR r = switchedR r k := by
  unfold stepsK
  rw [List.foldl_append, List.foldl_append, List.foldl_append]
  have e1 : [(0, k), (1, k)].foldl stepR r = { shedR (hookR { r with told := r.told ++ [Ev.change k] } 7) with mode := r.mode } := by
    show shedR (hookR { r with told := r.told ++ [Ev.change k] } 7) = _
    have gen : ∀ z : RecSt, z.mode = r.mode → shedR z = { shedR z with mode := r.mode } := fun z hz => by rw [← hz]; rfl
    exact gen _ hookedR_mode
  rw [e1, steps_bodies, steps_hooks, last_ks h0 h9, hooks_mode]
  show hookR { ({ (rangeKs 0 (k + 1).toNat).foldl hookR ((rangeKs 0 (k + 1).toNat).foldl bodiedR (shedR (hookR { r with told := r.told ++ [Ev.change k] } 7))) with mode := k } : RecSt) with told := _ ++ [Ev.behind k] } 8 = _
  rw [hookR_tell']
  unfold switchedR
  rw [show (k + 1 - 0).toNat = (k + 1).toNat by rw [Int.sub_zero]]
end
section
theorem stepR_on {r : RecSt} {p : Int × Int} : (stepR r p).on.length ≤ r.on.length := by
  unfold stepR
  split
  · exact Nat.le_of_eq (by unfold hookR; rw [hookedR_on])
  · split
    · exact List.length_filter_le _ _
    · split
      · exact Nat.le_refl _
      · split
        · exact Nat.le_of_eq (by unfold hookR; rw [hookedR_on])
        · exact Nat.le_of_eq (by unfold hookR; rw [hookedR_on])
theorem foldS_on {l : List (Int × Int)} {r : RecSt} : (l.foldl stepR r).on.length ≤ r.on.length := by
  induction l generalizing r with
  | nil => exact Nat.le_refl _
  | cons p l ih => exact Nat.le_trans (ih (r := stepR r p)) stepR_on
theorem foldS_at {l : List (Int × Int)} {r : RecSt} {i : Nat} {p : Int × Int} (h : l[i]? = some p) : (l.take (i + 1)).foldl stepR r = stepR ((l.take i).foldl stepR r) p := by
  rw [List.take_add_one, h, Option.toList_some, List.foldl_append]; rfl
theorem hookR_mode {r : RecSt} {w : Int} : (hookR r w).mode = r.mode := hookedR_mode
theorem hookR_on {r : RecSt} {w : Int} : (hookR r w).on = r.on := hookedR_on
end
end
section
theorem wtClo4 : True := by
  w_top off
  trivial
theorem kwClo41 : True := by
  k_with_none
  k_with "W1" => ((fail_if_success (with_reducible show wpAny _ _ (PySem.call (Value.ref _) _ _) _ _ _)); (fail_if_success (with_reducible show wpAny _ _ (pyIter _) _ _ _)); (fail_if_success (with_reducible show wpAny _ _ (PySem.exec (Stmt.For _ _ _ _ _) _) _ _ _)); first | (k_unfold; (try dsimp only)) | walk1 | (dsimp only; walk1) | fail "no step")
  k_with "k_enter" => (first | (refine' code_def (by k_asm) (by k_asm) (by k_asm) (by k_asm) (by k_asm) rfl rfl (by first | exact rfl | assumption) (by k_is) (by k_is) (by k_room) (by first | exact BindsTo.of_eq rfl | exact binds_K (by k_in) rfl (by k_is) rfl rfl rfl) (by exact locs rfl) ?_ (by exact rfl) (by exact rfl) (by exact rfl) (by decide); k_whole; intro _ _ _ _ _ _ Bz9 _ _; (try dsimp only); (try k_lift Bz9); (try k_fold)) | (refine' code_defC (by k_asm) (by k_asm) (by k_asm) (by k_asm) (by k_asm) rfl rfl (by first | exact rfl | assumption) (by k_is) (by k_is) (by k_room) (by first | exact BindsTo.of_eq rfl | exact binds_K (by k_in) rfl (by k_is) rfl rfl rfl) (by exact rfl) (by decide +kernel) ?_ (by exact rfl) (by exact rfl) (by exact rfl); k_whole; intro _ _ _ _ _ _ _ Nz9 Yz9 Bz9 _ _ lz9; (try k_lt lz9); k_cells Yz9; (try simp only [List.cons_append, List.nil_append] at Nz9); (try dsimp only); (try k_lift Bz9); (try k_fold)) | fail)
  k_with "execs cons" => (k_fold; (first | show wpAny _ AB (PySem.execs _ eB) _ _ _ | (show (let eB := _; let AB := _; wpAny _ AB (PySem.execs _ eB) _ _ _); intro eB AB)); refine wpAny_execs_cons ?_)
  k_with "omega" => first | exact Nat.le_of_ble_eq_true rfl | with_reducible assumption | exact Mine.o1 (by with_reducible assumption) (by exact rfl) | exact Mine.o3 (by with_reducible assumption) (by exact rfl) | exact Mine.o2 (by with_reducible assumption) (by exact rfl) | exact Mine.o4 (by with_reducible assumption) (by exact rfl) | exact Mine.o5 (by with_reducible assumption) (by exact rfl) | exact Mine.o6 (by with_reducible assumption) (by exact rfl) | exact Mine.o7 (by with_reducible assumption) (by exact rfl) | exact Mine.o8 (by with_reducible assumption) (by exact rfl) | exact Mine.o9 (by with_reducible assumption) (by exact rfl) | exact Mine.o10 (by with_reducible assumption) (by exact rfl) | exact Mine.o11 (by with_reducible assumption) (by exact rfl) | exact Mine.o12 (by with_reducible assumption) (by exact rfl) | exact Mine.o13 (by with_reducible assumption) (by exact rfl) | exact Nat.ne_of_lt (by with_reducible assumption) | exact Nat.ne_of_gt (by with_reducible assumption) | exact Nat.le_of_lt (by with_reducible assumption) | fail
  k_with "tlg_ne" => first | exact List.Mem.head _ | (apply List.Mem.tail; tlg_ne) | (apply List.mem_append_left; tlg_ne) | (apply List.mem_append_right; tlg_ne)
  k_with "lcg_off" => first | exact List.Subset.refl _ | exact List.nil_subset _ | (refine List.Sublist.subset ?_; (repeat first | exact List.Sublist.refl _ | apply List.Sublist.cons_cons | apply List.Sublist.cons); done) | (refine Mine.subC ?_ ?_; (focus tlg_ne); lcg_off) | (refine Mine.subA ?_ ?_ <;> lcg_off) | (apply List.subset_cons_of_subset; lcg_off) | (apply List.subset_append_of_subset_left; lcg_off) | (apply List.subset_append_of_subset_right; lcg_off)
  trivial
/-- the told list's part of the program's side, taken apart -/
theorem pw_open {prog : Program} {w : World} {q : LS} {r : RecSt} {ws : List (Addr × Obj)} {h : Heap} (O : Own (PW prog w q r) ws) (hh : Holds h ws) :
    ∃ c TT rest, ws = (q.T, listOf (refs TT).toArray c) :: (TT ++ rest) ∧ TT.length = r.told.length ∧ (∀ p ∈ TT ++ rest, p.1 ≠ q.T) ∧
      ∀ (e : Ev) (DT : Addr) (vs : List Value) (n c' : Nat), EvIs e vs → DT ≠ q.T → (∀ p ∈ TT ++ rest, p.1 ≠ DT) → Own (PW prog w q { r with told := r.told ++ [e] }) ((q.T, listOf (refs TT ++ [Value.ref DT]).toArray c') :: (TT ++ (DT, tupOf vs n) :: rest)) := by
  refine hideG fun GG hGG => ?_
  obtain ⟨wP, wH, rfl, OP, OH, dis⟩ := own_star pt_good hh_good hh O
  obtain ⟨w1, w2, rfl, O1, O2, dis2⟩ := own_star told_good vars_good (fun p hp => hh p (List.mem_append_left _ hp)) OP
  obtain ⟨c, TT, rfl, nd, ev⟩ := own_told O1 (fun p hp => hh p (List.mem_append_left _ (List.mem_append_left _ hp)))
  refine hGG ?_; clear hGG GG
  have hT2 : q.T ∉ w2.map (·.1) := dis2 (q.T, _) (.head _)
  have hT3 : q.T ∉ wH.map (·.1) := dis (q.T, _) (List.mem_append_left _ (.head _))
  refine ⟨c, TT, w2 ++ wH, by simp, ev.length, fun p hp e => ?_, fun e DT vs n c' x hDT off => ?_⟩
  · rcases List.mem_append.mp hp with z | z
    · exact (List.nodup_cons.mp nd).1 (List.mem_map.mpr ⟨p, z, e⟩)
    · rcases List.mem_append.mp z with z | z
      · exact hT2 (List.mem_map.mpr ⟨p, z, e⟩)
      · exact hT3 (List.mem_map.mpr ⟨p, z, e⟩)
  · have nd2 : (q.T :: (TT ++ [(DT, tupOf vs n)]).map (·.1)).Nodup := by
      have e : (q.T :: (TT ++ [(DT, tupOf vs n)]).map (·.1)) = (q.T :: TT.map (·.1)) ++ [DT] := by simp
      rw [e]
      refine List.nodup_append.mpr ⟨nd, by simp, fun y hy z hz e => ?_⟩
      rw [List.mem_singleton.mp hz] at e
      rcases List.mem_cons.mp hy with h | h
      · exact hDT (e.symm.trans h)
      · obtain ⟨p, hp, h⟩ := List.mem_map.mp h
        exact off p (List.mem_append_left _ hp) (h.trans e)
    have ot := told_own (c := c') nd2 (ev.snoc (a := DT) (n := n) x)
    have d1 : ∀ p ∈ (q.T, listOf (refs (TT ++ [(DT, tupOf vs n)])).toArray c') :: (TT ++ [(DT, tupOf vs n)]), p.1 ∉ w2.map (·.1) := fun p hp => by
      rcases List.mem_cons.mp hp with rfl | hp
      · exact hT2
      · rcases List.mem_append.mp hp with hp | hp
        · exact dis2 _ (.tail _ hp)
        · rw [List.mem_singleton.mp hp]
          intro z
          obtain ⟨p', hp', z⟩ := List.mem_map.mp z
          exact off p' (List.mem_append_right _ (List.mem_append_left _ hp')) z
    have d2 : ∀ p ∈ ((q.T, listOf (refs (TT ++ [(DT, tupOf vs n)])).toArray c') :: (TT ++ [(DT, tupOf vs n)])) ++ w2, p.1 ∉ wH.map (·.1) := fun p hp => by
      rcases List.mem_append.mp hp with hp | hp
      · rcases List.mem_cons.mp hp with rfl | hp
        · exact hT3
        · rcases List.mem_append.mp hp with hp | hp
          · exact dis _ (List.mem_append_left _ (.tail _ hp))
          · rw [List.mem_singleton.mp hp]
            intro z
            obtain ⟨p', hp', z⟩ := List.mem_map.mp z
            exact off p' (List.mem_append_right _ (List.mem_append_right _ hp')) z
      · exact dis _ (List.mem_append_right _ hp)
    have := star_own (star_own ot O2 d1) OH d2
    rw [show (((q.T, listOf (refs (TT ++ [(DT, tupOf vs n)])).toArray c') :: (TT ++ [(DT, tupOf vs n)])) ++ w2) ++ wH = (q.T, listOf (refs TT ++ [Value.ref DT]).toArray c') :: (TT ++ (DT, tupOf vs n) :: (w2 ++ wH)) by rw [refs_snoc]; simp] at this
    exact this
/-- own values and own rows are gone -/
def killR (r : RecSt) : RecSt := { r with x := r.x.kill, rows := fun _ => none }
theorem kwClo42 : True := by
  k_with "k_room" => ((try simp only [depth_mark, depth_under_make, depth_under_kw, depth_in1, depth_deeper]); first | assumption | (show _ < 1000; (try dsimp only); omega))
  k_with "k_ne" => ((refine neN ?_); (try dsimp only); first | assumption | exact Ne.symm (by assumption))
  k_with "compareOp In int ref" => (k_here; k_dflt (first | (refine' in_C (by k_asm) (by k_mem) (by k_asm) (by k_asm) (by k_asm) ?_) | (refine' in_I (by k_asm) (by k_mem) (by k_asm) (by k_asm) (by k_asm) ?_) | (refine' in_B (by k_asm) (by k_mem) (by k_asm) (by k_asm) (by k_asm) ?_)))
  k_with "compareOp NotIn int ref" => (k_here; k_dflt ( (refine' notin_C (by k_asm) (by k_mem) (by k_asm) (by k_asm) (by k_asm) ?_)))
  k_with "call builtin:dict.get" => (k_here; k_dflt (first | (refine' get_I (by k_asm) (by k_mem) (by k_asm) (by k_asm) (by k_asm) ?_; refine ⟨fun _ _ _ => ?_, fun _ => ?_⟩) | (refine' get_B (by k_asm) (by k_mem) (by k_asm) (by k_asm) (by k_asm) ?_; (try simp only [Bool.or_false]))))
  k_with "getMethod ref" => (k_here; (with_reducible show wpAny _ _ (getMethod (Value.ref _) (Str.ofString "get") _) _ _ _); k_dflt (refine' kdg_method (knd := PySem.intKind _ _) (by k_asm) (by k_mem) (by k_asm) ?_))
  k_with "subscriptTail" => (k_here; (with_reducible show wpAny _ _ (subscriptTail _ _ (Value.ref _) (Value.int _ _)) _ _ _); k_dflt (refine' item_C (by k_asm) (by k_mem) (by k_asm) (by k_asm) (by k_asm) ?_ (by with_unfolding_all rfl); intro _ _ _ _))
  k_with "setItem ref int" => (k_here; k_dflt (refine' kda_set (knd := PySem.intKind _ _) (by k_asm) (by k_asm) (by k_updF) (by k_asm) (intKind_is _ _ _ _) (by exact KOK.line (by k_asm) (by k_asm)) ?_; intro hz9 oz9 Fz9 Nz9 hdz9; (try dsimp only at Nz9); (try k_sweep); revert hz9 oz9 Fz9 Nz9 hdz9; intro _ _ _ _ _))
  trivial
variable {prog : Program} {w : World} {p : Program} {loose : List Str} {mean : ExcName → Option Value} {mg mb : Str → Option Value}
theorem kwClo43 : True := by
  k_with "eval ListComp" => (k_here; k_dflt (refine LCt.ListComp_T (F₀ := by k_asm) (by with_unfolding_all rfl) (by decide) (by rfl) (by decide) (by rfl) ?_))
  k_with "CompSrcT" => (k_here; k_dflt (first | (refine' LCt.CompSrcT.ledger rfl (by k_asm) (by k_asm) (by k_mem) (by k_asm) ?_) | (refine' LCt.CompSrcT.base rfl (by k_asm) (by k_asm) (by k_asm) (by k_asm) ?_)); intro _; k_dflt (refine' flt_rest (by k_asm) (by k_asm) (by first | exact .inl (by k_asm) | exact .inr ⟨_, by k_mem, rfl, _, rfl⟩) rfl rfl (by decide) (fun _ _ _ _ _ _ _ _ _ _ _ _ _ _ _ _ _ _ _ => ?_) (fun _ _ => ?_)); (all_goals (try (simp only [LCg.Off3, and_true] at off'))))
  k_with "FltT" => (k_here; k_dflt (refine' flt_t (by k_asm) (by k_asm) (by intro pz9 hpz9; first | exact hpz9 | exact .tail _ hpz9 | exact .tail _ (.tail _ hpz9) | exact .tail _ (.tail _ (.tail _ hpz9))) ?_); (try rfl))
  k_with "call type:list" => (k_here; k_dflt (refine' list_D rfl (by k_asm) (by k_asm) (by k_mem) (by k_asm) (by k_asm) (by k_asm) ?_); intro Bz9 cz9 hz9 tkz9 vsz9 Fz9 Nz9 l1z9 hiz9 h64z9 hszz9; (try k_lt l1z9); (try k_sweep); revert Bz9 cz9 hz9 tkz9 vsz9 Fz9 Nz9 l1z9 hiz9 h64z9 hszz9; intro _ _ _ _ _ _ _ _ _ _ _)
  k_with "call builtin:sorted" => (k_here; k_dflt (refine' sorted_L (by k_asm) (by k_asm) (by k_mem) (by k_asm) (by k_asm) ?_); intro Bz9 vsz9 nsz9 cz9 hz9 Fz9 Nz9 l1z9 hiz9 hpmz9 h64z9 hszz9; (try k_lt l1z9); (try k_sweep); revert Bz9 vsz9 nsz9 cz9 hz9 Fz9 Nz9 l1z9 hiz9 hpmz9 h64z9 hszz9; intro _ _ _ _ _ _ _ _ _ _ _ _)
  k_with "call builtin:dict.pop" => (k_here; k_dflt (refine' pop_C (by k_asm) (by k_asm) (by k_updF) (by k_asm) (by k_asm) (by k_asm) ?_); intro hz9 oz9 vz9 Fz9 Nz9 hdz9; (try dsimp only at Nz9); (try k_sweep); revert hz9 oz9 vz9 Fz9 Nz9 hdz9; intro _ _ _ _ _ _)
  k_with "getMethod ref" => (k_here; (with_reducible show wpAny _ _ (getMethod (Value.ref _) (Str.ofString "pop") _) _ _ _); k_dflt (refine' popm_D (by k_asm) (by k_mem) (by k_asm) ?_))
  k_with "eval Name" => (k_here; k_dflt (refine' nameX_L (by k_asm) (by first | exact rfl | assumption) ?_ (by rfl) (by rfl); k_whole))
  k_with "k_ne" => ((refine neN ?_); (try dsimp only); first | assumption | exact Ne.symm (by assumption) | omega)
  k_with "k_units" => (first | exact Nat.le_of_ble_eq_true rfl | (simp only [ktrTop, units_deeper, units_in1, cLine_is]; omega) | ((try dsimp only [ktrTop, Around.deeper, Around.in1, Around.under]); rw [cLine_is]; omega))
  k_with "compareOp In int ref" => (k_here; k_dflt (first | (refine' in_list_ints (by first | exact led_list (by k_asm) (by k_mem) | exact base_list (by k_asm) (by k_asm)) (by first | k_asm | exact .cons _ _ .nil | exact .nil) ?_; k_whole) | (refine' in_E (by k_asm) (by k_asm) (by k_asm) (by k_asm) ?_)))
  k_with "compareOp NotEq ref ref" => (k_here; k_dflt (refine' ne_E (by k_asm) (by k_mem) (by k_mem) (by k_asm) (by k_asm) (by k_asm) (by k_asm) (by k_units) ?_))
  k_with "binaryOp Add ref ref" => (k_here; k_dflt (refine' add_L (by k_asm) (by k_asm) (by first | exact led_list (by k_asm) (by k_mem) | exact base_list (by k_asm) (by k_asm)) (by first | exact led_list (by k_asm) (by k_mem) | exact base_list (by k_asm) (by k_asm)) (by first | k_asm | exact .cons _ _ .nil | exact .nil) (by first | k_asm | exact .cons _ _ .nil | exact .nil) (by first | k_asm | (simp only [List.length_cons, List.length_nil, sizeLine_eq]; omega)) ?_); intro hz9 Dz9 Fz9 Nz9 l1z9 hiz9; (try k_lt l1z9); (try k_sweep); revert hz9 Dz9 Fz9 Nz9 l1z9 hiz9; intro _ _ _ _ _ _)
  k_with "call builtin:dict.get" => (k_here; k_dflt (first | (refine' get_V (by k_asm) (by k_mem) (by k_asm) (by k_asm) (by first | k_asm | exact vaSame _ _ _) ?_) | (refine' get_N (by k_asm) (by k_mem) (by k_asm) (by k_asm) (by k_asm) ?_)))
  k_with "call type:list" => (k_here; k_dflt (refine' copy_L (by k_asm) (by k_asm) (by k_mem) (by k_asm) ?_); intro Bz9 cz9 hz9 tkz9 Fz9 Nz9 l1z9; (try k_lt l1z9); (try k_sweep); revert Bz9 cz9 hz9 tkz9 Fz9 Nz9 l1z9; intro _ _ _ _ _ _ _)
  k_with "call builtin:list.extend" => (k_here; k_dflt (refine' ext_L (by k_asm) (by k_asm) (by k_updF) (by k_mem) (by first | k_asm | exact .cons _ _ .nil | exact .nil) (by first | k_asm | exact .cons _ _ .nil | exact .nil) (by first | k_asm | (simp only [List.length_cons, List.length_nil, sizeLine_eq]; omega)) ?_); intro hz9 nz9 Fz9 Nz9 hiz9; (try dsimp only at Nz9); (try k_sweep); revert hz9 nz9 Fz9 Nz9 hiz9; intro _ _ _ _ _)
  k_with "k_all" => with_reducible assumption
  k_with "subscriptTail" => (k_here; (with_reducible show wpAny _ _ (subscriptTail _ _ (Value.ref _) (Value.int _ _)) _ _ _); k_dflt (refine' item_V (by k_asm) (by k_mem) (by k_asm) (by k_asm) ?_ (by with_unfolding_all rfl)))
  k_with "compareOp Eq ref ref" => (k_here; k_dflt (refine' ke_eq_ints (by first | exact led_list (by k_asm) (by k_mem) | exact base_list (by k_asm) (by k_asm)) (by first | exact led_list (by k_asm) (by k_mem) | exact base_list (by k_asm) (by k_asm)) (by first | k_asm | exact .cons _ _ .nil | exact .nil) (by first | k_asm | exact .cons _ _ .nil | exact .nil) (by k_units) ?_))
  k_with "k_mem" => (with_reducible refine memOf ?_; with_reducible assumption)
  k_with "subscriptTail" => (k_here; (with_reducible show wpAny _ _ (subscriptTail _ _ (Value.ref _) (Value.str _ _)) _ _ _); k_dflt (refine' item_S (by k_asm) (by k_mem) (by k_asm) (by rfl) ?_ (by with_unfolding_all rfl)))
  k_with "call builtin:list.append" => (k_here; (with_reducible show wpAny _ _ (call (Value.builtin _) [Value.ref _, _]) _ _ _); k_dflt (refine' app_T (by k_asm) (by k_asm) (by k_updF) (by k_asm) ?_); intro hz9 Fz9 Nz9; (try dsimp only at Nz9); (try k_sweep); revert hz9 Fz9 Nz9; intro _ _ _)
  k_with "call builtin:len" => (k_here; (with_reducible show wpAny _ _ (call (Value.builtin _) [Value.ref _]) _ _ _); k_dflt (refine' len_T (by k_asm) (by k_mem) (by first | k_asm | (simp only [List.length_append, List.length_cons, List.length_nil]; k_asm)) ?_))
  k_with "eval Name" => (k_here; k_dflt (refine' nameX_FB (by k_asm) (by rfl) (by assumption) (by assumption) ?_ (by rfl) (by rfl) (by decide) (by decide); k_whole))
  k_with "subscriptTail" => (k_here; (with_reducible show wpAny _ _ (subscriptTail _ _ (Value.ref _) (Value.int _ _)) _ _ _); k_dflt (with_unfolding_all refine' item_litK (by exact base_list (by k_asm) (by assumption)) (by decide) (by decide) (by rfl) ?_ (by intros; rfl)))
  k_with "callWith ref" => (k_here; k_dflt (first | ((with_reducible show wpAny _ _ (callWith _ (Value.ref _) _ (backTo _ (starEach [] _)) []) _ _ _); refine' callWith_F0 (by exact fnAt_b (by k_asm) (by assumption) (by assumption)) ?_; k_whole; try dsimp only [List.nil_append, List.cons_append]) | ((with_reducible show wpAny _ _ (callWith _ (Value.ref _) _ (backTo _ (starEach (_ :: _) _)) []) _ _ _); refine' callWith_F (by exact fnAt_b (by k_asm) (by assumption) (by assumption)) ?_; k_whole) | fail))
  k_with "FnAt" => (k_dflt (exact fnAt_b (by k_asm) (by assumption) (by assumption)))
  trivial
theorem do_change_s {q : LS} (ok : q.Ok) {r : RecSt} {k : Int} {t ts : Tok} (hrow : RowsOk r.rows) (hev : ∀ w ns, r.every w = some ns → ns.length < 60) (htold : r.told.length < 90000) :
    SpecS prog w p loose mean mg mb q.st3 12 q.fD [.int 0 ts, .int k t] (PW prog w q r) (fun _ => PW prog w q (hookR { r with told := r.told ++ [Ev.change k] } 7)) := by
  intro dp un gd cn cs a ccd cl outer A₀ base h₀ L m s Q E fp B X0 T hke hdp hu hst I hk
  refine hideG fun GG hGG => ?_
  obtain ⟨ws, hws, hHolds, O⟩ := own_of pw_good I.C
  have F := I.F
  have N := I.news (hid := ws) (fun p hp => ⟨hws ▸ List.mem_map_of_mem hp, hHolds p hp⟩)
  obtain ⟨vsK, tK, hvK, hqK⟩ := ok.codeD
  refine hGG ?_; clear hGG GG
  have hfo := hst (q.fD, q.do) (mI 0 rfl)
  have hkc := hst (q.kD, q.xD) (mI 1 rfl)
  refine wpAny_call ?_
  refine enter (K := hd.heap_1 w.params) (f := q.fD) (cl := [("variables", q.cVar), ("told_here", q.cTold), ("rows", q.cRows), ("hooked", q.cHooked), ("here", q.cHere)]) B F X0 T N rfl rfl hke hfo.1 rfl ⟨_, _, _, _, rfl, hkc.1, hvK, hqK⟩ (by k_room) (BindsTo.of_eq rfl) (locs rfl) ?_ (by decide) rfl rfl rfl
  intro g' L' h' keep gone fresh F' N' B' X' T' lt
  have S : ∀ p ∈ q.st3, g'.get? p.1 = some p.2 := fun p hp => keep _ _ (hst p hp).1 (hws ▸ (hst p hp).2)
  clear N F B X0 T
  try dsimp only
  try k_fold
  have s1 := S (q.cVar, q.oVar) (mI 10 rfl)
  have s2 := S (q.cTold, q.oTold) (mI 11 rfl)
  have s3 := S (q.cRows, q.oRows) (mI 5 rfl)
  have s4 := S (q.cHooked, q.oHooked) (mI 2 rfl)
  have s5 := S (q.cHere, q.oHere) (mI 12 rfl)
  have s6 := S (q.fH, q.hooked) (mI 3 rfl)
  have s7 := fn_hooked q
  have ok1 := ok.var
  have ok2 := ok.told
  have ok3 := ok.rows
  have ok4 := ok.hooked
  have ok5 := ok.here
  dsimp only at s1 s2 s3 s4 s5 s6
  have S2 : ∀ p ∈ q.st2, g'.get? p.1 = some p.2 := fun p hp => S p (LS.m23 hp)
  refine hideG fun GG hGG => ?_
  obtain ⟨c, TT, rest0, rfl, hTT, offT, tellT⟩ := pw_open O hHolds
  refine hGG ?_; clear hGG GG
  have hTlen : (refs TT).length ≤ sizeLine := by
    rw [show (refs TT).length = r.told.length by unfold refs; rw [List.length_map]; exact hTT, sizeLine_eq]; omega
  have hTlen2 : (refs TT).length + 1 ≤ sizeLine := by
    rw [show (refs TT).length = r.told.length by unfold refs; rw [List.length_map]; exact hTT, sizeLine_eq]; omega
  refine hideG fun GG hGG => ?_
  suffices kk : ∀ rest, TT ++ rest0 = rest → GG by exact kk _ rfl
  intro rest hrest
  refine hGG ?_; clear hGG GG
  rw [hrest] at N' offT
  repeat' (k_extra "W1")
  (with_reducible rename News _ _ _ _ => NN)
  (with_reducible rename Fr _ _ _ _ => FF)
  (with_reducible rename _ ∧ AllLt _ _ => hlt0)
  refine hideG fun GG hGG => ?_
  suffices kk : ∀ DT tS, (@LT.lt Nat _ q.T DT ∧ AllLt DT rest) → (DT = DT) → News g' L' _ ((DT, tupOf [Value.str (Str.ofString "change") tS, Value.int k t] 0) :: (q.T, listOf (refs TT ++ [Value.ref DT]).toArray (c + 1)) :: rest) → GG by exact kk _ _ hlt0 rfl NN
  intro DT tS hlt hDT NN
  refine hGG ?_; clear hGG GG
  have O1 := tellT (.change k) DT _ 0 (c + 1) (.change k tS t) (Ne.symm (Nat.ne_of_lt hlt.1)) (by rw [hrest]; exact allLt_mem hlt.2)
  have N1 : News g' L' _ ((q.T, listOf (refs TT ++ [Value.ref DT]).toArray (c + 1)) :: (TT ++ (DT, tupOf [Value.str (Str.ofString "change") tS, Value.int k t] 0) :: rest0)) := fun p hp => NN p (by
    rw [← hrest]
    refine subOf ?_ hp; lcg_off)
  change wpAny _ (ktrTop (dp + 1) (un + 3) gd _ _ L' q.fD _ _ (envX cn cs L a ccd cl :: outer)) _ _ _ _
  refine call_W (own := []) (ws := _) (hooked_s (prog := prog) (w := w) (p := p) (loose := loose) (mean := mean) (mg := mg) (mb := mb) ok (r := { r with told := r.told ++ [Ev.change k] }) hrow hev (by rw [List.length_append]; simp; omega)) (fun v => pw_good) B' X' T' rfl (by omega) (by omega) FF N1 O1 (fun q hq => nomatch hq) (fun p hp => .inl (S2 p hp)) ?_
  intro v2 h2 tk2 ws2 F2 N2 O2 off2
  dsimp only
  repeat' (k_extra "W1")
  repeat' (first | k_unfold | (dsimp only))
  obtain ⟨z1, z2⟩ := fin_W I hws keep gone F2 N2 O2
  exact hk _ _ _ _ z1 z2
theorem do_behind_s {q : LS} (ok : q.Ok) {r : RecSt} {k : Int} {t ts : Tok} (hrow : RowsOk r.rows) (hev : ∀ w ns, r.every w = some ns → ns.length < 60) (htold : r.told.length < 90000) :
    SpecS prog w p loose mean mg mb q.st3 12 q.fD [.int 4 ts, .int k t] (PW prog w q r) (fun _ => PW prog w q (hookR { r with told := r.told ++ [Ev.behind k] } 8)) := by
  intro dp un gd cn cs a ccd cl outer A₀ base h₀ L m s Q E fp B X0 T hke hdp hu hst I hk
  refine hideG fun GG hGG => ?_
  obtain ⟨ws, hws, hHolds, O⟩ := own_of pw_good I.C
  have F := I.F
  have N := I.news (hid := ws) (fun p hp => ⟨hws ▸ List.mem_map_of_mem hp, hHolds p hp⟩)
  obtain ⟨vsK, tK, hvK, hqK⟩ := ok.codeD
  refine hGG ?_; clear hGG GG
  have hfo := hst (q.fD, q.do) (mI 0 rfl)
  have hkc := hst (q.kD, q.xD) (mI 1 rfl)
  refine wpAny_call ?_
  refine enter (K := hd.heap_1 w.params) (f := q.fD) (cl := [("variables", q.cVar), ("told_here", q.cTold), ("rows", q.cRows), ("hooked", q.cHooked), ("here", q.cHere)]) B F X0 T N rfl rfl hke hfo.1 rfl ⟨_, _, _, _, rfl, hkc.1, hvK, hqK⟩ (by k_room) (BindsTo.of_eq rfl) (locs rfl) ?_ (by decide) rfl rfl rfl
  intro g' L' h' keep gone fresh F' N' B' X' T' lt
  have S : ∀ p ∈ q.st3, g'.get? p.1 = some p.2 := fun p hp => keep _ _ (hst p hp).1 (hws ▸ (hst p hp).2)
  clear N F B X0 T
  try dsimp only
  try k_fold
  have s1 := S (q.cVar, q.oVar) (mI 10 rfl)
  have s2 := S (q.cTold, q.oTold) (mI 11 rfl)
  have s3 := S (q.cRows, q.oRows) (mI 5 rfl)
  have s4 := S (q.cHooked, q.oHooked) (mI 2 rfl)
  have s5 := S (q.cHere, q.oHere) (mI 12 rfl)
  have s6 := S (q.fH, q.hooked) (mI 3 rfl)
  have s7 := fn_hooked q
  have ok1 := ok.var
  have ok2 := ok.told
  have ok3 := ok.rows
  have ok4 := ok.hooked
  have ok5 := ok.here
  dsimp only at s1 s2 s3 s4 s5 s6
  have S2 : ∀ p ∈ q.st2, g'.get? p.1 = some p.2 := fun p hp => S p (LS.m23 hp)
  refine hideG fun GG hGG => ?_
  obtain ⟨c, TT, rest0, rfl, hTT, offT, tellT⟩ := pw_open O hHolds
  refine hGG ?_; clear hGG GG
  have hTlen : (refs TT).length ≤ sizeLine := by
    rw [show (refs TT).length = r.told.length by unfold refs; rw [List.length_map]; exact hTT, sizeLine_eq]; omega
  have hTlen2 : (refs TT).length + 1 ≤ sizeLine := by
    rw [show (refs TT).length = r.told.length by unfold refs; rw [List.length_map]; exact hTT, sizeLine_eq]; omega
  refine hideG fun GG hGG => ?_
  suffices kk : ∀ rest, TT ++ rest0 = rest → GG by exact kk _ rfl
  intro rest hrest
  refine hGG ?_; clear hGG GG
  rw [hrest] at N' offT
  repeat' (k_extra "W1")
  (with_reducible rename News _ _ _ _ => NN)
  (with_reducible rename Fr _ _ _ _ => FF)
  (with_reducible rename _ ∧ AllLt _ _ => hlt0)
  refine hideG fun GG hGG => ?_
  suffices kk : ∀ DT tS, (@LT.lt Nat _ q.T DT ∧ AllLt DT rest) → (DT = DT) → News g' L' _ ((DT, tupOf [Value.str (Str.ofString "behind") tS, Value.int k t] 0) :: (q.T, listOf (refs TT ++ [Value.ref DT]).toArray (c + 1)) :: rest) → GG by exact kk _ _ hlt0 rfl NN
  intro DT tS hlt hDT NN
  refine hGG ?_; clear hGG GG
  have O1 := tellT (.behind k) DT _ 0 (c + 1) (.behind k tS t) (Ne.symm (Nat.ne_of_lt hlt.1)) (by rw [hrest]; exact allLt_mem hlt.2)
  have N1 : News g' L' _ ((q.T, listOf (refs TT ++ [Value.ref DT]).toArray (c + 1)) :: (TT ++ (DT, tupOf [Value.str (Str.ofString "behind") tS, Value.int k t] 0) :: rest0)) := fun p hp => NN p (by
    rw [← hrest]
    refine subOf ?_ hp; lcg_off)
  change wpAny _ (ktrTop (dp + 1) (un + 3) gd _ _ L' q.fD _ _ (envX cn cs L a ccd cl :: outer)) _ _ _ _
  refine call_W (own := []) (ws := _) (hooked_s (prog := prog) (w := w) (p := p) (loose := loose) (mean := mean) (mg := mg) (mb := mb) ok (r := { r with told := r.told ++ [Ev.behind k] }) hrow hev (by rw [List.length_append]; simp; omega)) (fun v => pw_good) B' X' T' rfl (by omega) (by omega) FF N1 O1 (fun q hq => nomatch hq) (fun p hp => .inl (S2 p hp)) ?_
  intro v2 h2 tk2 ws2 F2 N2 O2 off2
  dsimp only
  repeat' (k_extra "W1")
  repeat' (first | k_unfold | (dsimp only))
  obtain ⟨z1, z2⟩ := fin_W I hws keep gone F2 N2 O2
  exact hk _ _ _ _ z1 z2
theorem do_hook_s {q : LS} (ok : q.Ok) {r : RecSt} {k : Int} {t ts : Tok} (hrow : RowsOk r.rows) (hev : ∀ w ns, r.every w = some ns → ns.length < 60) (htold : r.told.length < 90000) :
    SpecS prog w p loose mean mg mb q.st3 12 q.fD [.int 3 ts, .int k t] (PW prog w q r) (fun _ => PW prog w q (hookR r k)) := by
  intro dp un gd cn cs a ccd cl outer A₀ base h₀ L m s Q E fp B X0 T hke hdp hu hst I hk
  refine hideG fun GG hGG => ?_
  obtain ⟨ws, hws, hHolds, O⟩ := own_of pw_good I.C
  have F := I.F
  have N := I.news (hid := ws) (fun p hp => ⟨hws ▸ List.mem_map_of_mem hp, hHolds p hp⟩)
  obtain ⟨vsK, tK, hvK, hqK⟩ := ok.codeD
  refine hGG ?_; clear hGG GG
  have hfo := hst (q.fD, q.do) (mI 0 rfl)
  have hkc := hst (q.kD, q.xD) (mI 1 rfl)
  refine wpAny_call ?_
  refine enter (K := hd.heap_1 w.params) (f := q.fD) (cl := [("variables", q.cVar), ("told_here", q.cTold), ("rows", q.cRows), ("hooked", q.cHooked), ("here", q.cHere)]) B F X0 T N rfl rfl hke hfo.1 rfl ⟨_, _, _, _, rfl, hkc.1, hvK, hqK⟩ (by k_room) (BindsTo.of_eq rfl) (locs rfl) ?_ (by decide) rfl rfl rfl
  intro g' L' h' keep gone fresh F' N' B' X' T' lt
  have S : ∀ p ∈ q.st3, g'.get? p.1 = some p.2 := fun p hp => keep _ _ (hst p hp).1 (hws ▸ (hst p hp).2)
  clear N F B X0 T
  try dsimp only
  try k_fold
  have s1 := S (q.cVar, q.oVar) (mI 10 rfl)
  have s2 := S (q.cTold, q.oTold) (mI 11 rfl)
  have s3 := S (q.cRows, q.oRows) (mI 5 rfl)
  have s4 := S (q.cHooked, q.oHooked) (mI 2 rfl)
  have s5 := S (q.cHere, q.oHere) (mI 12 rfl)
  have s6 := S (q.fH, q.hooked) (mI 3 rfl)
  have s7 := fn_hooked q
  have ok1 := ok.var
  have ok2 := ok.told
  have ok3 := ok.rows
  have ok4 := ok.hooked
  have ok5 := ok.here
  dsimp only at s1 s2 s3 s4 s5 s6
  have S2 : ∀ p ∈ q.st2, g'.get? p.1 = some p.2 := fun p hp => S p (LS.m23 hp)
  repeat' (k_extra "W1")
  change wpAny _ (ktrTop (dp + 1) (un + 3) gd _ _ L' q.fD _ _ (envX cn cs L a ccd cl :: outer)) _ _ _ _
  (with_reducible rename News _ _ _ _ => NN)
  (with_reducible rename Fr _ _ _ _ => FF)
  refine call_W (own := []) (ws := _) (hooked_s (prog := prog) (w := w) (p := p) (loose := loose) (mean := mean) (mg := mg) (mb := mb) ok (r := r) hrow hev (by omega)) (fun v => pw_good) B' X' T' rfl (by omega) (by omega) FF NN O (fun q hq => nomatch hq) (fun p hp => .inl (S2 p hp)) ?_
  intro v2 h2 tk2 ws2 F2 N2 O2 off2
  dsimp only
  repeat' (k_extra "W1")
  repeat' (first | k_unfold | (dsimp only))
  obtain ⟨z1, z2⟩ := fin_W I hws keep gone F2 N2 O2
  exact hk _ _ _ _ z1 z2
end
section
theorem wtClo5 : True := by
  w_top off
  trivial
theorem rowsP_flt {rows : Int → Option (List Int)} (ok : RowsOk rows) : ∀ k ns, rowsP rows k = some ns → (ns.filter (fun i => decide (i = -1)) = [-1] ∨ ns.filter (fun i => decide (i = -1)) = []) ∧ ns.length < 60 := by
  intro k ns e
  refine ⟨.inl ?_, rowsP_small ok k ns e⟩
  unfold rowsP at e
  cases e2 : rows k with
  | none => rw [e2] at e; cases e
  | some z =>
    obtain ⟨h0, rfl⟩ := ok k z e2
    rw [e2] at e
    cases e
    have : ¬ (30 + k = -1) := by omega
    simp [this]
theorem own_vars {G9 : Prop} {prog : Program} {w : World} {V H : Addr} {x : VarSt} {ws : List (Addr × Obj)} {h : Heap} (O : Own (Vars prog w V H x) ws) (hh : Holds h ws) (k9 : ∀ Vd df au pe Hd va k1 k2 k3 t1 t2 t3 n k4 t4 n2, (V, instObj 344 Vd) ∈ ws → (Vd, dictOf [⟨k1, .str "defaults" t1, .ref df⟩, ⟨k2, .str "automatic" t2, .ref au⟩, ⟨k3, .str "permanent" t3, .ref pe⟩] n) ∈ ws → (H, instObj 398 Hd) ∈ ws → (Hd, dictOf [⟨k4, .str "values" t4, .ref va⟩] n2) ∈ ws → G9) : G9 := by
  obtain ⟨Vd, df, au, pe, Hd, va, oV, oH, odf, oau, ope, ova, kdf, kau, kpe, kva, e, l, k⟩ := O h hh
  obtain ⟨k1, k2, k3, t1, t2, t3, n, rfl⟩ := l.iV
  obtain ⟨k4, t4, n2, rfl⟩ := l.iH
  have hw : ws = [(V, instObj 344 Vd), (Vd, _), (df, odf), (au, oau), (pe, ope), (H, instObj 398 Hd), (Hd, _), (va, ova)] := same_list (h := h) e hh k
  exact k9 Vd df au pe Hd va k1 k2 k3 t1 t2 t3 n k4 t4 n2 (by rw [hw]; exact .head _) (by rw [hw]; exact .tail _ (.head _)) (by rw [hw]; exact mI 5 rfl) (by rw [hw]; exact mI 6 rfl)
theorem pw_vars {G9 : Prop} {prog : Program} {w : World} {q : LS} {r : RecSt} {ws : List (Addr × Obj)} {h : Heap} (O : Own (PW prog w q r) ws) (hh : Holds h ws) (k9 : ∀ Vd df au pe Hd va k1 k2 k3 t1 t2 t3 n k4 t4 n2, (q.V, instObj 344 Vd) ∈ ws → (Vd, dictOf [⟨k1, .str "defaults" t1, .ref df⟩, ⟨k2, .str "automatic" t2, .ref au⟩, ⟨k3, .str "permanent" t3, .ref pe⟩] n) ∈ ws → (q.H, instObj 398 Hd) ∈ ws → (Hd, dictOf [⟨k4, .str "values" t4, .ref va⟩] n2) ∈ ws → G9) : G9 := by
  obtain ⟨wP, wH, rfl, OP, OH, dis⟩ := own_star pt_good hh_good hh O
  obtain ⟨w1, w2, rfl, O1, O2, dis2⟩ := own_star told_good vars_good (fun p hp => hh p (List.mem_append_left _ hp)) OP
  exact own_vars O2 (fun p hp => hh p (List.mem_append_left _ (List.mem_append_right _ hp))) fun Vd df au pe Hd va k1 k2 k3 t1 t2 t3 n k4 t4 n2 a b c d => k9 Vd df au pe Hd va k1 k2 k3 t1 t2 t3 n k4 t4 n2 (List.mem_append_left _ (List.mem_append_right _ a)) (List.mem_append_left _ (List.mem_append_right _ b)) (List.mem_append_left _ (List.mem_append_right _ c)) (List.mem_append_left _ (List.mem_append_right _ d))
theorem own_empty {prog : Program} {w : World} {P : Addr} {oP : Obj} (lo : (P == sysModules) = false) (d : oP.IsDictOf (PySem.intKind prog w) []) : Own (EmptyD prog w P) [(P, oP)] := fun _ hh => ⟨rfl, lo, oP, hh _ (.head _), d⟩
theorem makeLocal_put {x : VarSt} {k i : Int} : (x.makeLocal k).put k i = { x with own := setAt x.own k (some (some i)) } := by
  unfold VarSt.makeLocal VarSt.put
  by_cases h : (x.own k).isSome = true
  · rw [if_pos h]
    simp [h]
  · rw [if_neg h]
    have hk : (setAt x.own k (some (x.dflt k)) k).isSome = true := by unfold setAt; rw [if_pos rfl]; rfl
    dsimp only
    rw [hk, Bool.true_or, if_pos rfl]
    congr 1
    funext j
    unfold setAt
    by_cases e : j = k
    · rw [if_pos e, if_pos e]
    · rw [if_neg e, if_neg e, if_neg e]
theorem rowsP_set {rows : Int → Option (List Int)} {k i : Int} (h : rows k = none) (hi : 0 ≤ i) : setAt (rowsP rows) k (some (addA ((rowsP rows k).getD [-1]) i)) = rowsP (setAt rows k (some [i])) := by
  funext j
  have hk : rowsP rows k = none := by unfold rowsP; rw [h]; rfl
  rw [hk]
  have ha : addA ((none : Option (List Int)).getD [-1]) i = [i] ++ [-1] := by
    simp only [Option.getD_none, addA, List.any_cons, List.any_nil, Bool.or_false, beq_iff_eq]
    rw [if_neg (by omega)]; rfl
  rw [ha]
  unfold rowsP setAt
  by_cases e : j = k
  · simp [e]
  · simp [e]
variable {prog : Program} {w : World} {p : Program} {loose : List Str} {mean : ExcName → Option Value} {mg mb : Str → Option Value}
theorem kill_all_pw {q : LS} {r : RecSt} : SpecS prog w p loose mean mg mb [] 6 395 [.ref q.H, .ref q.V] (PW prog w q r) (fun _ => PW prog w q { r with x := r.x.kill }) := Spec.toS (Spec.lift (C' := fun _ => Vars prog w q.V q.H r.x.kill) kill_all_s (Ctxt.left (Ctxt.right Ctxt.here told_good) hh_good))
theorem make_local_pw {q : LS} {r : RecSt} {k : Int} {t : Tok} (h0 : 0 ≤ k) (h9 : k < 9) : SpecS prog w p loose mean mg mb [] 4 383 [.ref q.H, .ref q.V, .int k t] (PW prog w q r) (fun _ => PW prog w q { r with x := r.x.makeLocal k }) := Spec.toS (Spec.lift (C' := fun _ => Vars prog w q.V q.H (r.x.makeLocal k)) (make_local_s h0 h9) (Ctxt.left (Ctxt.right Ctxt.here told_good) hh_good))
theorem set_in_pw {q : LS} {r : RecSt} {k i : Int} {t ti : Tok} (h0 : 0 ≤ k) (h9 : k < 9) : SpecS prog w p loose mean mg mb [] 4 416 [.ref q.V, .ref q.H, .int k t, .int i ti] (PW prog w q r) (fun _ => PW prog w q { r with x := r.x.put k i }) := Spec.toS (Spec.lift (C' := fun _ => Vars prog w q.V q.H (r.x.put k i)) (set_in_s h0 h9) (Ctxt.left (Ctxt.right Ctxt.here told_good) hh_good))
theorem add_local_pw {q : LS} {r : RecSt} {k i : Int} {t ti t0 : Tok} (hrow : r.rows k = none) (hi1 : 0 ≤ i) (h0 : 0 ≤ k) (h9 : k < 9) : SpecS prog w p loose mean mg mb [] 6 266 [.ref q.R, .int k t, .int i ti, .int 0 t0] (PW prog w q r) (fun _ => PW prog w q { r with rows := setAt r.rows k (some [i]) }) := by
  have hk : rowsP r.rows k = none := by unfold rowsP; rw [hrow]; rfl
  show SpecS prog w p loose mean mg mb [] 6 266 _ (PW prog w q r) (fun _ => Star (PT prog w q r) (HH prog w q r.every (rowsP (setAt r.rows k (some [i])))))
  rw [← rowsP_set hrow hi1]
  exact Spec.toS (Spec.lift (C' := fun _ => Hook prog w q.R (setAt (rowsP r.rows) k (some (addA ((rowsP r.rows k).getD [-1]) i)))) (add_local_s hi1 h0 h9 (fun ns e => by rw [hk] at e; cases e)) (Ctxt.right (Ctxt.right Ctxt.here hook_good) pt_good))
theorem do_kill_s {q : LS} (ok : q.Ok) {r : RecSt} {k : Int} {t ts : Tok} (hrow : RowsOk r.rows) :
    SpecS prog w p loose mean mg mb q.st3 12 q.fD [.int 1 ts, .int k t] (PW prog w q r) (fun _ => PW prog w q (killR r)) := by
  intro dp un gd cn cs a ccd cl outer A₀ base h₀ L m s Q E fp B X0 T hke hdp hu hst I hk
  refine hideG fun GG hGG => ?_
  obtain ⟨ws, hws, hHolds, O⟩ := own_of pw_good I.C
  have F := I.F
  have N := I.news (hid := ws) (fun p hp => ⟨hws ▸ List.mem_map_of_mem hp, hHolds p hp⟩)
  obtain ⟨vsK, tK, hvK, hqK⟩ := ok.codeD
  refine hGG ?_; clear hGG GG
  have hfo := hst (q.fD, q.do) (mI 0 rfl)
  have hkc := hst (q.kD, q.xD) (mI 1 rfl)
  refine wpAny_call ?_
  refine enter (K := hd.heap_1 w.params) (f := q.fD) (cl := [("variables", q.cVar), ("told_here", q.cTold), ("rows", q.cRows), ("hooked", q.cHooked), ("here", q.cHere)]) B F X0 T N rfl rfl hke hfo.1 rfl ⟨_, _, _, _, rfl, hkc.1, hvK, hqK⟩ (by k_room) (BindsTo.of_eq rfl) (locs rfl) ?_ (by decide) rfl rfl rfl
  intro g' L' h' keep gone fresh F' N' B' X' T' lt
  have S : ∀ p ∈ q.st3, g'.get? p.1 = some p.2 := fun p hp => keep _ _ (hst p hp).1 (hws ▸ (hst p hp).2)
  clear N F B X0 T
  try dsimp only
  try k_fold
  have s1 := S (q.cVar, q.oVar) (mI 10 rfl)
  have s2 := S (q.cTold, q.oTold) (mI 11 rfl)
  have s3 := S (q.cRows, q.oRows) (mI 5 rfl)
  have s4 := S (q.cHooked, q.oHooked) (mI 2 rfl)
  have s5 := S (q.cHere, q.oHere) (mI 12 rfl)
  have s6 := S (q.fH, q.hooked) (mI 3 rfl)
  have s7 := fn_hooked q
  have ok1 := ok.var
  have ok2 := ok.told
  have ok3 := ok.rows
  have ok4 := ok.hooked
  have ok5 := ok.here
  dsimp only at s1 s2 s3 s4 s5 s6
  have S2 : ∀ p ∈ q.st2, g'.get? p.1 = some p.2 := fun p hp => S p (LS.m23 hp)
  refine hideG fun GG hGG => ?_
  refine pw_vars O hHolds fun Vd df au pe Hd va k1 k2 k3 t1 t2 t3 n1 k4 t4 n2 mv1 mv2 mv3 mv4 => ?_
  refine hGG ?_; clear hGG GG
  repeat' (k_extra "W1")
  change wpAny _ (ktrTop (dp + 1) (un + 3) gd _ _ L' q.fD _ _ (envX cn cs L a ccd cl :: outer)) _ _ _ _
  (with_reducible rename News _ _ _ _ => NN)
  (with_reducible rename Fr _ _ _ _ => FF)
  refine call_W (St := []) (own := []) (ws := _) (kill_all_pw (prog := prog) (w := w) (p := p) (loose := loose) (mean := mean) (mg := mg) (mb := mb) (q := q) (r := r)) (fun v => pw_good (r := { r with x := r.x.kill })) B' X' T' rfl (by omega) (by omega) FF NN O (fun q hq => nomatch hq) (fun q hq => nomatch hq) ?_
  intro v2 h2 tk2 ws2 F2 N2 O2 off2
  dsimp only
  change Own (PW prog w q { r with x := r.x.kill }) ws2 at O2
  simp only [List.nil_append] at N2
  clear NN
  repeat' (k_extra "W1")
  change wpAny _ (ktrTop (dp + 1) (un + 3) gd _ _ L' q.fD _ _ (envX cn cs L a ccd cl :: outer)) _ _ _ _
  (with_reducible rename News _ _ _ _ => N3)
  (with_reducible rename Fr _ _ _ _ => F3)
  (with_reducible rename Obj.IsDictOf _ _ [] => e3)
  (with_reducible rename (_ == sysModules) = false => lo3)
  (with_reducible rename ∀ (p : Addr × Obj), p ∈ ws2 → @LT.lt Nat _ p.1 _ => lt3)
  refine hideG fun GG hGG => ?_
  obtain ⟨wP2, wH2, rfl, OP2, OH2, dis2⟩ := own_star pt_good hh_good (fun p hp => (N3 p (.tail _ hp)).1) O2
  obtain ⟨wK, wR, rfl, OK2, OR2, dis3⟩ := own_star hook_good hook_good (fun p hp => (N3 p (.tail _ (List.mem_append_right _ hp))).1) OH2
  refine hGG ?_; clear hGG GG
  refine call_W (St := []) (own := wP2 ++ wK) (ws := wR ++ [(_, _)]) (Spec.toS (kill_local_s (prog := prog) (w := w) (p := p) (loose := loose) (mean := mean) (mg := mg) (mb := mb) (rowsP_flt hrow))) (fun v => Star.good hook_good emptyD_good) B' X' T' rfl (by omega) (by omega) F3 (fun p hp => N3 p ?_) (star_own OR2 (own_empty lo3 e3) ?_) ?_ (fun q hq => nomatch hq) ?_
  · refine subOf ?_ hp; lcg_off
  · intro p hp z
    simp only [List.map_cons, List.map_nil, List.mem_singleton] at z
    exact Nat.ne_of_lt (lt3 p (List.mem_append_right _ (List.mem_append_right _ hp))) z
  · intro p hp z
    rw [List.map_append] at z
    rcases List.mem_append.mp z with z | z
    · rcases List.mem_append.mp hp with hp | hp
      · exact dis2 p hp (by rw [List.map_append]; exact List.mem_append_right _ z)
      · exact dis3 p hp z
    · simp only [List.map_cons, List.map_nil, List.mem_singleton] at z
      refine Nat.ne_of_lt (lt3 p ?_) z
      rcases List.mem_append.mp hp with hp | hp
      · exact List.mem_append_left _ hp
      · exact List.mem_append_right _ (List.mem_append_left _ hp)
  intro v4 h4 tk4 ws4 F4 N4 O4 off4
  dsimp only
  refine hideG fun GG hGG => ?_
  obtain ⟨wR4, wE, rfl, OR4, _, _⟩ := own_star hook_good emptyD_good (fun p hp => (N4 p (List.mem_append_right _ hp)).1) O4
  refine hGG ?_; clear hGG GG
  have O5 : Own (PW prog w q (killR r)) (wP2 ++ (wK ++ wR4)) := star_own OP2 (star_own OK2 OR4 fun p hp z => off4 p (List.mem_append_right _ hp) (by rw [List.map_append]; exact List.mem_append_left _ z)) fun p hp z => by
    rw [List.map_append] at z
    rcases List.mem_append.mp z with z | z
    · exact dis2 p hp (by rw [List.map_append]; exact List.mem_append_left _ z)
    · exact off4 p (List.mem_append_left _ hp) (by rw [List.map_append]; exact List.mem_append_left _ z)
  repeat' (k_extra "W1")
  repeat' (first | k_unfold | (dsimp only))
  obtain ⟨z1, z2⟩ := fin_W I hws keep gone F4 (fun p hp => N4 p (by
    refine subOf ?_ hp; lcg_off)) O5
  exact hk _ _ _ _ z1 z2
theorem do_body_s {q : LS} (ok : q.Ok) {r : RecSt} {k : Int} {t ts : Tok} (h0 : 0 ≤ k) (h9 : k < 4) (hrow : r.rows k = none) (htold : r.told.length < 200000) :
    SpecS prog w p loose mean mg mb q.st3 12 q.fD [.int 2 ts, .int k t] (PW prog w q r) (fun _ => PW prog w q (bodiedR r k)) := by
  intro dp un gd cn cs a ccd cl outer A₀ base h₀ L m s Q E fp B X0 T hke hdp hu hst I hk
  refine hideG fun GG hGG => ?_
  obtain ⟨ws, hws, hHolds, O⟩ := own_of pw_good I.C
  have F := I.F
  have N := I.news (hid := ws) (fun p hp => ⟨hws ▸ List.mem_map_of_mem hp, hHolds p hp⟩)
  obtain ⟨vsK, tK, hvK, hqK⟩ := ok.codeD
  refine hGG ?_; clear hGG GG
  have hfo := hst (q.fD, q.do) (mI 0 rfl)
  have hkc := hst (q.kD, q.xD) (mI 1 rfl)
  refine wpAny_call ?_
  refine enter (K := hd.heap_1 w.params) (f := q.fD) (cl := [("variables", q.cVar), ("told_here", q.cTold), ("rows", q.cRows), ("hooked", q.cHooked), ("here", q.cHere)]) B F X0 T N rfl rfl hke hfo.1 rfl ⟨_, _, _, _, rfl, hkc.1, hvK, hqK⟩ (by k_room) (BindsTo.of_eq rfl) (locs rfl) ?_ (by decide) rfl rfl rfl
  intro g' L' h' keep gone fresh F' N' B' X' T' lt
  have S : ∀ p ∈ q.st3, g'.get? p.1 = some p.2 := fun p hp => keep _ _ (hst p hp).1 (hws ▸ (hst p hp).2)
  clear N F B X0 T
  try dsimp only
  try k_fold
  have s1 := S (q.cVar, q.oVar) (mI 10 rfl)
  have s2 := S (q.cTold, q.oTold) (mI 11 rfl)
  have s3 := S (q.cRows, q.oRows) (mI 5 rfl)
  have s4 := S (q.cHooked, q.oHooked) (mI 2 rfl)
  have s5 := S (q.cHere, q.oHere) (mI 12 rfl)
  have s6 := S (q.fH, q.hooked) (mI 3 rfl)
  have s7 := fn_hooked q
  have ok1 := ok.var
  have ok2 := ok.told
  have ok3 := ok.rows
  have ok4 := ok.hooked
  have ok5 := ok.here
  dsimp only at s1 s2 s3 s4 s5 s6
  have S2 : ∀ p ∈ q.st2, g'.get? p.1 = some p.2 := fun p hp => S p (LS.m23 hp)
  refine hideG fun GG hGG => ?_
  refine pw_vars O hHolds fun Vd df au pe Hd va k1 k2 k3 t1 t2 t3 n1 k4 t4 n2 mv1 mv2 mv3 mv4 => ?_
  obtain ⟨c, TT, rest0, rfl, hTT, offT, tellT⟩ := pw_open O hHolds
  refine hGG ?_; clear hGG GG
  have hTlen : (refs TT).length ≤ sizeLine := by
    rw [show (refs TT).length = r.told.length by unfold refs; rw [List.length_map]; exact hTT, sizeLine_eq]; omega
  have hTlen2 : (refs TT).length + 1 ≤ sizeLine := by
    rw [show (refs TT).length = r.told.length by unfold refs; rw [List.length_map]; exact hTT, sizeLine_eq]; omega
  refine hideG fun GG hGG => ?_
  suffices kk : ∀ rest, TT ++ rest0 = rest → GG by exact kk _ rfl
  intro rest hrest
  refine hGG ?_; clear hGG GG
  rw [hrest] at N' offT
  repeat' (k_extra "W1")
  (with_reducible rename News _ _ _ _ => NN)
  (with_reducible rename Fr _ _ _ _ => FF)
  (with_reducible rename _ ∧ AllLt _ _ => hlt0)
  refine hideG fun GG hGG => ?_
  suffices kk : ∀ DT tS, (@LT.lt Nat _ q.T DT ∧ AllLt DT rest) → (DT = DT) → News g' L' _ ((DT, tupOf [Value.str (Str.ofString "body") tS, Value.int k t] 0) :: (q.T, listOf (refs TT ++ [Value.ref DT]).toArray (c + 1)) :: rest) → GG by exact kk _ _ hlt0 rfl NN
  intro DT tS hlt hDT NN
  refine hGG ?_; clear hGG GG
  have O1 := tellT (.body k) DT _ 0 (c + 1) (.body k tS t) (Ne.symm (Nat.ne_of_lt hlt.1)) (by rw [hrest]; exact allLt_mem hlt.2)
  have N1 : News g' L' _ ((q.T, listOf (refs TT ++ [Value.ref DT]).toArray (c + 1)) :: (TT ++ (DT, tupOf [Value.str (Str.ofString "body") tS, Value.int k t] 0) :: rest0)) := fun p hp => NN p (by
    rw [← hrest]
    refine subOf ?_ hp; lcg_off)
  clear NN
  refine hideG fun GG hGG => ?_
  suffices kk : ∀ ws1, ((q.T, listOf (refs TT ++ [Value.ref DT]).toArray (c + 1)) :: (TT ++ (DT, tupOf [Value.str (Str.ofString "body") tS, Value.int k t] 0) :: rest0)) = ws1 → GG by exact kk _ rfl
  intro ws1 hws1
  rw [hws1] at N1 O1
  suffices kk : ∀ r1, r1 = { r with told := r.told ++ [Ev.body k] } → GG by exact kk _ rfl
  intro r1 hr1
  rw [← hr1] at O1
  have hrow1 : r1.rows k = none := by rw [hr1]; exact hrow
  refine pw_vars O1 (fun p hp => (N1 p hp).1) fun Vda dfa aua pea Hda vaa k1a k2a k3a t1a t2a t3a n1a k4a t4a n2a mv1a mv2a mv3a mv4a => ?_
  refine hGG ?_; clear hGG GG
  repeat' (k_extra "W1")
  change wpAny _ (ktrTop (dp + 1) (un + 3) gd _ _ L' q.fD _ _ (envX cn cs L a ccd cl :: outer)) _ _ _ _
  (with_reducible rename News _ _ _ _ => NN)
  (with_reducible rename Fr _ _ _ _ => FF)
  refine call_W (St := []) (own := []) (ws := _) (make_local_pw (prog := prog) (w := w) (p := p) (loose := loose) (mean := mean) (mg := mg) (mb := mb) (q := q) (r := r1) h0 (by omega)) (fun v => pw_good) B' X' T' rfl (by omega) (by omega) FF NN O1 (fun q hq => nomatch hq) (fun q hq => nomatch hq) ?_
  intro v2 h2 tk2 ws2 F2 N2 O2 off2
  dsimp only
  simp only [List.nil_append] at N2
  refine hideG fun GG hGG => ?_
  refine pw_vars O2 (fun p hp => (N2 p hp).1) fun Vdb dfb aub peb Hdb vab k1b k2b k3b t1b t2b t3b n1b k4b t4b n2b mv1b mv2b mv3b mv4b => ?_
  refine hGG ?_; clear hGG GG
  repeat' (k_extra "W1")
  change wpAny _ (ktrTop (dp + 1) (un + 3) gd _ _ L' q.fD _ _ (envX cn cs L a ccd cl :: outer)) _ _ _ _
  (with_reducible rename News _ _ _ _ => NN)
  (with_reducible rename Fr _ _ _ _ => FF)
  refine call_W (St := []) (own := []) (ws := _) (set_in_pw (prog := prog) (w := w) (p := p) (loose := loose) (mean := mean) (mg := mg) (mb := mb) (q := q) h0 (by omega)) (fun v => pw_good) B' X' T' rfl (by omega) (by omega) FF NN O2 (fun q hq => nomatch hq) (fun q hq => nomatch hq) ?_
  intro v3 h3 tk3 ws3 F3 N3 O3 off3
  dsimp only
  simp only [List.nil_append] at N3
  dsimp only at O3
  repeat' (k_extra "W1")
  · change wpAny _ (ktrTop (dp + 1) (un + 3) gd _ _ L' q.fD _ _ (envX cn cs L a ccd cl :: outer)) _ _ _ _
    (with_reducible rename News _ _ _ _ => N4)
    (with_reducible rename Fr _ _ _ _ => F4)
    (with_reducible rename Int.fmod _ _ = _ => a1)
    have a2 : k % 2 = 1 := by
      rw [Int.fmod_eq_emod_of_nonneg _ (by decide)] at a1
      exact a1
    refine call_W (St := []) (own := []) (ws := _) (add_local_pw (prog := prog) (w := w) (p := p) (loose := loose) (mean := mean) (mg := mg) (mb := mb) (q := q) (r := { r1 with x := (r1.x.makeLocal k).put k (10 + k) }) hrow1 (by omega) h0 (by omega)) (fun v => pw_good) B' X' T' rfl (by omega) (by omega) F4 N4 O3 (fun q hq => nomatch hq) (fun q hq => nomatch hq) ?_
    intro v5 h5 tk5 ws5 F5 N5 O5 off5
    dsimp only
    simp only [List.nil_append] at N5
    try dsimp only at O5
    repeat' (k_extra "W1")
    change wpAny _ (ktrTop (dp + 1) (un + 3) gd _ _ L' q.fD _ _ (envX cn cs L a ccd cl :: outer)) _ _ _ _
    (with_reducible rename News _ _ _ _ => N6)
    (with_reducible rename Fr _ _ _ _ => F6)
    refine call_W (St := []) (own := []) (ws := _) (set_in_pw (prog := prog) (w := w) (p := p) (loose := loose) (mean := mean) (mg := mg) (mb := mb) (q := q) (by omega) (by omega)) (fun v => pw_good) B' X' T' rfl (by omega) (by omega) F6 N6 O5 (fun q hq => nomatch hq) (fun q hq => nomatch hq) ?_
    intro v7 h7 tk7 ws7 F7 N7 O7 off7
    dsimp only
    try dsimp only at O7
    simp only [List.nil_append] at N7
    rw [show bodiedR r k = { r1 with rows := setAt r1.rows k (some [30 + k]), x := ((r1.x.makeLocal k).put k (10 + k)).put (5 - k) (20 + k) } from by rw [hr1, makeLocal_put]; unfold bodiedR; rw [if_pos a2]] at hk
    repeat' (k_extra "W1")
    repeat' (first | k_unfold | (dsimp only))
    obtain ⟨z1, z2⟩ := fin_W I hws keep gone F7 N7 O7
    exact hk _ _ _ _ z1 z2
  · change wpAny _ (ktrTop (dp + 1) (un + 3) gd _ _ L' q.fD _ _ (envX cn cs L a ccd cl :: outer)) _ _ _ _
    (with_reducible rename News _ _ _ _ => N4)
    (with_reducible rename Fr _ _ _ _ => F4)
    (with_reducible rename Int.fmod _ _ ≠ _ => a1)
    have a2 : ¬ k % 2 = 1 := by
      rw [Int.fmod_eq_emod_of_nonneg _ (by decide)] at a1
      exact a1
    refine call_W (St := []) (own := []) (ws := _) (set_in_pw (prog := prog) (w := w) (p := p) (loose := loose) (mean := mean) (mg := mg) (mb := mb) (q := q) (by omega) (by omega)) (fun v => pw_good) B' X' T' rfl (by omega) (by omega) F4 N4 O3 (fun q hq => nomatch hq) (fun q hq => nomatch hq) ?_
    intro v7 h7 tk7 ws7 F7 N7 O7 off7
    dsimp only
    try dsimp only at O7
    simp only [List.nil_append] at N7
    rw [show bodiedR r k = { r1 with rows := r1.rows, x := ((r1.x.makeLocal k).put k (10 + k)).put (5 - k) (20 + k) } from by rw [hr1, makeLocal_put]; unfold bodiedR; rw [if_neg a2]] at hk
    repeat' (k_extra "W1")
    repeat' (first | k_unfold | (dsimp only))
    obtain ⟨z1, z2⟩ := fin_W I hws keep gone F7 N7 O7
    exact hk _ _ _ _ z1 z2
end
section
theorem wtSwitch : True := by
  w_top off
  trivial
theorem kwSwitch1 : True := by
  k_with_none
  k_with "W1" => ((fail_if_success (with_reducible show wpAny _ _ (PySem.call (Value.ref _) _ _) _ _ _)); (fail_if_success (with_reducible show wpAny _ _ (pyIter _) _ _ _)); (fail_if_success (with_reducible show wpAny _ _ (PySem.exec (Stmt.For _ _ _ _ _) _) _ _ _)); first | (k_unfold; (try dsimp only)) | walk1 | (dsimp only; walk1) | fail "no step")
  k_with "k_enter" => (first | (refine' code_def (by k_asm) (by k_asm) (by k_asm) (by k_asm) (by k_asm) rfl rfl (by first | exact rfl | assumption) (by k_is) (by k_is) (by k_room) (by first | exact BindsTo.of_eq rfl | exact binds_K (by k_in) rfl (by k_is) rfl rfl rfl) (by exact locs rfl) ?_ (by exact rfl) (by exact rfl) (by exact rfl) (by decide); k_whole; intro _ _ _ _ _ _ Bz9 _ _; (try dsimp only); (try k_lift Bz9); (try k_fold)) | (refine' code_defC (by k_asm) (by k_asm) (by k_asm) (by k_asm) (by k_asm) rfl rfl (by first | exact rfl | assumption) (by k_is) (by k_is) (by k_room) (by first | exact BindsTo.of_eq rfl | exact binds_K (by k_in) rfl (by k_is) rfl rfl rfl) (by exact rfl) (by decide +kernel) ?_ (by exact rfl) (by exact rfl) (by exact rfl); k_whole; intro _ _ _ _ _ _ _ Nz9 Yz9 Bz9 _ _ lz9; (try k_lt lz9); k_cells Yz9; (try simp only [List.cons_append, List.nil_append] at Nz9); (try dsimp only); (try k_lift Bz9); (try k_fold)) | fail)
  k_with "execs cons" => (k_fold; (first | show wpAny _ AB (PySem.execs _ eB) _ _ _ | (show (let eB := _; let AB := _; wpAny _ AB (PySem.execs _ eB) _ _ _); intro eB AB)); refine wpAny_execs_cons ?_)
  k_with "omega" => first | exact Nat.le_of_ble_eq_true rfl | with_reducible assumption | exact Mine.o1 (by with_reducible assumption) (by exact rfl) | exact Mine.o3 (by with_reducible assumption) (by exact rfl) | exact Mine.o2 (by with_reducible assumption) (by exact rfl) | exact Mine.o4 (by with_reducible assumption) (by exact rfl) | exact Mine.o5 (by with_reducible assumption) (by exact rfl) | exact Mine.o6 (by with_reducible assumption) (by exact rfl) | exact Mine.o7 (by with_reducible assumption) (by exact rfl) | exact Mine.o8 (by with_reducible assumption) (by exact rfl) | exact Mine.o9 (by with_reducible assumption) (by exact rfl) | exact Mine.o10 (by with_reducible assumption) (by exact rfl) | exact Mine.o11 (by with_reducible assumption) (by exact rfl) | exact Mine.o12 (by with_reducible assumption) (by exact rfl) | exact Mine.o13 (by with_reducible assumption) (by exact rfl) | exact Nat.ne_of_lt (by with_reducible assumption) | exact Nat.ne_of_gt (by with_reducible assumption) | exact Nat.le_of_lt (by with_reducible assumption) | fail
  k_with "tlg_ne" => first | exact List.Mem.head _ | (apply List.Mem.tail; tlg_ne) | (apply List.mem_append_left; tlg_ne) | (apply List.mem_append_right; tlg_ne)
  k_with "lcg_off" => first | exact List.Subset.refl _ | exact List.nil_subset _ | (refine List.Sublist.subset ?_; (repeat first | exact List.Sublist.refl _ | apply List.Sublist.cons_cons | apply List.Sublist.cons); done) | (refine Mine.subC ?_ ?_; (focus tlg_ne); lcg_off) | (refine Mine.subA ?_ ?_ <;> lcg_off) | (apply List.subset_cons_of_subset; lcg_off) | (apply List.subset_append_of_subset_left; lcg_off) | (apply List.subset_append_of_subset_right; lcg_off)
  trivial
/-- the state of the modes, taken apart -/
theorem own_modeS {S : Addr} {mj : Int} {on : List Int} {ws : List (Addr × Obj)} {h : Heap} (O : Own (ModeS S mj on) ws) (hh : Holds h ws) : ∃ d l k1 k2 t1 t2 tm c vs, ws = [(S, instObj 163 d), (d, dictOf [⟨k1, .str "major" t1, .int mj tm⟩, ⟨k2, .str "on" t2, .ref l⟩] 2), (l, listOf vs.toArray c)] ∧ [S, d, l].Nodup ∧ IntsAre vs on := by
  refine hideG fun GG hGG => ?_
  obtain ⟨d, l, k1, k2, t1, t2, tm, c, vs, e, nd, iv, k⟩ := O h hh
  refine hGG ?_; clear hGG GG
  exact ⟨d, l, k1, k2, t1, t2, tm, c, vs, same_list (h := h) e hh k, nd, iv⟩
theorem modeS_own {S d l : Addr} {mj : Int} {on : List Int} {k1 k2 : Int} {t1 t2 tm : Tok} {c : Nat} {vs : List Value} (nd : [S, d, l].Nodup) (iv : IntsAre vs on) : Own (ModeS S mj on) [(S, instObj 163 d), (d, dictOf [⟨k1, .str "major" t1, .int mj tm⟩, ⟨k2, .str "on" t2, .ref l⟩] 2), (l, listOf vs.toArray c)] :=
  fun _ hh => ⟨d, l, k1, k2, t1, t2, tm, c, vs, rfl, nd, iv, hh⟩
/-- a key in a dict of the base -/
theorem in_40 {prog : Program} {w : World} {A : Around} {E : Value → Shared → Prop} {s : Shared} {h₀ : Heap} {L d : Addr} {m : Str → Option Value} {o : Obj} {k : Int} {t : Tok} {Q : Value → Shared → Prop} {b : Bool} (F : Fr h₀ L s.heap m) (hp : h₀.get? d = some o) (hd : o.IsDictOf (PySem.intKind prog w) [(40, .bool b)]) (lo : (d == sysModules) = false) (h : Q (.bool (decide (k = 40))) { s with toks := s.toks + 1 }) :
    wpAny (model prog w) A (compareOp .In (.int k t) (.ref d)) Q E s := by
  refine wpAny_in_of (intKind_is _ _ _ _) lo (Heap.dictOf_iff.mpr ⟨_, F.keep _ _ hp, hd⟩ : s.heap.DictOf _ _ _).mapOf ?_
  have e : (valueAt [((40 : Int), Value.bool b)] k).isSome = decide (k = 40) := by
    unfold valueAt
    by_cases hk : k = 40
    · subst hk; rfl
    · have : ¬ (40 = k) := fun e => hk e.symm
      simp [List.find?_cons, this, hk]
  rw [e]; exact h
theorem kwSwitch2 : True := by
  k_with "k_room" => ((try simp only [depth_mark, depth_under_make, depth_under_kw, depth_in1, depth_deeper]); first | assumption | (show _ < 1000; (try dsimp only); omega))
  k_with "k_ne" => ((refine neN ?_); (try dsimp only); first | assumption | exact Ne.symm (by assumption))
  k_with "compareOp In int ref" => (k_here; k_dflt (first | (refine' in_C (by k_asm) (by k_mem) (by k_asm) (by k_asm) (by k_asm) ?_) | (refine' in_I (by k_asm) (by k_mem) (by k_asm) (by k_asm) (by k_asm) ?_) | (refine' in_B (by k_asm) (by k_mem) (by k_asm) (by k_asm) (by k_asm) ?_)))
  k_with "compareOp NotIn int ref" => (k_here; k_dflt ( (refine' notin_C (by k_asm) (by k_mem) (by k_asm) (by k_asm) (by k_asm) ?_)))
  k_with "call builtin:dict.get" => (k_here; k_dflt (first | (refine' get_I (by k_asm) (by k_mem) (by k_asm) (by k_asm) (by k_asm) ?_; refine ⟨fun _ _ _ => ?_, fun _ => ?_⟩) | (refine' get_B (by k_asm) (by k_mem) (by k_asm) (by k_asm) (by k_asm) ?_; (try simp only [Bool.or_false]))))
  k_with "getMethod ref" => (k_here; (with_reducible show wpAny _ _ (getMethod (Value.ref _) (Str.ofString "get") _) _ _ _); k_dflt (refine' kdg_method (knd := PySem.intKind _ _) (by k_asm) (by k_mem) (by k_asm) ?_))
  k_with "subscriptTail" => (k_here; (with_reducible show wpAny _ _ (subscriptTail _ _ (Value.ref _) (Value.int _ _)) _ _ _); k_dflt (refine' item_C (by k_asm) (by k_mem) (by k_asm) (by k_asm) (by k_asm) ?_ (by with_unfolding_all rfl); intro _ _ _ _))
  k_with "setItem ref int" => (k_here; k_dflt (refine' kda_set (knd := PySem.intKind _ _) (by k_asm) (by k_asm) (by k_updF) (by k_asm) (intKind_is _ _ _ _) (by exact KOK.line (by k_asm) (by k_asm)) ?_; intro hz9 oz9 Fz9 Nz9 hdz9; (try dsimp only at Nz9); (try k_sweep); revert hz9 oz9 Fz9 Nz9 hdz9; intro _ _ _ _ _))
  trivial
variable {prog : Program} {w : World} {p : Program} {loose : List Str} {mean : ExcName → Option Value} {mg mb : Str → Option Value}
theorem kwSwitch3 : True := by
  k_with "eval ListComp" => (k_here; k_dflt (refine LCt.ListComp_T (F₀ := by k_asm) (by with_unfolding_all rfl) (by decide) (by rfl) (by decide) (by rfl) ?_))
  k_with "CompSrcT" => (k_here; k_dflt (first | (refine' LCt.CompSrcT.ledger rfl (by k_asm) (by k_asm) (by k_mem) (by k_asm) ?_) | (refine' LCt.CompSrcT.base rfl (by k_asm) (by k_asm) (by k_asm) (by k_asm) ?_)); intro _; k_dflt (refine' flt_rest (by k_asm) (by k_asm) (by first | exact .inl (by k_asm) | exact .inr ⟨_, by k_mem, rfl, _, rfl⟩) rfl rfl (by decide) (fun _ _ _ _ _ _ _ _ _ _ _ _ _ _ _ _ _ _ _ => ?_) (fun _ _ => ?_)); (all_goals (try (simp only [LCg.Off3, and_true] at off'))))
  k_with "FltT" => (k_here; k_dflt (refine' flt_t (by k_asm) (by k_asm) (by intro pz9 hpz9; first | exact hpz9 | exact .tail _ hpz9 | exact .tail _ (.tail _ hpz9) | exact .tail _ (.tail _ (.tail _ hpz9))) ?_); (try rfl))
  k_with "call type:list" => (k_here; k_dflt (refine' list_D rfl (by k_asm) (by k_asm) (by k_mem) (by k_asm) (by k_asm) (by k_asm) ?_); intro Bz9 cz9 hz9 tkz9 vsz9 Fz9 Nz9 l1z9 hiz9 h64z9 hszz9; (try k_lt l1z9); (try k_sweep); revert Bz9 cz9 hz9 tkz9 vsz9 Fz9 Nz9 l1z9 hiz9 h64z9 hszz9; intro _ _ _ _ _ _ _ _ _ _ _)
  k_with "call builtin:sorted" => (k_here; k_dflt (refine' sorted_L (by k_asm) (by k_asm) (by k_mem) (by k_asm) (by k_asm) ?_); intro Bz9 vsz9 nsz9 cz9 hz9 Fz9 Nz9 l1z9 hiz9 hpmz9 h64z9 hszz9; (try k_lt l1z9); (try k_sweep); revert Bz9 vsz9 nsz9 cz9 hz9 Fz9 Nz9 l1z9 hiz9 hpmz9 h64z9 hszz9; intro _ _ _ _ _ _ _ _ _ _ _ _)
  k_with "call builtin:dict.pop" => (k_here; k_dflt (refine' pop_C (by k_asm) (by k_asm) (by k_updF) (by k_asm) (by k_asm) (by k_asm) ?_); intro hz9 oz9 vz9 Fz9 Nz9 hdz9; (try dsimp only at Nz9); (try k_sweep); revert hz9 oz9 vz9 Fz9 Nz9 hdz9; intro _ _ _ _ _ _)
  k_with "getMethod ref" => (k_here; (with_reducible show wpAny _ _ (getMethod (Value.ref _) (Str.ofString "pop") _) _ _ _); k_dflt (refine' popm_D (by k_asm) (by k_mem) (by k_asm) ?_))
  k_with "eval Name" => (k_here; k_dflt (refine' nameX_L (by k_asm) (by first | exact rfl | assumption) ?_ (by rfl) (by rfl); k_whole))
  k_with "k_ne" => ((refine neN ?_); (try dsimp only); first | assumption | exact Ne.symm (by assumption) | omega)
  k_with "k_units" => (first | exact Nat.le_of_ble_eq_true rfl | (simp only [ktrTop, units_deeper, units_in1, cLine_is]; omega) | ((try dsimp only [ktrTop, Around.deeper, Around.in1, Around.under]); rw [cLine_is]; omega))
  k_with "compareOp In int ref" => (k_here; k_dflt (first | (refine' in_list_ints (by first | exact led_list (by k_asm) (by k_mem) | exact base_list (by k_asm) (by k_asm)) (by first | k_asm | exact .cons _ _ .nil | exact .nil) ?_; k_whole) | (refine' in_E (by k_asm) (by k_asm) (by k_asm) (by k_asm) ?_)))
  k_with "compareOp NotEq ref ref" => (k_here; k_dflt (refine' ne_E (by k_asm) (by k_mem) (by k_mem) (by k_asm) (by k_asm) (by k_asm) (by k_asm) (by k_units) ?_))
  k_with "binaryOp Add ref ref" => (k_here; k_dflt (refine' add_L (by k_asm) (by k_asm) (by first | exact led_list (by k_asm) (by k_mem) | exact base_list (by k_asm) (by k_asm)) (by first | exact led_list (by k_asm) (by k_mem) | exact base_list (by k_asm) (by k_asm)) (by first | k_asm | exact .cons _ _ .nil | exact .nil) (by first | k_asm | exact .cons _ _ .nil | exact .nil) (by first | k_asm | (simp only [List.length_cons, List.length_nil, sizeLine_eq]; omega)) ?_); intro hz9 Dz9 Fz9 Nz9 l1z9 hiz9; (try k_lt l1z9); (try k_sweep); revert hz9 Dz9 Fz9 Nz9 l1z9 hiz9; intro _ _ _ _ _ _)
  k_with "call builtin:dict.get" => (k_here; k_dflt (first | (refine' get_V (by k_asm) (by k_mem) (by k_asm) (by k_asm) (by first | k_asm | exact vaSame _ _ _) ?_) | (refine' get_N (by k_asm) (by k_mem) (by k_asm) (by k_asm) (by k_asm) ?_)))
  k_with "call type:list" => (k_here; k_dflt (refine' copy_L (by k_asm) (by k_asm) (by k_mem) (by k_asm) ?_); intro Bz9 cz9 hz9 tkz9 Fz9 Nz9 l1z9; (try k_lt l1z9); (try k_sweep); revert Bz9 cz9 hz9 tkz9 Fz9 Nz9 l1z9; intro _ _ _ _ _ _ _)
  k_with "call builtin:list.extend" => (k_here; k_dflt (refine' ext_L (by k_asm) (by k_asm) (by k_updF) (by k_mem) (by first | k_asm | exact .cons _ _ .nil | exact .nil) (by first | k_asm | exact .cons _ _ .nil | exact .nil) (by first | k_asm | (simp only [List.length_cons, List.length_nil, sizeLine_eq]; omega)) ?_); intro hz9 nz9 Fz9 Nz9 hiz9; (try dsimp only at Nz9); (try k_sweep); revert hz9 nz9 Fz9 Nz9 hiz9; intro _ _ _ _ _)
  k_with "k_all" => with_reducible assumption
  k_with "subscriptTail" => (k_here; (with_reducible show wpAny _ _ (subscriptTail _ _ (Value.ref _) (Value.int _ _)) _ _ _); k_dflt (refine' item_V (by k_asm) (by k_mem) (by k_asm) (by k_asm) ?_ (by with_unfolding_all rfl)))
  k_with "compareOp Eq ref ref" => (k_here; k_dflt (refine' ke_eq_ints (by first | exact led_list (by k_asm) (by k_mem) | exact base_list (by k_asm) (by k_asm)) (by first | exact led_list (by k_asm) (by k_mem) | exact base_list (by k_asm) (by k_asm)) (by first | k_asm | exact .cons _ _ .nil | exact .nil) (by first | k_asm | exact .cons _ _ .nil | exact .nil) (by k_units) ?_))
  k_with "k_mem" => (with_reducible refine memOf ?_; with_reducible assumption)
  k_with "subscriptTail" => (k_here; (with_reducible show wpAny _ _ (subscriptTail _ _ (Value.ref _) (Value.str _ _)) _ _ _); k_dflt (refine' item_S (by k_asm) (by k_mem) (by k_asm) (by rfl) ?_ (by with_unfolding_all rfl)))
  k_with "call builtin:list.append" => (k_here; (with_reducible show wpAny _ _ (call (Value.builtin _) [Value.ref _, _]) _ _ _); k_dflt (refine' app_T (by k_asm) (by k_asm) (by k_updF) (by k_asm) ?_); intro hz9 Fz9 Nz9; (try dsimp only at Nz9); (try k_sweep); revert hz9 Fz9 Nz9; intro _ _ _)
  k_with "call builtin:len" => (k_here; (with_reducible show wpAny _ _ (call (Value.builtin _) [Value.ref _]) _ _ _); k_dflt (refine' len_T (by k_asm) (by k_mem) (by first | k_asm | (simp only [List.length_append, List.length_cons, List.length_nil]; k_asm)) ?_))
  k_with "callWith ref" => (k_here; k_dflt (first | ((with_reducible show wpAny _ _ (callWith _ (Value.ref _) _ (backTo _ (starEach [] _)) []) _ _ _); refine' callWith_F0 (by exact fnAt_b (by k_asm) (by assumption) (by assumption)) ?_; k_whole; try dsimp only [List.nil_append, List.cons_append]) | ((with_reducible show wpAny _ _ (callWith _ (Value.ref _) _ (backTo _ (starEach (_ :: _) _)) []) _ _ _); refine' callWith_F (by exact fnAt_b (by k_asm) (by assumption) (by assumption)) ?_; k_whole) | fail))
  k_with "FnAt" => (k_dflt (exact fnAt_b (by k_asm) (by assumption) (by assumption)))
  k_with "compareOp In int ref" => (k_here; k_dflt (refine' in_40 (by k_asm) (by assumption) (by assumption) (by assumption) ?_))
  trivial
theorem own_sort {m0 : Str → Option Value} {a b c d : Option Value} : (fun y => if y = Str.ofString "own" then a else if y = Str.ofString "sort" then b else if y = Str.ofString "own" then c else if y = Str.ofString "sort" then d else m0 y) = (fun y => if y = Str.ofString "own" then a else if y = Str.ofString "sort" then b else m0 y) := by
  funext y
  split
  · rfl
  · split <;> rfl
theorem switch_s {q : LS} (ok : q.Ok) {TB SS P : Addr} {oP : Obj} {b40 : Bool} {r : RecSt} {k : Int} {t : Tok} (h0 : 0 ≤ k) (h9 : k < 4) (hP : oP.IsDictOf (PySem.intKind prog w) [(40, .bool b40)]) (loP : (P == sysModules) = false)
    (hrow : RowsOk r.rows) (hev : ∀ w ns, r.every w = some ns → ns.length < 60) (htold : r.told.length < 85000) (hon : r.on.length < 60) :
    SpecS prog w p loose mean mg mb ((P, oP) :: q.st3) 16 177 [.ref TB, .ref SS, .int k t, .ref P, .ref q.fD] (Star (TableC prog w TB 4) (Star (ModeS SS r.mode r.on) (PW prog w q r)))
      (fun _ => Star (TableC prog w TB 4) (Star (ModeS SS k (switchedR r k).on) (PW prog w q (switchedR r k)))) := by
  intro dp un gd cn cs a ccd cl outer A₀ base h₀ L m s Q E fp B X0 T hke hdp hu hst I hk
  refine hideG fun GG hGG => ?_
  obtain ⟨ws, hws, hHolds, O⟩ := own_of (Star.good table_good (Star.good modeS_good pw_good)) I.C
  have F := I.F
  have N := I.news (hid := ws) (fun p hp => ⟨hws ▸ List.mem_map_of_mem hp, hHolds p hp⟩)
  obtain ⟨wT, wX, rfl, OT, OX, disT⟩ := own_star table_good (Star.good modeS_good pw_good) hHolds O
  obtain ⟨wS, wP, rfl, OS, OP, disS⟩ := own_star modeS_good pw_good (fun p hp => hHolds p (List.mem_append_right _ hp)) OX
  refine hGG ?_; clear hGG GG
  refine wpAny_call ?_
  refine enterC (K := hd.heap_1 w.params) (f := 177) B F X0 T N rfl rfl hke ((X0.keeps F.keep) _ _ (by k_is)) rfl (codeRec_of (X0.keeps F.keep) (by k_is)) (by k_room) rfl rfl (by decide +kernel) ?_ rfl rfl rfl
  intro g' L' h' tk' cells' keep gone fresh F' N' Y' B' X' T' lt
  have S : ∀ p ∈ ((P, oP) :: q.st3), g'.get? p.1 = some p.2 := fun p hp => keep _ _ (hst p hp).1 (hws ▸ (hst p hp).2)
  have sP : g'.get? P = some oP := S (P, oP) (.head _)
  have sD : g'.get? q.fD = some q.do := S (q.fD, q.do) (mI 1 rfl)
  have fD := fn_do q
  have S3 : ∀ p ∈ q.st3, g'.get? p.1 = some p.2 := fun p hp => S p (.tail _ hp)
  clear N F B X0 T
  k_cells Y'
  simp only [List.cons_append, List.nil_append] at N'
  try dsimp only
  try k_fold
  refine hideG fun GG hGG => ?_
  suffices kk : ∀ oc, oc.data = Data.cell (some (.ref P)) → News g' L' h' ((L' + 1, oc) :: (wT ++ (wS ++ wP))) → GG by exact kk _ (by assumption) N'
  intro oc dcell N'
  suffices kk : ∀ m0 : Str → Option Value, Fr g' L' h' m0 → m0 (Str.ofString "table") = some (.ref TB) → m0 (Str.ofString "state") = some (.ref SS) → m0 (Str.ofString "symbol") = some (.int k t) → m0 (Str.ofString "do") = some (.ref q.fD) → GG by exact kk _ F' rfl rfl rfl rfl
  intro m0 F0 e1 e2 e3 e4
  refine hGG ?_; clear hGG GG
  clear F'
  refine wpAny_execs_cons ?_
  refine wpAny_For ?_
  repeat' (k_extra "W1")
  change wpAny _ (ktrTop (dp + 1) (un + 3) gd _ _ L' 177 _ _ (envX cn cs L a ccd cl :: outer)) _ _ _ _
  refine call_W (own := (L' + 1, oc) :: (wS ++ wP)) (ws := wT) (Spec.toS (switch_steps_s (prog := prog) (w := w) (p := p) (loose := loose) (mean := mean) (mg := mg) (mb := mb) h0 h9)) (St := []) (fun v => Star.good table_good steps_good) B' X' T' rfl (by omega) (by omega) F0 (fun p hp => N' p (by
      refine subOf ?_ hp; lcg_off)) OT (fun p hp z => ?_) (fun q hq => nomatch hq) ?_
  · obtain ⟨p', hp', z⟩ := List.mem_map.mp z
    rcases List.mem_cons.mp hp with rfl | hp
    · exact Nat.ne_of_lt (Nat.lt_succ_of_lt (lt p' (List.mem_append_left _ hp'))) z
    · exact disT p' hp' (z ▸ List.mem_map_of_mem hp)
  intro v1 h1 tk1 ws1 F1 N1 O1 off1
  refine hideG fun GG hGG => ?_
  obtain ⟨wT1, wl, rfl, OT1, Ol, dis1⟩ := own_star table_good steps_good (fun p hp => (N1 p (List.mem_append_right _ hp)).1) O1
  obtain ⟨D, cD, TT, rfl, rfl, ndT, ev⟩ := own_steps Ol (fun p hp => (N1 p (List.mem_append_right _ (List.mem_append_right _ hp))).1)
  suffices kk : ∀ fx, fx = (L' + 1, oc) :: (D, listOf (refs TT).toArray cD) :: (TT ++ wT1) → GG by exact kk _ rfl
  intro fx hfx
  refine hGG ?_; clear hGG GG
  have mfD : (D, listOf (refs TT).toArray cD) ∈ fx := by rw [hfx]; exact .tail _ (.head _)
  have mfC : (L' + 1, oc) ∈ fx := by rw [hfx]; exact .head _
  have mfT : ∀ p ∈ TT, p ∈ fx := fun p hp => by rw [hfx]; exact .tail _ (.tail _ (List.mem_append_left _ hp))
  have mfW : ∀ p ∈ wT1, p ∈ fx := fun p hp => by rw [hfx]; exact .tail _ (.tail _ (List.mem_append_right _ hp))
  have hlow : ∀ p ∈ fx, p = (L' + 1, oc) ∨ p ∈ wT1 ++ ((D, listOf (refs TT).toArray cD) :: TT) := fun p hp => by
    rw [hfx] at hp
    exact (List.mem_cons.mp hp).imp id fun h => (List.mem_cons.mp h).elim (fun e => List.mem_append_right _ (by rw [e]; exact .head _)) fun h => (List.mem_append.mp h).elim (fun h => List.mem_append_right _ (.tail _ h)) (List.mem_append_left _)
  have hfS : ∀ p ∈ fx, p.1 ∉ wS.map (·.1) := fun p hp z => by
    obtain ⟨p', hp', z⟩ := List.mem_map.mp z
    rcases hlow p hp with rfl | hp
    · exact Nat.ne_of_lt (Nat.lt_succ_of_lt (lt p' (List.mem_append_right _ (List.mem_append_left _ hp')))) z
    · exact off1 p' (.tail _ (List.mem_append_left _ hp')) (z ▸ List.mem_map_of_mem hp)
  have hfP : ∀ p ∈ fx, p.1 ∉ wP.map (·.1) := fun p hp z => by
    obtain ⟨p', hp', z⟩ := List.mem_map.mp z
    rcases hlow p hp with rfl | hp
    · exact Nat.ne_of_lt (Nat.lt_succ_of_lt (lt p' (List.mem_append_right _ (List.mem_append_right _ hp')))) z
    · exact off1 p' (.tail _ (List.mem_append_right _ hp')) (z ▸ List.mem_map_of_mem hp)
  have N2 : News g' L' h1 (fx ++ (wS ++ wP)) := fun p hp => N1 p (by
    rcases List.mem_append.mp hp with h | h
    · rcases hlow p h with rfl | h
      · simp
      · exact List.mem_append_right _ h
    · exact List.mem_append_left _ (.tail _ h))
  have ev2 : PairsA (stepsK k) TT := ev
  clear N1 N' O1 Ol F0 hfx off1 disT
  dsimp only
  refine Iter_ledT (g := g') (L := L') (items := (refs TT).toArray) rfl F1 (nw₀ := fx ++ (wS ++ wP)) N2
    (fun i m nw => ∃ u1 u2 wS wP, m = (fun y => if y = Str.ofString "own" then u1 else if y = Str.ofString "sort" then u2 else m0 y) ∧ nw = fx ++ (wS ++ wP) ∧ Own (ModeS SS (((stepsK k).take i).foldl stepR r).mode (((stepsK k).take i).foldl stepR r).on) wS ∧ Own (PW prog w q (((stepsK k).take i).foldl stepR r)) wP ∧ (∀ p ∈ fx, p.1 ∉ wS.map (·.1)) ∧ (∀ p ∈ fx, p.1 ∉ wP.map (·.1)) ∧ (∀ p ∈ wS, p.1 ∉ wP.map (·.1))) ?_ ?_ ?_ ?_
  · rintro i m nw h ⟨u1, u2, wS, wP, rfl, rfl, _⟩ F N
    exact ⟨_, (N _ (List.mem_append_left _ mfD)).1, rfl, _, rfl⟩
  · refine ⟨m0 (Str.ofString "own"), m0 (Str.ofString "sort"), wS, wP, ?_, rfl, OS, OP, hfS, hfP, disS⟩
    funext y
    split
    · rename_i e; rw [e]
    · split
      · rename_i e; rw [e]
      · rfl
  · rintro i v it oi h tk m nw hx ⟨u1, u2, wS, wP, rfl, rfl, OS, OP, hfS, hfP, disS⟩ off F N
    refine hideG fun GG hGG => ?_
    obtain ⟨aT, s9, o9, tt9, uu9, n9, rfl, hpi, hmT⟩ := PairsA.at ev2 i v (by simpa using hx)
    refine hGG ?_; clear hGG GG
    have hval := stepsK_vals h0 h9 (s9, o9) (List.mem_of_getElem? hpi)
    have hpre : ∀ p ∈ (stepsK k).take i, 0 ≤ p.2 := fun p hp => (stepsK_vals h0 h9 p (List.mem_of_mem_take hp)).1
    have hstep := foldS_at (r := r) hpi
    have hrowI : RowsOk (((stepsK k).take i).foldl stepR r).rows := by rw [foldS_rows]; exact foldS_ok hrow hpre
    have hevI : ∀ w ns, (((stepsK k).take i).foldl stepR r).every w = some ns → ns.length < 60 := by rw [foldS_every]; exact hev
    have htoldI : (((stepsK k).take i).foldl stepR r).told.length < 88000 := by
      have h1 := foldS_told (l := (stepsK k).take i) hrow hev hpre
      have h2 := stepsK_len h0 h9
      rw [List.length_take] at h1
      omega
    have honI : (((stepsK k).take i).foldl stepR r).on.length < 60 := Nat.lt_of_le_of_lt foldS_on hon
    have hnone : s9 = 2 → (((stepsK k).take i).foldl stepR r).rows o9 = none := fun e => by
      rw [foldS_rows]; exact body_none h0 h9 (e ▸ hpi)
    generalize ((stepsK k).take i).foldl stepR r = rI at *
    refine hideG fun GG hGG => ?_
    obtain ⟨dS, lS, ks1, ks2, ts1, ts2, tsm, cS, vS, rfl, ndS, ivS⟩ := own_modeS OS (fun p hp => (N p (.tail _ (List.mem_append_right _ (List.mem_append_left _ hp)))).1)
    suffices kk : ∀ rest, rest = fx ++ wP → GG by exact kk _ rfl
    intro rest hrest
    refine hGG ?_; clear hGG GG
    have mC : (L' + 1, oc) ∈ rest := by rw [hrest]; exact List.mem_append_left _ mfC
    have mT : (aT, tupOf [Value.int s9 tt9, Value.int o9 uu9] n9) ∈ rest := by rw [hrest]; exact List.mem_append_left _ (mfT _ hmT)
    have oSS : ∀ p ∈ rest, p.1 ≠ SS := fun p hp e => by
      rw [hrest] at hp
      rcases List.mem_append.mp hp with h | h
      · exact hfS p h (e ▸ by first | exact .head _ | exact .tail _ (.head _) | exact .tail _ (.tail _ (.head _)))
      · exact disS (SS, _) (.head _) (List.mem_map.mpr ⟨p, h, e⟩)
    have oSd : ∀ p ∈ rest, p.1 ≠ dS := fun p hp e => by
      rw [hrest] at hp
      rcases List.mem_append.mp hp with h | h
      · exact hfS p h (e ▸ by first | exact .head _ | exact .tail _ (.head _) | exact .tail _ (.tail _ (.head _)))
      · exact disS (dS, _) (.tail _ (.head _)) (List.mem_map.mpr ⟨p, h, e⟩)
    have oSl : ∀ p ∈ rest, p.1 ≠ lS := fun p hp e => by
      rw [hrest] at hp
      rcases List.mem_append.mp hp with h | h
      · exact hfS p h (e ▸ by first | exact .head _ | exact .tail _ (.head _) | exact .tail _ (.tail _ (.head _)))
      · exact disS (lS, _) (.tail _ (.tail _ (.head _))) (List.mem_map.mpr ⟨p, h, e⟩)
    have oit : ∀ p ∈ rest, p.1 ≠ it := fun p hp => by
      rw [hrest] at hp
      rcases List.mem_append.mp hp with h | h
      · exact off p (List.mem_append_left _ h)
      · exact off p (List.mem_append_right _ (List.mem_append_right _ h))
    have oi1 : SS ≠ it := off (SS, _) (List.mem_append_right _ (List.mem_append_left _ (.head _)))
    have oi2 : dS ≠ it := off (dS, _) (List.mem_append_right _ (List.mem_append_left _ (.tail _ (.head _))))
    have oi3 : lS ≠ it := off (lS, _) (List.mem_append_right _ (List.mem_append_left _ (.tail _ (.tail _ (.head _)))))
    have n31 : SS ≠ dS := fun e => (List.nodup_cons.mp ndS).1 (by rw [e]; exact .head _)
    have n32 : SS ≠ lS := fun e => (List.nodup_cons.mp ndS).1 (by rw [e]; exact .tail _ (.head _))
    have n33 : dS ≠ lS := fun e => (List.nodup_cons.mp (List.nodup_cons.mp ndS).2).1 (by rw [e]; exact .head _)
    have NN : News g' L' h ((it, oi) :: (SS, instObj 163 dS) :: (dS, dictOf [⟨ks1, .str "major" ts1, .int rI.mode tsm⟩, ⟨ks2, .str "on" ts2, .ref lS⟩] 2) :: (lS, listOf vS.toArray cS) :: rest) := fun p hp => N p (by
      rw [hrest] at hp
      refine subOf ?_ hp; lcg_off)
    have hvl : vS.toArray.size ≤ sizeLine := by rw [List.size_toArray, ivS.length, sizeLine_eq]; omega
    have hFP : FltP (fun i => decide (i = 40)) := trivial
    have dw1 : SS ∉ wP.map (·.1) := disS (SS, _) (.head _)
    have dw2 : dS ∉ wP.map (·.1) := disS (dS, _) (.tail _ (.head _))
    have dw3 : lS ∉ wP.map (·.1) := disS (lS, _) (.tail _ (.tail _ (.head _)))
    clear N off OS
    obtain ⟨ho0, ho9, hs9⟩ := hval
    dsimp only at hs9 hstep ho0 ho9
    have dit : it ∉ wP.map (·.1) := fun z => by
      obtain ⟨p', hp', z⟩ := List.mem_map.mp z
      exact oit p' (hrest ▸ List.mem_append_right _ hp') z
    have hend : ∀ (oD o3 : Obj) (l3 : Addr) (h8 : Heap) (mm : Str → Option Value) (wP8 : List (Addr × Obj)), mm = (fun y => if y = Str.ofString "own" then some (.int o9 uu9) else if y = Str.ofString "sort" then some (.int s9 tt9) else m0 y) →
        News g' L' h8 (((it, oi) :: (SS, instObj 163 dS) :: (dS, oD) :: (l3, o3) :: fx) ++ wP8) → Own (ModeS SS (stepR rI (s9, o9)).mode (stepR rI (s9, o9)).on) [(SS, instObj 163 dS), (dS, oD), (l3, o3)] → Own (PW prog w q (stepR rI (s9, o9))) wP8 → l3 ≠ it → (∀ p ∈ rest, p.1 ≠ l3) →
        (∀ q ∈ ((it, oi) :: (SS, instObj 163 dS) :: (dS, oD) :: (l3, o3) :: fx), q.1 ∉ wP8.map (·.1)) →
        ∀ G : Prop, (∀ nw, News g' L' h8 ((it, oi) :: nw) → (∀ p ∈ nw, p.1 ≠ it) → (∃ u1 u2 wS wP, mm = (fun y => if y = Str.ofString "own" then u1 else if y = Str.ofString "sort" then u2 else m0 y) ∧ nw = fx ++ (wS ++ wP) ∧ Own (ModeS SS (((stepsK k).take (i + 1)).foldl stepR r).mode (((stepsK k).take (i + 1)).foldl stepR r).on) wS ∧ Own (PW prog w q (((stepsK k).take (i + 1)).foldl stepR r)) wP ∧ (∀ p ∈ fx, p.1 ∉ wS.map (·.1)) ∧ (∀ p ∈ fx, p.1 ∉ wP.map (·.1)) ∧ (∀ p ∈ wS, p.1 ∉ wP.map (·.1))) → G) → G := by
      intro oD o3 l3 h8 mm wP8 em N8 OS8 O8 ne3 o3r off8 G hG
      rw [hstep] at hG
      refine hG (fx ++ ([(SS, instObj 163 dS), (dS, oD), (l3, o3)] ++ wP8)) (fun p hp => N8 p (by refine subOf ?_ hp; lcg_off)) (allA (fun p h => oit p (hrest ▸ List.mem_append_left _ h)) (allA (allC oi1 (allC oi2 (allC ne3 allN))) fun p h e => off8 (it, oi) (.head _) (List.mem_map.mpr ⟨p, h, e⟩)))
        ⟨_, _, _, wP8, em, rfl, OS8, O8, fun p hp z => ?_, fun p hp => off8 p (.tail _ (.tail _ (.tail _ (.tail _ hp)))), allC (off8 (SS, _) (.tail _ (.head _))) (allC (off8 (dS, _) (.tail _ (.tail _ (.head _)))) (allC (off8 (l3, _) (.tail _ (.tail _ (.tail _ (.head _))))) allN))⟩
      have hpr : p ∈ rest := by rw [hrest]; exact List.mem_append_left _ hp
      exact (List.mem_cons.mp z).elim (oSS p hpr) fun z => (List.mem_cons.mp z).elim (oSd p hpr) fun z => (List.mem_cons.mp z).elim (o3r p hpr) fun z => nomatch z
    rcases hs9 with rfl | rfl | rfl | rfl | rfl
    · repeat' (k_extra "W1")
      change wpAny _ (ktrTop (dp + 1) (un + 3) gd _ _ L' 177 _ _ (envX cn cs L a ccd cl :: outer)) _ _ _ _
      (with_reducible rename News _ _ _ _ => N3)
      (with_reducible rename Fr _ _ _ _ => F3)
      refine call_W (own := (it, oi) :: (SS, instObj 163 dS) :: (dS, dictOf [⟨ks1, .str "major" ts1, .int rI.mode tsm⟩, ⟨ks2, .str "on" ts2, .ref lS⟩] 2) :: (lS, listOf vS.toArray cS) :: fx) (ws := wP) (do_change_s (prog := prog) (w := w) (p := p) (loose := loose) (mean := mean) (mg := mg) (mb := mb) ok hrowI hevI (by omega)) (fun v => pw_good) B' X' T' rfl (by omega) (by omega) F3 (by rw [hrest] at N3; exact N3) OP (allC dit (allC dw1 (allC dw2 (allC dw3 hfP)))) (fun p hp => .inl (S3 p hp)) ?_
      intro v8 h8 tk8 wP8 F8 N8 O8 off8
      dsimp only
      repeat' (k_extra "W1")
      exact hend _ _ lS h8 _ wP8 (by exact own_sort) N8 (by have := modeS_own (mj := rI.mode) (k1 := ks1) (k2 := ks2) (t1 := ts1) (t2 := ts2) (tm := tsm) (c := cS) ndS ivS; rw [show (stepR rI (0, o9)).mode = rI.mode from hookR_mode, show (stepR rI (0, o9)).on = rI.on from hookR_on]; exact this) O8 oi3 oSl off8 _ fun nw a b c => LedEnd.mk (nw' := nw) F8 a b c
    · repeat' (k_extra "W1")
      change wpAny _ (ktrTop (dp + 1) (un + 3) gd _ _ L' 177 _ _ (envX cn cs L a ccd cl :: outer)) _ _ _ _
      (with_reducible rename News _ _ _ _ => N3)
      (with_reducible rename Fr _ _ _ _ => F3)
      (with_reducible rename IntsAre _ (List.filter _ _) => hys6)
      (with_reducible rename _ ∧ _ ∧ _ ∧ _ ∧ LCg.Off1 _ _ => ne6)
      refine hideG fun GG hGG => ?_
      suffices kk : ∀ D6 ys6, IntsAre ys6 (rI.on.filter fun i => decide (i = 40)) → ((@Ne Nat it D6) ∧ (@Ne Nat SS D6) ∧ (@Ne Nat dS D6) ∧ (@Ne Nat lS D6) ∧ LCg.Off1 D6 rest) → News g' L' _ ((D6, listOf ys6.toArray ys6.length) :: (it, oi) :: (SS, instObj 163 dS) :: (dS, dictOf [⟨ks1, .str "major" ts1, .int rI.mode tsm⟩, ⟨ks2, .str "on" ts2, .ref D6⟩] 2) :: (lS, listOf vS.toArray cS) :: rest) → GG by exact kk _ _ hys6 ne6 N3
      intro D6 ys6 hys6 ne6 N3
      obtain ⟨ne61, ne62, ne63, ne64, ne65⟩ := ne6
      refine hGG ?_; clear hGG GG
      have oD6 : ∀ p ∈ rest, p.1 ≠ D6 := off1_mem ne65
      have ndS6 : [SS, dS, D6].Nodup := nd_swap (l := [SS, dS]) (x := lS) (m := []) ndS fun z => (List.mem_cons.mp z).elim (fun e => ne62 e.symm) fun z => (List.mem_cons.mp z).elim (fun e => ne63 e.symm) fun z => ne64 (List.mem_singleton.mp z).symm
      refine call_W (own := (it, oi) :: (SS, instObj 163 dS) :: (dS, dictOf [⟨ks1, .str "major" ts1, .int rI.mode tsm⟩, ⟨ks2, .str "on" ts2, .ref D6⟩] 2) :: (D6, listOf ys6.toArray ys6.length) :: fx) (ws := wP) (do_kill_s (prog := prog) (w := w) (p := p) (loose := loose) (mean := mean) (mg := mg) (mb := mb) ok hrowI) (fun v => pw_good) B' X' T' rfl (by omega) (by omega) F3 (fun p hp => N3 p (by
        rw [hrest]
        refine subOf ?_ hp; lcg_off)) OP (allC dit (allC dw1 (allC dw2 (allC (fun z => by obtain ⟨p', hp', z⟩ := List.mem_map.mp z; exact oD6 p' (hrest ▸ List.mem_append_right _ hp') z) hfP)))) (fun p hp => .inl (S3 p hp)) ?_
      intro v8 h8 tk8 wP8 F8 N8 O8 off8
      dsimp only
      repeat' (k_extra "W1")
      exact hend _ _ D6 h8 _ wP8 (by exact own_sort) N8 (modeS_own (mj := rI.mode) (k1 := ks1) (k2 := ks2) (t1 := ts1) (t2 := ts2) (tm := tsm) (c := ys6.length) ndS6 hys6) O8 (Ne.symm ne61) oD6 off8 _ fun nw a b c => LedEnd.mk (nw' := nw) F8 a b c
    · repeat' (k_extra "W1")
      change wpAny _ (ktrTop (dp + 1) (un + 3) gd _ _ L' 177 _ _ (envX cn cs L a ccd cl :: outer)) _ _ _ _
      (with_reducible rename News _ _ _ _ => N3)
      (with_reducible rename Fr _ _ _ _ => F3)
      refine call_W (own := (it, oi) :: (SS, instObj 163 dS) :: (dS, dictOf [⟨ks1, .str "major" ts1, .int o9 uu9⟩, ⟨ks2, .str "on" ts2, .ref lS⟩] 2) :: (lS, listOf vS.toArray cS) :: fx) (ws := wP) (do_body_s (prog := prog) (w := w) (p := p) (loose := loose) (mean := mean) (mg := mg) (mb := mb) ok ho0 ho9 (hnone rfl) (by omega)) (fun v => pw_good) B' X' T' rfl (by omega) (by omega) F3 (by rw [hrest] at N3; exact N3) OP (allC dit (allC dw1 (allC dw2 (allC dw3 hfP)))) (fun p hp => .inl (S3 p hp)) ?_
      intro v8 h8 tk8 wP8 F8 N8 O8 off8
      dsimp only
      repeat' (k_extra "W1")
      exact hend _ _ lS h8 _ wP8 (by exact own_sort) N8 (modeS_own (mj := o9) (k1 := ks1) (k2 := ks2) (t1 := ts1) (t2 := ts2) (tm := uu9) (c := cS) ndS ivS) O8 oi3 oSl off8 _ fun nw a b c => LedEnd.mk (nw' := nw) F8 a b c
    · repeat' (k_extra "W1")
      change wpAny _ (ktrTop (dp + 1) (un + 3) gd _ _ L' 177 _ _ (envX cn cs L a ccd cl :: outer)) _ _ _ _
      (with_reducible rename News _ _ _ _ => N3)
      (with_reducible rename Fr _ _ _ _ => F3)
      refine call_W (own := (it, oi) :: (SS, instObj 163 dS) :: (dS, dictOf [⟨ks1, .str "major" ts1, .int rI.mode tsm⟩, ⟨ks2, .str "on" ts2, .ref lS⟩] 2) :: (lS, listOf vS.toArray cS) :: fx) (ws := wP) (do_hook_s (prog := prog) (w := w) (p := p) (loose := loose) (mean := mean) (mg := mg) (mb := mb) ok hrowI hevI (by omega)) (fun v => pw_good) B' X' T' rfl (by omega) (by omega) F3 (by rw [hrest] at N3; exact N3) OP (allC dit (allC dw1 (allC dw2 (allC dw3 hfP)))) (fun p hp => .inl (S3 p hp)) ?_
      intro v8 h8 tk8 wP8 F8 N8 O8 off8
      dsimp only
      repeat' (k_extra "W1")
      exact hend _ _ lS h8 _ wP8 (by exact own_sort) N8 (by have := modeS_own (mj := rI.mode) (k1 := ks1) (k2 := ks2) (t1 := ts1) (t2 := ts2) (tm := tsm) (c := cS) ndS ivS; rw [show (stepR rI (3, o9)).mode = rI.mode from hookR_mode, show (stepR rI (3, o9)).on = rI.on from hookR_on]; exact this) O8 oi3 oSl off8 _ fun nw a b c => LedEnd.mk (nw' := nw) F8 a b c
    · repeat' (k_extra "W1")
      change wpAny _ (ktrTop (dp + 1) (un + 3) gd _ _ L' 177 _ _ (envX cn cs L a ccd cl :: outer)) _ _ _ _
      (with_reducible rename News _ _ _ _ => N3)
      (with_reducible rename Fr _ _ _ _ => F3)
      refine call_W (own := (it, oi) :: (SS, instObj 163 dS) :: (dS, dictOf [⟨ks1, .str "major" ts1, .int rI.mode tsm⟩, ⟨ks2, .str "on" ts2, .ref lS⟩] 2) :: (lS, listOf vS.toArray cS) :: fx) (ws := wP) (do_behind_s (prog := prog) (w := w) (p := p) (loose := loose) (mean := mean) (mg := mg) (mb := mb) ok hrowI hevI (by omega)) (fun v => pw_good) B' X' T' rfl (by omega) (by omega) F3 (by rw [hrest] at N3; exact N3) OP (allC dit (allC dw1 (allC dw2 (allC dw3 hfP)))) (fun p hp => .inl (S3 p hp)) ?_
      intro v8 h8 tk8 wP8 F8 N8 O8 off8
      dsimp only
      repeat' (k_extra "W1")
      exact hend _ _ lS h8 _ wP8 (by exact own_sort) N8 (by have := modeS_own (mj := rI.mode) (k1 := ks1) (k2 := ks2) (t1 := ts1) (t2 := ts2) (tm := tsm) (c := cS) ndS ivS; rw [show (stepR rI (4, o9)).mode = rI.mode from hookR_mode, show (stepR rI (4, o9)).on = rI.on from hookR_on]; exact this) O8 oi3 oSl off8 _ fun nw a b c => LedEnd.mk (nw' := nw) F8 a b c
  · rintro h tk m nw ⟨u1, u2, wS, wP, rfl, rfl, OS, OP, hfS, hfP, disS⟩ F N
    rw [show (refs TT).toArray.size = (stepsK k).length by rw [List.size_toArray]; unfold refs; rw [List.length_map]; exact ev2.length, List.take_length, steps_switched h0 h9] at OS OP
    dsimp only
    repeat' (first | (k_unfold; (try dsimp only)) | walk1 | (dsimp only; walk1) | fail "no step")
    repeat' (first | k_unfold | (dsimp only))
    obtain ⟨z1, z2⟩ := fin_W I hws keep gone F (ws' := wT1 ++ (wS ++ wP)) (fun p hp => N p (by
      rcases List.mem_append.mp hp with h | h
      · exact List.mem_append_left _ (mfW p h)
      · exact List.mem_append_right _ h)) (star_own OT1 (star_own OS OP disS) (fun p hp z => by
        rw [List.map_append] at z
        rcases List.mem_append.mp z with z | z
        · exact hfS p (mfW p hp) z
        · exact hfP p (mfW p hp) z))
    exact hk _ _ _ _ z1 z2
end
section
theorem wtLaw0 : True := by
  w_top off
  trivial
def scopeOf : Stmt → Scope
  | .FunctionDef _ _ _ _ _ _ s _ _ _ => s
  | _ => default
def lawScope : Scope := scopeOf (stmtAt PySem.Challenge.pw_pq0278_01.main.body 37)
abbrev lawCl (L : Addr) : List (Str × Addr) := [(("variables" : Str), L + 8), ("told_here", L + 7), ("rows", L + 6), ("hooks", L + 5), ("hooked", L + 4), ("here", L + 3), ("called", L + 2), ("symbol", L + 1)]
theorem lawCl_is (L : Addr) : cellsFrom (L + 1) lawScope.names [] = lawCl L := by rfl
end
section
section
theorem wtLaw2a : True := by
  w_top off
  trivial
def forBody : Stmt → List Stmt
  | .For _ _ b _ _ => b
  | _ => []
def thenOf : Stmt → List Stmt
  | .If _ b _ _ => b
  | _ => []
def elseOf : Stmt → List Stmt
  | .If _ _ e _ => e
  | _ => []
def lap1 : List Stmt := forBody (stmtAt lawBody 8)
def lap2 : List Stmt := forBody (stmtAt lawBody 9)
def ifs0 : Stmt := stmtAt lap1 1
def ifs1 : Stmt := stmtAt (elseOf ifs0) 0
def ifs2 : Stmt := stmtAt (elseOf ifs1) 0
def ifs3 : Stmt := stmtAt (elseOf ifs2) 0
def way0 : List Stmt := thenOf ifs0
def way1 : List Stmt := thenOf ifs1
def way2 : List Stmt := thenOf ifs2
def way3 : List Stmt := thenOf ifs3
def way4 : List Stmt := elseOf ifs3
structure Sep (f D R X : List (Addr × Obj)) : Prop where
  fD : ∀ p ∈ f, p.1 ∉ D.map (·.1)
  fR : ∀ p ∈ f, p.1 ∉ R.map (·.1)
  fX : ∀ p ∈ f, p.1 ∉ X.map (·.1)
  DR : ∀ p ∈ D, p.1 ∉ R.map (·.1)
  DX : ∀ p ∈ D, p.1 ∉ X.map (·.1)
  RX : ∀ p ∈ R, p.1 ∉ X.map (·.1)
theorem off_sym {a b : List (Addr × Obj)} (h : ∀ p ∈ a, p.1 ∉ b.map (·.1)) : ∀ p ∈ b, p.1 ∉ a.map (·.1) := fun p hp z => by
  obtain ⟨q, hq, e⟩ := List.mem_map.mp z
  exact h q hq (List.mem_map.mpr ⟨p, hp, e.symm⟩)
theorem Sep.d {f D R X : List (Addr × Obj)} (s : Sep f D R X) : ∀ p ∈ f ++ (R ++ X), p.1 ∉ D.map (·.1) := fun p hp => by
  rcases List.mem_append.mp hp with h | h
  · exact s.fD p h
  · rcases List.mem_append.mp h with h | h
    · exact off_sym s.DR p h
    · exact off_sym s.DX p h
theorem Sep.r {f D R X : List (Addr × Obj)} (s : Sep f D R X) : ∀ p ∈ f ++ (D ++ X), p.1 ∉ R.map (·.1) := fun p hp => by
  rcases List.mem_append.mp hp with h | h
  · exact s.fR p h
  · rcases List.mem_append.mp h with h | h
    · exact s.DR p h
    · exact off_sym s.RX p h
theorem Sep.x {f D R X : List (Addr × Obj)} (s : Sep f D R X) : ∀ p ∈ f ++ (D ++ R), p.1 ∉ X.map (·.1) := fun p hp => by
  rcases List.mem_append.mp hp with h | h
  · exact s.fX p h
  · rcases List.mem_append.mp h with h | h
    · exact s.DX p h
    · exact s.RX p h
theorem Sep.setD {f D D' R X : List (Addr × Obj)} (s : Sep f D R X) (h : ∀ p ∈ f ++ (R ++ X), p.1 ∉ D'.map (·.1)) : Sep f D' R X :=
  ⟨fun p hp => h p (List.mem_append_left _ hp), s.fR, s.fX, off_sym fun p hp => h p (List.mem_append_right _ (List.mem_append_left _ hp)), off_sym fun p hp => h p (List.mem_append_right _ (List.mem_append_right _ hp)), s.RX⟩
theorem Sep.setR {f D R R' X : List (Addr × Obj)} (s : Sep f D R X) (h : ∀ p ∈ f ++ (D ++ X), p.1 ∉ R'.map (·.1)) : Sep f D R' X :=
  ⟨s.fD, fun p hp => h p (List.mem_append_left _ hp), s.fX, fun p hp => h p (List.mem_append_right _ (List.mem_append_left _ hp)), s.DX, off_sym fun p hp => h p (List.mem_append_right _ (List.mem_append_right _ hp))⟩
theorem Sep.setX {f D R X X' : List (Addr × Obj)} (s : Sep f D R X) (h : ∀ p ∈ f ++ (D ++ R), p.1 ∉ X'.map (·.1)) : Sep f D R X' :=
  ⟨s.fD, s.fR, fun p hp => h p (List.mem_append_left _ hp), s.DR, fun p hp => h p (List.mem_append_right _ (List.mem_append_left _ hp)), fun p hp => h p (List.mem_append_right _ (List.mem_append_right _ hp))⟩
theorem Sep.sub {f f' D R X : List (Addr × Obj)} (s : Sep f D R X) (h : ∀ p ∈ f', ∃ q ∈ f, p.1 = q.1) : Sep f' D R X :=
  ⟨fun p hp => by obtain ⟨q, hq, e⟩ := h p hp; rw [e]; exact s.fD q hq, fun p hp => by obtain ⟨q, hq, e⟩ := h p hp; rw [e]; exact s.fR q hq, fun p hp => by obtain ⟨q, hq, e⟩ := h p hp; rw [e]; exact s.fX q hq, s.DR, s.DX, s.RX⟩
theorem Sep.add {f D R X : List (Addr × Obj)} {a : Addr} {o : Obj} (s : Sep f D R X) (h : ∀ p ∈ D ++ (R ++ X), p.1 ≠ a) : Sep ((a, o) :: f) D R X := by
  have h1 : ∀ l : List (Addr × Obj), (∀ p ∈ l, p ∈ D ++ (R ++ X)) → (∀ p ∈ f, p.1 ∉ l.map (·.1)) → ∀ p ∈ (a, o) :: f, p.1 ∉ l.map (·.1) := fun l hl hf p hp => by
    rcases List.mem_cons.mp hp with rfl | hp
    · intro z
      obtain ⟨q, hq, e⟩ := List.mem_map.mp z
      exact h q (hl q hq) e
    · exact hf p hp
  exact ⟨h1 D (fun p hp => List.mem_append_left _ hp) s.fD, h1 R (fun p hp => List.mem_append_right _ (List.mem_append_left _ hp)) s.fR, h1 X (fun p hp => List.mem_append_right _ (List.mem_append_right _ hp)) s.fX, s.DR, s.DX, s.RX⟩
section
variable {prog : Program} {w : World} {p : Program} {loose : List Str} {mean : ExcName → Option Value} {mg mb : Str → Option Value} {St : List (Addr × Obj)} {n : Nat} {fn : Addr} {args : List Value} {W : Comp} {W' : Value → Comp}
  {dp un : Nat} {gd : Option (List Code)} {cn : Str} {cs : Scope} {a : Addr} {ccd : Value} {cl : List (Str × Addr)} {outer : List Env} {A₀ : Around} {base g : Heap} {L : Addr} {m : Str → Option Value} {s : Shared} {Q E : Value → Shared → Prop} {f D R X : List (Addr × Obj)}
theorem perm_d {h : Heap} (N : News g L h (f ++ (D ++ (R ++ X)))) : News g L h ((f ++ (R ++ X)) ++ D) := fun p hp => N p (by
  refine subOf ?_ hp; lcg_off)
theorem perm_d' {h : Heap} (N : News g L h ((f ++ (R ++ X)) ++ D)) : News g L h (f ++ (D ++ (R ++ X))) := fun p hp => N p (by
  refine subOf ?_ hp; lcg_off)
theorem perm_r {h : Heap} (N : News g L h (f ++ (D ++ (R ++ X)))) : News g L h ((f ++ (D ++ X)) ++ R) := fun p hp => N p (by
  refine subOf ?_ hp; lcg_off)
theorem perm_r' {h : Heap} (N : News g L h ((f ++ (D ++ X)) ++ R)) : News g L h (f ++ (D ++ (R ++ X))) := fun p hp => N p (by
  refine subOf ?_ hp; lcg_off)
theorem perm_x {h : Heap} (N : News g L h (f ++ (D ++ (R ++ X)))) : News g L h ((f ++ (D ++ R)) ++ X) := fun p hp => N p (by
  refine subOf ?_ hp; lcg_off)
theorem perm_x' {h : Heap} (N : News g L h ((f ++ (D ++ R)) ++ X)) : News g L h (f ++ (D ++ (R ++ X))) := fun p hp => N p (by
  refine subOf ?_ hp; lcg_off)
theorem call_D (S : SpecS prog w p loose mean mg mb St n fn args W W') (gW' : ∀ v, Good (W' v)) (B : Below A₀ base outer g) (X0 : (hd.heap_1 w.params).In g) (T : Top p loose mean mg mb g) (hke : cs.kind = .function) (hdp : dp + n < 1000) (hu : un + 20 * n < 9000)
    (F : Fr g L s.heap m) (N : News g L s.heap (f ++ (D ++ (R ++ X)))) (O : Own W D) (sp : Sep f D R X) (hst : ∀ q ∈ St, g.get? q.1 = some q.2 ∨ q ∈ f)
    (k : ∀ v h' tk' D', Fr g L h' m → News g L h' (f ++ (D' ++ (R ++ X))) → Own (W' v) D' → Sep f D' R X → Q v { s with heap := h', toks := tk' }) :
    wpAny (model prog w) (ktrTop dp un gd cn cs L a ccd cl outer) (call (.ref fn) args) Q E s :=
  call_W S gW' B X0 T hke hdp hu F (perm_d N) O sp.d (fun q hq => (hst q hq).imp id fun h => List.mem_append_left _ h) fun v h' tk' D' F' N' O' off => k v h' tk' D' F' (perm_d' N') O' (sp.setD off)
theorem call_R (S : SpecS prog w p loose mean mg mb St n fn args W W') (gW' : ∀ v, Good (W' v)) (B : Below A₀ base outer g) (X0 : (hd.heap_1 w.params).In g) (T : Top p loose mean mg mb g) (hke : cs.kind = .function) (hdp : dp + n < 1000) (hu : un + 20 * n < 9000)
    (F : Fr g L s.heap m) (N : News g L s.heap (f ++ (D ++ (R ++ X)))) (O : Own W R) (sp : Sep f D R X) (hst : ∀ q ∈ St, g.get? q.1 = some q.2 ∨ q ∈ f)
    (k : ∀ v h' tk' R', Fr g L h' m → News g L h' (f ++ (D ++ (R' ++ X))) → Own (W' v) R' → Sep f D R' X → Q v { s with heap := h', toks := tk' }) :
    wpAny (model prog w) (ktrTop dp un gd cn cs L a ccd cl outer) (call (.ref fn) args) Q E s :=
  call_W S gW' B X0 T hke hdp hu F (perm_r N) O sp.r (fun q hq => (hst q hq).imp id fun h => List.mem_append_left _ h) fun v h' tk' D' F' N' O' off => k v h' tk' D' F' (perm_r' N') O' (sp.setR off)
theorem call_X (S : SpecS prog w p loose mean mg mb St n fn args W W') (gW' : ∀ v, Good (W' v)) (B : Below A₀ base outer g) (X0 : (hd.heap_1 w.params).In g) (T : Top p loose mean mg mb g) (hke : cs.kind = .function) (hdp : dp + n < 1000) (hu : un + 20 * n < 9000)
    (F : Fr g L s.heap m) (N : News g L s.heap (f ++ (D ++ (R ++ X)))) (O : Own W X) (sp : Sep f D R X) (hst : ∀ q ∈ St, g.get? q.1 = some q.2 ∨ q ∈ f)
    (k : ∀ v h' tk' X', Fr g L h' m → News g L h' (f ++ (D ++ (R ++ X'))) → Own (W' v) X' → Sep f D R X' → Q v { s with heap := h', toks := tk' }) :
    wpAny (model prog w) (ktrTop dp un gd cn cs L a ccd cl outer) (call (.ref fn) args) Q E s :=
  call_W S gW' B X0 T hke hdp hu F (perm_x N) O sp.x (fun q hq => (hst q hq).imp id fun h => List.mem_append_left _ h) fun v h' tk' D' F' N' O' off => k v h' tk' D' F' (perm_x' N') O' (sp.setX off)
end
theorem mem_swap {α : Type} {l m : List α} {p : α} (h : p ∈ l ++ m) : p ∈ m ++ l := (List.mem_append.mp h).elim (List.mem_append_right _) (List.mem_append_left _)
theorem rec9e {RC : Addr} {P : RecP} {G9 : Prop} (nd : ((P.objs RC).map (·.1)).Nodup) {oth : List (Addr × Obj)} (ho : ∀ p ∈ oth, p.1 ∉ (P.objs RC).map (·.1)) (k9 : RC ≠ P.dD → RC ≠ P.dO → RC ≠ P.dA → RC ≠ P.dK → RC ≠ P.dE → RC ≠ P.dR → RC ≠ P.lO → RC ≠ P.lT → P.dD ≠ P.dO → P.dD ≠ P.dA → P.dD ≠ P.dK → P.dD ≠ P.dE → P.dD ≠ P.dR → P.dD ≠ P.lO → P.dD ≠ P.lT → P.dO ≠ P.dA → P.dO ≠ P.dK → P.dO ≠ P.dE → P.dO ≠ P.dR → P.dO ≠ P.lO → P.dO ≠ P.lT → P.dA ≠ P.dK → P.dA ≠ P.dE → P.dA ≠ P.dR → P.dA ≠ P.lO → P.dA ≠ P.lT → P.dK ≠ P.dE → P.dK ≠ P.dR → P.dK ≠ P.lO → P.dK ≠ P.lT → P.dE ≠ P.dR → P.dE ≠ P.lO → P.dE ≠ P.lT → P.dR ≠ P.lO → P.dR ≠ P.lT → P.lO ≠ P.lT → (∀ p ∈ P.rest ++ oth, p.1 ≠ RC) → (∀ p ∈ P.rest ++ oth, p.1 ≠ P.dD) → (∀ p ∈ P.rest ++ oth, p.1 ≠ P.dO) → (∀ p ∈ P.rest ++ oth, p.1 ≠ P.dA) → (∀ p ∈ P.rest ++ oth, p.1 ≠ P.dK) → (∀ p ∈ P.rest ++ oth, p.1 ≠ P.dE) → (∀ p ∈ P.rest ++ oth, p.1 ≠ P.dR) → (∀ p ∈ P.rest ++ oth, p.1 ≠ P.lO) → (∀ p ∈ P.rest ++ oth, p.1 ≠ P.lT) → G9) : G9 :=
  have z := List.nodup_append.mp (show ([RC, P.dD, P.dO, P.dA, P.dK, P.dE, P.dR, P.lO, P.lT] ++ P.rest.map (·.1)).Nodup from nd)
  ofE (l := [RC, P.dD, P.dO, P.dA, P.dK, P.dE, P.dR, P.lO, P.lT]) (fun x hx => allA (fun p hp e => z.2.2 x hx p.1 (List.mem_map_of_mem hp) e.symm) fun p hp e => ho p hp (e ▸ (show x ∈ [RC, P.dD, P.dO, P.dA, P.dK, P.dE, P.dR, P.lO, P.lT] ++ P.rest.map (·.1) from List.mem_append_left _ hx))) (ndE z.1 k9)
end
end
section
theorem wtLaw1 : True := by
  w_top off
  trivial
theorem kwLaw11 : True := by
  k_with_none
  k_with "W1" => ((fail_if_success (with_reducible show wpAny _ _ (PySem.call (Value.ref _) _ _) _ _ _)); (fail_if_success (with_reducible show wpAny _ _ (pyIter _) _ _ _)); (fail_if_success (with_reducible show wpAny _ _ (PySem.exec (Stmt.For _ _ _ _ _) _) _ _ _)); first | (k_unfold; (try dsimp only)) | walk1 | (dsimp only; walk1) | fail "no step")
  k_with "k_enter" => (first | (refine' code_def (by k_asm) (by k_asm) (by k_asm) (by k_asm) (by k_asm) rfl rfl (by first | exact rfl | assumption) (by k_is) (by k_is) (by k_room) (by first | exact BindsTo.of_eq rfl | exact binds_K (by k_in) rfl (by k_is) rfl rfl rfl) (by exact locs rfl) ?_ (by exact rfl) (by exact rfl) (by exact rfl) (by decide); k_whole; intro _ _ _ _ _ _ Bz9 _ _; (try dsimp only); (try k_lift Bz9); (try k_fold)) | (refine' code_defC (by k_asm) (by k_asm) (by k_asm) (by k_asm) (by k_asm) rfl rfl (by first | exact rfl | assumption) (by k_is) (by k_is) (by k_room) (by first | exact BindsTo.of_eq rfl | exact binds_K (by k_in) rfl (by k_is) rfl rfl rfl) (by exact rfl) (by decide +kernel) ?_ (by exact rfl) (by exact rfl) (by exact rfl); k_whole; intro _ _ _ _ _ _ _ Nz9 Yz9 Bz9 _ _ lz9; (try k_lt lz9); k_cells Yz9; (try simp only [List.cons_append, List.nil_append] at Nz9); (try dsimp only); (try k_lift Bz9); (try k_fold)) | fail)
  k_with "execs cons" => (k_fold; (first | show wpAny _ AB (PySem.execs _ eB) _ _ _ | (show (let eB := _; let AB := _; wpAny _ AB (PySem.execs _ eB) _ _ _); intro eB AB)); refine wpAny_execs_cons ?_)
  k_with "omega" => first | exact Nat.le_of_ble_eq_true rfl | with_reducible assumption | exact Mine.o1 (by with_reducible assumption) (by exact rfl) | exact Mine.o3 (by with_reducible assumption) (by exact rfl) | exact Mine.o2 (by with_reducible assumption) (by exact rfl) | exact Mine.o4 (by with_reducible assumption) (by exact rfl) | exact Mine.o5 (by with_reducible assumption) (by exact rfl) | exact Mine.o6 (by with_reducible assumption) (by exact rfl) | exact Mine.o7 (by with_reducible assumption) (by exact rfl) | exact Mine.o8 (by with_reducible assumption) (by exact rfl) | exact Mine.o9 (by with_reducible assumption) (by exact rfl) | exact Mine.o10 (by with_reducible assumption) (by exact rfl) | exact Mine.o11 (by with_reducible assumption) (by exact rfl) | exact Mine.o12 (by with_reducible assumption) (by exact rfl) | exact Mine.o13 (by with_reducible assumption) (by exact rfl) | exact Nat.ne_of_lt (by with_reducible assumption) | exact Nat.ne_of_gt (by with_reducible assumption) | exact Nat.le_of_lt (by with_reducible assumption) | fail
  k_with "tlg_ne" => first | exact List.Mem.head _ | (apply List.Mem.tail; tlg_ne) | (apply List.mem_append_left; tlg_ne) | (apply List.mem_append_right; tlg_ne)
  k_with "lcg_off" => first | exact List.Subset.refl _ | exact List.nil_subset _ | (refine List.Sublist.subset ?_; (repeat first | exact List.Sublist.refl _ | apply List.Sublist.cons_cons | apply List.Sublist.cons); done) | (refine Mine.subC ?_ ?_; (focus tlg_ne); lcg_off) | (refine Mine.subA ?_ ?_ <;> lcg_off) | (apply List.subset_cons_of_subset; lcg_off) | (apply List.subset_append_of_subset_left; lcg_off) | (apply List.subset_append_of_subset_right; lcg_off)
  trivial
theorem kwLaw12 : True := by
  k_with "k_room" => ((try simp only [depth_mark, depth_under_make, depth_under_kw, depth_in1, depth_deeper]); first | assumption | (show _ < 1000; (try dsimp only); omega))
  k_with "k_ne" => ((refine neN ?_); (try dsimp only); first | assumption | exact Ne.symm (by assumption))
  k_with "compareOp In int ref" => (k_here; k_dflt (first | (refine' in_C (by k_asm) (by k_mem) (by k_asm) (by k_asm) (by k_asm) ?_) | (refine' in_I (by k_asm) (by k_mem) (by k_asm) (by k_asm) (by k_asm) ?_) | (refine' in_B (by k_asm) (by k_mem) (by k_asm) (by k_asm) (by k_asm) ?_)))
  k_with "compareOp NotIn int ref" => (k_here; k_dflt ( (refine' notin_C (by k_asm) (by k_mem) (by k_asm) (by k_asm) (by k_asm) ?_)))
  k_with "call builtin:dict.get" => (k_here; k_dflt (first | (refine' get_I (by k_asm) (by k_mem) (by k_asm) (by k_asm) (by k_asm) ?_; refine ⟨fun _ _ _ => ?_, fun _ => ?_⟩) | (refine' get_B (by k_asm) (by k_mem) (by k_asm) (by k_asm) (by k_asm) ?_; (try simp only [Bool.or_false]))))
  k_with "getMethod ref" => (k_here; (with_reducible show wpAny _ _ (getMethod (Value.ref _) (Str.ofString "get") _) _ _ _); k_dflt (refine' kdg_method (knd := PySem.intKind _ _) (by k_asm) (by k_mem) (by k_asm) ?_))
  k_with "subscriptTail" => (k_here; (with_reducible show wpAny _ _ (subscriptTail _ _ (Value.ref _) (Value.int _ _)) _ _ _); k_dflt (refine' item_C (by k_asm) (by k_mem) (by k_asm) (by k_asm) (by k_asm) ?_ (by with_unfolding_all rfl); intro _ _ _ _))
  k_with "setItem ref int" => (k_here; k_dflt (refine' kda_set (knd := PySem.intKind _ _) (by k_asm) (by k_asm) (by k_updF) (by k_asm) (intKind_is _ _ _ _) (by exact KOK.line (by k_asm) (by k_asm)) ?_; intro hz9 oz9 Fz9 Nz9 hdz9; (try dsimp only at Nz9); (try k_sweep); revert hz9 oz9 Fz9 Nz9 hdz9; intro _ _ _ _ _))
  trivial
variable {prog : Program} {w : World} {p : Program} {loose : List Str} {mean : ExcName → Option Value} {mg mb : Str → Option Value}
theorem kwLaw13 : True := by
  k_with "CompSrcT" => (k_here; k_dflt (first | (refine' LCt.CompSrcT.ledger rfl (by k_asm) (by k_asm) (by k_mem) (by k_asm) ?_) | (refine' LCt.CompSrcT.base rfl (by k_asm) (by k_asm) (by k_asm) (by k_asm) ?_)); intro _; k_dflt (refine' flt_rest (by k_asm) (by k_asm) (by first | exact .inl (by k_asm) | exact .inr ⟨_, by k_mem, rfl, _, rfl⟩) rfl rfl (by decide) (fun _ _ _ _ _ _ _ _ _ _ _ _ _ _ _ _ _ _ _ => ?_) (fun _ _ => ?_)); (all_goals (try (simp only [LCg.Off3, and_true] at off'))))
  k_with "FltT" => (k_here; k_dflt (refine' flt_t (by k_asm) (by k_asm) (by intro pz9 hpz9; first | exact hpz9 | exact .tail _ hpz9 | exact .tail _ (.tail _ hpz9) | exact .tail _ (.tail _ (.tail _ hpz9))) ?_); (try rfl))
  k_with "call type:list" => (k_here; k_dflt (refine' list_D rfl (by k_asm) (by k_asm) (by k_mem) (by k_asm) (by k_asm) (by k_asm) ?_); intro Bz9 cz9 hz9 tkz9 vsz9 Fz9 Nz9 l1z9 hiz9 h64z9 hszz9; (try k_lt l1z9); (try k_sweep); revert Bz9 cz9 hz9 tkz9 vsz9 Fz9 Nz9 l1z9 hiz9 h64z9 hszz9; intro _ _ _ _ _ _ _ _ _ _ _)
  k_with "call builtin:sorted" => (k_here; k_dflt (refine' sorted_L (by k_asm) (by k_asm) (by k_mem) (by k_asm) (by k_asm) ?_); intro Bz9 vsz9 nsz9 cz9 hz9 Fz9 Nz9 l1z9 hiz9 hpmz9 h64z9 hszz9; (try k_lt l1z9); (try k_sweep); revert Bz9 vsz9 nsz9 cz9 hz9 Fz9 Nz9 l1z9 hiz9 hpmz9 h64z9 hszz9; intro _ _ _ _ _ _ _ _ _ _ _ _)
  k_with "call builtin:dict.pop" => (k_here; k_dflt (refine' pop_C (by k_asm) (by k_asm) (by k_updF) (by k_asm) (by k_asm) (by k_asm) ?_); intro hz9 oz9 vz9 Fz9 Nz9 hdz9; (try dsimp only at Nz9); (try k_sweep); revert hz9 oz9 vz9 Fz9 Nz9 hdz9; intro _ _ _ _ _ _)
  k_with "getMethod ref" => (k_here; (with_reducible show wpAny _ _ (getMethod (Value.ref _) (Str.ofString "pop") _) _ _ _); k_dflt (refine' popm_D (by k_asm) (by k_mem) (by k_asm) ?_))
  k_with "eval Name" => (k_here; k_dflt (refine' nameX_L (by k_asm) (by first | exact rfl | assumption) ?_ (by rfl) (by rfl); k_whole))
  k_with "k_ne" => ((refine neN ?_); (try dsimp only); first | assumption | exact Ne.symm (by assumption) | omega)
  k_with "k_units" => (first | exact Nat.le_of_ble_eq_true rfl | (simp only [ktrTop, units_deeper, units_in1, cLine_is]; omega) | ((try dsimp only [ktrTop, Around.deeper, Around.in1, Around.under]); rw [cLine_is]; omega))
  k_with "compareOp In int ref" => (k_here; k_dflt (first | (refine' in_list_ints (by first | exact led_list (by k_asm) (by k_mem) | exact base_list (by k_asm) (by k_asm)) (by first | k_asm | exact .cons _ _ .nil | exact .nil) ?_; k_whole) | (refine' in_E (by k_asm) (by k_asm) (by k_asm) (by k_asm) ?_)))
  k_with "compareOp NotEq ref ref" => (k_here; k_dflt (refine' ne_E (by k_asm) (by k_mem) (by k_mem) (by k_asm) (by k_asm) (by k_asm) (by k_asm) (by k_units) ?_))
  k_with "binaryOp Add ref ref" => (k_here; k_dflt (refine' add_L (by k_asm) (by k_asm) (by first | exact led_list (by k_asm) (by k_mem) | exact base_list (by k_asm) (by k_asm)) (by first | exact led_list (by k_asm) (by k_mem) | exact base_list (by k_asm) (by k_asm)) (by first | k_asm | exact .cons _ _ .nil | exact .nil) (by first | k_asm | exact .cons _ _ .nil | exact .nil) (by first | k_asm | (simp only [List.length_cons, List.length_nil, sizeLine_eq]; omega)) ?_); intro hz9 Dz9 Fz9 Nz9 l1z9 hiz9; (try k_lt l1z9); (try k_sweep); revert hz9 Dz9 Fz9 Nz9 l1z9 hiz9; intro _ _ _ _ _ _)
  k_with "call builtin:dict.get" => (k_here; k_dflt (first | (refine' get_V (by k_asm) (by k_mem) (by k_asm) (by k_asm) (by first | k_asm | exact vaSame _ _ _) ?_) | (refine' get_N (by k_asm) (by k_mem) (by k_asm) (by k_asm) (by k_asm) ?_)))
  k_with "call type:list" => (k_here; k_dflt (refine' copy_L (by k_asm) (by k_asm) (by k_mem) (by k_asm) ?_); intro Bz9 cz9 hz9 tkz9 Fz9 Nz9 l1z9; (try k_lt l1z9); (try k_sweep); revert Bz9 cz9 hz9 tkz9 Fz9 Nz9 l1z9; intro _ _ _ _ _ _ _)
  k_with "call builtin:list.extend" => (k_here; k_dflt (refine' ext_L (by k_asm) (by k_asm) (by k_updF) (by k_mem) (by first | k_asm | exact .cons _ _ .nil | exact .nil) (by first | k_asm | exact .cons _ _ .nil | exact .nil) (by first | k_asm | (simp only [List.length_cons, List.length_nil, sizeLine_eq]; omega)) ?_); intro hz9 nz9 Fz9 Nz9 hiz9; (try dsimp only at Nz9); (try k_sweep); revert hz9 nz9 Fz9 Nz9 hiz9; intro _ _ _ _ _)
  k_with "k_all" => with_reducible assumption
  k_with "subscriptTail" => (k_here; (with_reducible show wpAny _ _ (subscriptTail _ _ (Value.ref _) (Value.int _ _)) _ _ _); k_dflt (refine' item_V (by k_asm) (by k_mem) (by k_asm) (by k_asm) ?_ (by with_unfolding_all rfl)))
  k_with "compareOp Eq ref ref" => (k_here; k_dflt (refine' ke_eq_ints (by first | exact led_list (by k_asm) (by k_mem) | exact base_list (by k_asm) (by k_asm)) (by first | exact led_list (by k_asm) (by k_mem) | exact base_list (by k_asm) (by k_asm)) (by first | k_asm | exact .cons _ _ .nil | exact .nil) (by first | k_asm | exact .cons _ _ .nil | exact .nil) (by k_units) ?_))
  k_with "k_mem" => (with_reducible refine memOf ?_; with_reducible assumption)
  k_with "subscriptTail" => (k_here; (with_reducible show wpAny _ _ (subscriptTail _ _ (Value.ref _) (Value.str _ _)) _ _ _); k_dflt (refine' item_S (by k_asm) (by k_mem) (by k_asm) (by rfl) ?_ (by with_unfolding_all rfl)))
  trivial
variable {dp un : Nat} {gd : Option (List Code)} {cn : Str} {fa : Addr} {A₀ : Around} {base g : Heap} {L : Addr} {m : Str → Option Value} {s : Shared} {Q : Flow → Shared → Prop} {E : Value → Shared → Prop}
theorem law_table {TB : Addr} {fx ws : List (Addr × Obj)} (B' : Below A₀ base [] g) (X' : (hd.heap_1 w.params).In g) (T' : Top p loose mean mg mb g) (hdp : dp + 30 < 1000) (hu : un + 800 < 9000)
    (F : Fr g L s.heap m) (hm : m (Str.ofString "table") = some (.ref TB)) (N : News g L s.heap (fx ++ ws)) (O : Own (TableC prog w TB 0) ws) (off : ∀ p ∈ fx, p.1 ∉ ws.map (·.1))
    (hk : ∀ u h' tk' ws', Fr g L h' (fun y => if y = Str.ofString "mode" then u else m y) → News g L h' (fx ++ ws') → Own (TableC prog w TB 4) ws' → (∀ p ∈ fx, p.1 ∉ ws'.map (·.1)) → Q .next { s with heap := h', toks := tk' }) :
    wpAny (model prog w) (ktrTop dp un gd cn lawScope L fa (.ref 465) (lawCl L) []) (exec (stmtAt lawBody 2) (envX cn lawScope L fa (.ref 465) (lawCl L))) Q E s := by
  refine hideG fun GG hGG => ?_
  suffices kk : ∀ sc, lawScope = sc → GG by exact kk _ rfl
  intro sc hsc
  refine hGG ?_; clear hGG GG
  refine hideG fun GG hGG => ?_
  suffices kk : ∀ st, stmtAt lawBody 2 = st → GG by exact kk _ rfl
  intro st hst
  refine hGG ?_; clear hGG GG
  rw [hsc, hst]
  conv at hsc => lhs; whnf
  conv at hst => lhs; whnf
  subst hsc hst
  refine wpAny_For ?_
  repeat' (k_extra "W1")
  (with_reducible rename Fr _ _ _ _ => F1)
  (with_reducible rename News _ _ _ _ => N1)
  (with_reducible rename IsRange _ _ _ _ _ _ _ _ => rg)
  refine Iter_range (g := g) (L := L) (n := 4) rfl rg (by decide) (by decide) F1 (nw₀ := fx ++ ws) (fun p hp => N1 p (by first | exact hp | exact .tail _ hp)) (fun i m' nw => ∃ u ws, m' = (fun y => if y = Str.ofString "mode" then u else m y) ∧ nw = fx ++ ws ∧ Own (TableC prog w TB i) ws ∧ (∀ p ∈ fx, p.1 ∉ ws.map (·.1))) ?_ ?_ ?_ (fun _ _ => rfl)
  · refine ⟨m (Str.ofString "mode"), ws, ?_, rfl, O, off⟩
    funext y
    split
    · rename_i e; rw [e]
    · rfl
  · rintro i it oi h tk m' nw t' hi ⟨u, ws, rfl, rfl, O, off⟩ offi F N
    refine hideG fun GG hGG => ?_
    obtain ⟨d, mj, oD, oM, l, rfl, tt⟩ := own_table O (fun p hp => (N p (.tail _ (List.mem_append_right _ hp))).1)
    obtain ⟨nd, ⟨k1, k2, k3, t1, t2, t3, mi, od, rfl⟩, lo, dM, hks⟩ := tt
    refine hGG ?_; clear hGG GG
    rw [Int.zero_add]
    refine hideG fun GG hGG => ?_
    suffices kk : ∀ rest, rest = l.flatMap MR.objs ++ fx → GG by exact kk _ rfl
    intro rest hrest
    refine hGG ?_; clear hGG GG
    have NN : News g L h ((it, oi) :: (TB, instObj 135 d) :: (d, dictOf [⟨k1, .str "majors" t1, .ref mj⟩, ⟨k2, .str "minors" t2, .ref mi⟩, ⟨k3, .str "order" t3, .ref od⟩] 3) :: (mj, oM) :: rest) := fun p hp => N p (by
      rw [hrest] at hp
      refine subOf ?_ hp; (try simp only [tabObjs, List.cons_append, List.nil_append]); lcg_off)
    have oM1 : ∀ p ∈ rest, p.1 ≠ mj := fun p hp e => by
      rw [hrest] at hp
      rcases List.mem_append.mp hp with h | h
      · have := (List.nodup_cons.mp (List.nodup_cons.mp (List.nodup_cons.mp nd).2).2).1
        exact this (List.mem_map.mpr ⟨p, h, e⟩)
      · exact off p h (by rw [e]; exact .tail _ (.tail _ (.head _)))
    have oM2 : mj ≠ it := offi (mj, oM) (List.mem_append_right _ (.tail _ (.tail _ (.head _))))
    have nd3 : TB ≠ mj ∧ d ≠ mj := by
      exact ⟨fun e => (List.nodup_cons.mp nd).1 (by rw [e]; exact .tail _ (.head _)), fun e => (List.nodup_cons.mp (List.nodup_cons.mp nd).2).1 (by rw [e]; exact .head _)⟩
    obtain ⟨n31, n32⟩ := nd3
    have hkl : KOK (mrKvs l) := fun q hq => by
      have : q.1 ∈ (mrKvs l).map (·.1) := List.mem_map_of_mem hq
      rw [show (mrKvs l).map (·.1) = l.map (·.k) by simp [mrKvs], hks] at this
      obtain ⟨j, hj, e⟩ := List.mem_map.mp this
      have := List.mem_range.mp hj
      simp at e
      omega
    have hi0 : (0 : Int) ≤ (i : Int) := by omega
    have hi9 : (i : Int) < 9 := by omega
    clear N
    repeat' ((fail_if_success (with_reducible show LedEnd _ _ _ _ _ _ _)); first | (k_unfold; (try dsimp only)) | walk1 | (dsimp only; walk1) | fail "no step")
    (with_reducible rename News g L _ _ => NF)
    (with_reducible rename Fr g L _ _ => FF)
    (with_reducible rename _ ∧ _ ∧ _ ∧ _ ∧ AllLt _ _ => ltD)
    (with_reducible rename Obj.IsDictOf _ _ (stored _ _ _) => dM')
    (with_reducible rename @LT.lt Nat _ _ _ => l29)
    refine hideG fun GG hGG => ?_
    suffices kk : ∀ M dm h1 h2 h3 h4 h5 h6 h7 u1 u2 u3 u4 u5 u6 u7 uk um up oM', @LT.lt Nat _ dm M → (@LT.lt Nat _ it dm ∧ @LT.lt Nat _ TB dm ∧ @LT.lt Nat _ d dm ∧ @LT.lt Nat _ mj dm ∧ AllLt dm rest) → oM'.IsDictOf (PySem.intKind prog w) (stored (mrKvs l) (i : Int) (.ref M)) → News g L _ ((M, instObj 58 dm) :: (dm, dictOf [⟨h1, .str "symbol" u1, .int (i : Int) uk⟩, ⟨h2, .str "title" u2, .str "m" um⟩, ⟨h3, .str "parent" u3, .int ((i : Int) - 1) up⟩, ⟨h4, .str "keymap" u4, .none⟩, ⟨h5, .str "syntax" u5, .none⟩, ⟨h6, .str "body" u6, .none⟩, ⟨h7, .str "hook" u7, .none⟩] 7) :: (it, oi) :: (TB, instObj 135 d) :: (d, dictOf [⟨k1, .str "majors" t1, .ref mj⟩, ⟨k2, .str "minors" t2, .ref mi⟩, ⟨k3, .str "order" t3, .ref od⟩] 3) :: (mj, oM') :: rest) → GG by exact kk _ _ _ _ _ _ _ _ _ _ _ _ _ _ _ _ _ _ _ _ l29 ltD dM' NF
    intro M dm h1 h2 h3 h4 h5 h6 h7 u1 u2 u3 u4 u5 u6 u7 uk um up oM' l29 ltD dM' NF
    refine hGG ?_; clear hGG GG
    refine hideG fun GG hGG => ?_
    suffices kk : ∀ q : MR, q = ⟨i, M, dm, h1, h2, h3, h4, h5, h6, h7, u1, u2, u3, u4, u5, u6, u7, uk, um, up⟩ → GG by exact kk _ rfl
    intro q hq
    refine hGG ?_; clear hGG GG
    have hqo : q.objs = [(M, instObj 58 dm), (dm, dictOf [⟨h1, .str "symbol" u1, .int (i : Int) uk⟩, ⟨h2, .str "title" u2, .str "m" um⟩, ⟨h3, .str "parent" u3, .int ((i : Int) - 1) up⟩, ⟨h4, .str "keymap" u4, .none⟩, ⟨h5, .str "syntax" u5, .none⟩, ⟨h6, .str "body" u6, .none⟩, ⟨h7, .str "hook" u7, .none⟩] 7)] := by rw [hq]; rfl
    have hnone : valueAt (mrKvs l) (i : Int) = none := by
      unfold valueAt
      rw [List.find?_eq_none.mpr]
      · rfl
      · intro x hx
        have : x.1 ∈ (mrKvs l).map (·.1) := List.mem_map_of_mem hx
        rw [show (mrKvs l).map (·.1) = l.map (·.k) by simp [mrKvs], hks] at this
        obtain ⟨j, hj, e⟩ := List.mem_map.mp this
        have := List.mem_range.mp hj
        simp at e ⊢
        omega
    rw [stored_absent hnone] at dM'
    obtain ⟨g1, g2, g3, g4, g5⟩ := ltD
    have lt2 : ∀ p ∈ rest, @LT.lt Nat _ p.1 dm := by
      have key : ∀ l : List (Addr × Obj), AllLt dm l → ∀ p ∈ l, @LT.lt Nat _ p.1 dm := by
        intro l
        induction l with
        | nil => intro _ p hp; cases hp
        | cons x r ih =>
          intro h p hp
          rcases List.mem_cons.mp hp with rfl | hp
          · exact h.1
          · exact ih h.2 p hp
      exact key rest g5
    have hflat : ∀ p ∈ l.flatMap MR.objs, p ∈ rest := fun p hp => by rw [hrest]; exact List.mem_append_left _ hp
    have tt' : TabL prog w TB d mj (dictOf [⟨k1, .str "majors" t1, .ref mj⟩, ⟨k2, .str "minors" t2, .ref mi⟩, ⟨k3, .str "order" t3, .ref od⟩] 3) oM' (l ++ [q]) (i + 1) := by
      refine ⟨?_, ⟨_, _, _, _, _, _, _, _, rfl⟩, lo, ?_, ?_⟩
      · have e : (TB :: d :: mj :: ((l ++ [q]).flatMap MR.objs).map (·.1)) = (TB :: d :: mj :: (l.flatMap MR.objs).map (·.1)) ++ [M, dm] := by
          rw [List.flatMap_append]
          simp [hqo]
        rw [e]
        refine List.nodup_append.mpr ⟨nd, by simp only [List.nodup_cons, List.mem_cons, List.not_mem_nil, or_false, not_false_eq_true, List.nodup_nil, and_true]; exact Ne.symm (Nat.ne_of_lt l29), fun y hy z hz e9 => ?_⟩
        have hy2 : @LT.lt Nat _ y dm := by
          exact allC (P := fun y : Addr => @LT.lt Nat _ y dm) g2 (allC g3 (allC g4 fun y hy => by
            obtain ⟨p, hp, rfl⟩ := List.mem_map.mp hy
            exact lt2 p (hflat p hp))) y hy
        rcases List.mem_cons.mp hz with rfl | hz
        · exact Nat.ne_of_lt (Nat.lt_trans hy2 l29) e9
        · exact Nat.ne_of_lt hy2 (e9.trans (List.mem_singleton.mp hz))
      · have e : mrKvs (l ++ [q]) = mrKvs l ++ [((i : Int), .ref M)] := by rw [hq]; simp [mrKvs]
        rw [e]; exact dM'
      · rw [List.map_append, hks, hq]
        simp [rangeKs, List.range_succ]
    refine LedEnd.mk (nw' := fx ++ tabObjs TB d mj (dictOf [⟨k1, .str "majors" t1, .ref mj⟩, ⟨k2, .str "minors" t2, .ref mi⟩, ⟨k3, .str "order" t3, .ref od⟩] 3) oM' (l ++ [q])) FF (fun p hp => NF p ?_) (fun p hp => ?_) ⟨some (.int i t'), _, ?_, rfl, table_own tt', fun p hp z => ?_⟩
    · rw [hrest]
      refine subOf ?_ hp; (try simp only [tabObjs, List.flatMap_append, List.flatMap_cons, List.flatMap_nil, hqo, List.cons_append, List.nil_append]); lcg_off
    · refine allA (P := fun p : Addr × Obj => p.1 ≠ it) (fun p h => offi p (List.mem_append_left _ h)) (allC (offi (TB, _) (List.mem_append_right _ (.head _))) (allC (offi (d, _) (List.mem_append_right _ (.tail _ (.head _)))) (allC oM2 ?_))) p hp
      rw [List.flatMap_append, List.flatMap_cons, hqo]
      exact allA (fun p h => offi p (List.mem_append_right _ (.tail _ (.tail _ (.tail _ h))))) (allC (Ne.symm (Nat.ne_of_lt (Nat.lt_trans g1 l29))) (allC (Ne.symm (Nat.ne_of_lt g1)) allN))
    · funext y
      split <;> rfl
    · have hpl : @LT.lt Nat _ p.1 dm := lt2 p (by rw [hrest]; exact List.mem_append_right _ hp)
      obtain ⟨p', hp', z⟩ := List.mem_map.mp z
      have key : ∀ p' ∈ tabObjs TB d mj (dictOf [⟨k1, .str "majors" t1, .ref mj⟩, ⟨k2, .str "minors" t2, .ref mi⟩, ⟨k3, .str "order" t3, .ref od⟩] 3) oM' (l ++ [q]), p'.1 ≠ p.1 := by
        refine allC (fun z => off p hp (by rw [← z]; exact .head _)) (allC (fun z => off p hp (by rw [← z]; exact .tail _ (.head _))) (allC (fun z => off p hp (by rw [← z]; exact .tail _ (.tail _ (.head _)))) ?_))
        rw [List.flatMap_append, List.flatMap_cons, hqo]
        exact allA (fun p' h z => off p hp (List.mem_map.mpr ⟨p', .tail _ (.tail _ (.tail _ h)), z⟩)) (allC (fun z => Nat.ne_of_lt (Nat.lt_trans hpl l29) z.symm) (allC (fun z => Nat.ne_of_lt hpl z.symm) allN))
      exact key p' hp' z
  · rintro h tk m' nw ⟨u, ws, rfl, rfl, O, off⟩ F N
    dsimp only
    repeat' ((fail_if_success (with_reducible show LedEnd _ _ _ _ _ _ _)); first | (k_unfold; (try dsimp only)) | walk1 | (dsimp only; walk1) | fail "no step")
    exact hk u _ _ ws F N O off
end
section
theorem wtLaw2c : True := by
  w_top off
  trivial
theorem kwLaw2c1 : True := by
  k_with_none
  k_with "W1" => ((fail_if_success (with_reducible show wpAny _ _ (PySem.call (Value.ref _) _ _) _ _ _)); (fail_if_success (with_reducible show wpAny _ _ (pyIter _) _ _ _)); (fail_if_success (with_reducible show wpAny _ _ (PySem.exec (Stmt.For _ _ _ _ _) _) _ _ _)); first | (k_unfold; (try dsimp only)) | walk1 | (dsimp only; walk1) | fail "no step")
  k_with "k_enter" => (first | (refine' code_def (by k_asm) (by k_asm) (by k_asm) (by k_asm) (by k_asm) rfl rfl (by first | exact rfl | assumption) (by k_is) (by k_is) (by k_room) (by first | exact BindsTo.of_eq rfl | exact binds_K (by k_in) rfl (by k_is) rfl rfl rfl) (by exact locs rfl) ?_ (by exact rfl) (by exact rfl) (by exact rfl) (by decide); k_whole; intro _ _ _ _ _ _ Bz9 _ _; (try dsimp only); (try k_lift Bz9); (try k_fold)) | (refine' code_defC (by k_asm) (by k_asm) (by k_asm) (by k_asm) (by k_asm) rfl rfl (by first | exact rfl | assumption) (by k_is) (by k_is) (by k_room) (by first | exact BindsTo.of_eq rfl | exact binds_K (by k_in) rfl (by k_is) rfl rfl rfl) (by exact rfl) (by decide +kernel) ?_ (by exact rfl) (by exact rfl) (by exact rfl); k_whole; intro _ _ _ _ _ _ _ Nz9 Yz9 Bz9 _ _ lz9; (try k_lt lz9); k_cells Yz9; (try simp only [List.cons_append, List.nil_append] at Nz9); (try dsimp only); (try k_lift Bz9); (try k_fold)) | fail)
  k_with "execs cons" => (k_fold; (first | show wpAny _ AB (PySem.execs _ eB) _ _ _ | (show (let eB := _; let AB := _; wpAny _ AB (PySem.execs _ eB) _ _ _); intro eB AB)); refine wpAny_execs_cons ?_)
  k_with "omega" => first | exact Nat.le_of_ble_eq_true rfl | with_reducible assumption | exact Mine.o1 (by with_reducible assumption) (by exact rfl) | exact Mine.o3 (by with_reducible assumption) (by exact rfl) | exact Mine.o2 (by with_reducible assumption) (by exact rfl) | exact Mine.o4 (by with_reducible assumption) (by exact rfl) | exact Mine.o5 (by with_reducible assumption) (by exact rfl) | exact Mine.o6 (by with_reducible assumption) (by exact rfl) | exact Mine.o7 (by with_reducible assumption) (by exact rfl) | exact Mine.o8 (by with_reducible assumption) (by exact rfl) | exact Mine.o9 (by with_reducible assumption) (by exact rfl) | exact Mine.o10 (by with_reducible assumption) (by exact rfl) | exact Mine.o11 (by with_reducible assumption) (by exact rfl) | exact Mine.o12 (by with_reducible assumption) (by exact rfl) | exact Mine.o13 (by with_reducible assumption) (by exact rfl) | exact Nat.ne_of_lt (by with_reducible assumption) | exact Nat.ne_of_gt (by with_reducible assumption) | exact Nat.le_of_lt (by with_reducible assumption) | fail
  k_with "tlg_ne" => first | exact List.Mem.head _ | (apply List.Mem.tail; tlg_ne) | (apply List.mem_append_left; tlg_ne) | (apply List.mem_append_right; tlg_ne)
  k_with "lcg_off" => first | exact List.Subset.refl _ | exact List.nil_subset _ | (refine List.Sublist.subset ?_; (repeat first | exact List.Sublist.refl _ | apply List.Sublist.cons_cons | apply List.Sublist.cons); done) | (refine Mine.subC ?_ ?_; (focus tlg_ne); lcg_off) | (refine Mine.subA ?_ ?_ <;> lcg_off) | (apply List.subset_cons_of_subset; lcg_off) | (apply List.subset_append_of_subset_left; lcg_off) | (apply List.subset_append_of_subset_right; lcg_off)
  trivial
theorem kwLaw2c2 : True := by
  k_with "k_room" => ((try simp only [depth_mark, depth_under_make, depth_under_kw, depth_in1, depth_deeper]); first | assumption | (show _ < 1000; (try dsimp only); omega))
  k_with "k_ne" => ((refine neN ?_); (try dsimp only); first | assumption | exact Ne.symm (by assumption))
  k_with "compareOp In int ref" => (k_here; k_dflt (first | (refine' in_C (by k_asm) (by k_mem) (by k_asm) (by k_asm) (by k_asm) ?_) | (refine' in_I (by k_asm) (by k_mem) (by k_asm) (by k_asm) (by k_asm) ?_) | (refine' in_B (by k_asm) (by k_mem) (by k_asm) (by k_asm) (by k_asm) ?_)))
  k_with "compareOp NotIn int ref" => (k_here; k_dflt ( (refine' notin_C (by k_asm) (by k_mem) (by k_asm) (by k_asm) (by k_asm) ?_)))
  k_with "call builtin:dict.get" => (k_here; k_dflt (first | (refine' get_I (by k_asm) (by k_mem) (by k_asm) (by k_asm) (by k_asm) ?_; refine ⟨fun _ _ _ => ?_, fun _ => ?_⟩) | (refine' get_B (by k_asm) (by k_mem) (by k_asm) (by k_asm) (by k_asm) ?_; (try simp only [Bool.or_false]))))
  k_with "getMethod ref" => (k_here; (with_reducible show wpAny _ _ (getMethod (Value.ref _) (Str.ofString "get") _) _ _ _); k_dflt (refine' kdg_method (knd := PySem.intKind _ _) (by k_asm) (by k_mem) (by k_asm) ?_))
  k_with "subscriptTail" => (k_here; (with_reducible show wpAny _ _ (subscriptTail _ _ (Value.ref _) (Value.int _ _)) _ _ _); k_dflt (refine' item_C (by k_asm) (by k_mem) (by k_asm) (by k_asm) (by k_asm) ?_ (by with_unfolding_all rfl); intro _ _ _ _))
  k_with "setItem ref int" => (k_here; k_dflt (refine' kda_set (knd := PySem.intKind _ _) (by k_asm) (by k_asm) (by k_updF) (by k_asm) (intKind_is _ _ _ _) (by exact KOK.line (by k_asm) (by k_asm)) ?_; intro hz9 oz9 Fz9 Nz9 hdz9; (try dsimp only at Nz9); (try k_sweep); revert hz9 oz9 Fz9 Nz9 hdz9; intro _ _ _ _ _))
  trivial
variable {prog : Program} {w : World} {p : Program} {loose : List Str} {mean : ExcName → Option Value} {mg mb : Str → Option Value}
theorem kwLaw2c3 : True := by
  k_with "eval ListComp" => (k_here; k_dflt (refine LCt.ListComp_T (F₀ := by k_asm) (by with_unfolding_all rfl) (by decide) (by rfl) (by decide) (by rfl) ?_))
  k_with "CompSrcT" => (k_here; k_dflt (first | (refine' LCt.CompSrcT.ledger rfl (by k_asm) (by k_asm) (by k_mem) (by k_asm) ?_) | (refine' LCt.CompSrcT.base rfl (by k_asm) (by k_asm) (by k_asm) (by k_asm) ?_)); intro _; k_dflt (refine' flt_rest (by k_asm) (by k_asm) (by first | exact .inl (by k_asm) | exact .inr ⟨_, by k_mem, rfl, _, rfl⟩) rfl rfl (by decide) (fun _ _ _ _ _ _ _ _ _ _ _ _ _ _ _ _ _ _ _ => ?_) (fun _ _ => ?_)); (all_goals (try (simp only [LCg.Off3, and_true] at off'))))
  k_with "FltT" => (k_here; k_dflt (refine' flt_t (by k_asm) (by k_asm) (by intro pz9 hpz9; first | exact hpz9 | exact .tail _ hpz9 | exact .tail _ (.tail _ hpz9) | exact .tail _ (.tail _ (.tail _ hpz9))) ?_); (try rfl))
  k_with "call type:list" => (k_here; k_dflt (refine' list_D rfl (by k_asm) (by k_asm) (by k_mem) (by k_asm) (by k_asm) (by k_asm) ?_); intro Bz9 cz9 hz9 tkz9 vsz9 Fz9 Nz9 l1z9 hiz9 h64z9 hszz9; (try k_lt l1z9); (try k_sweep); revert Bz9 cz9 hz9 tkz9 vsz9 Fz9 Nz9 l1z9 hiz9 h64z9 hszz9; intro _ _ _ _ _ _ _ _ _ _ _)
  k_with "call builtin:sorted" => (k_here; k_dflt (refine' sorted_L (by k_asm) (by k_asm) (by k_mem) (by k_asm) (by k_asm) ?_); intro Bz9 vsz9 nsz9 cz9 hz9 Fz9 Nz9 l1z9 hiz9 hpmz9 h64z9 hszz9; (try k_lt l1z9); (try k_sweep); revert Bz9 vsz9 nsz9 cz9 hz9 Fz9 Nz9 l1z9 hiz9 hpmz9 h64z9 hszz9; intro _ _ _ _ _ _ _ _ _ _ _ _)
  k_with "call builtin:dict.pop" => (k_here; k_dflt (refine' pop_C (by k_asm) (by k_asm) (by k_updF) (by k_asm) (by k_asm) (by k_asm) ?_); intro hz9 oz9 vz9 Fz9 Nz9 hdz9; (try dsimp only at Nz9); (try k_sweep); revert hz9 oz9 vz9 Fz9 Nz9 hdz9; intro _ _ _ _ _ _)
  k_with "getMethod ref" => (k_here; (with_reducible show wpAny _ _ (getMethod (Value.ref _) (Str.ofString "pop") _) _ _ _); k_dflt (refine' popm_D (by k_asm) (by k_mem) (by k_asm) ?_))
  k_with "eval Name" => (k_here; k_dflt (refine' nameX_L (by k_asm) (by first | exact rfl | assumption) ?_ (by rfl) (by rfl); k_whole))
  k_with "k_ne" => ((refine neN ?_); (try dsimp only); first | assumption | exact Ne.symm (by assumption) | omega)
  k_with "k_units" => (first | exact Nat.le_of_ble_eq_true rfl | (simp only [ktrTop, units_deeper, units_in1, cLine_is]; omega) | ((try dsimp only [ktrTop, Around.deeper, Around.in1, Around.under]); rw [cLine_is]; omega))
  k_with "compareOp In int ref" => (k_here; k_dflt (first | (refine' in_list_ints (by first | exact led_list (by k_asm) (by k_mem) | exact base_list (by k_asm) (by k_asm)) (by first | k_asm | exact .cons _ _ .nil | exact .nil) ?_; k_whole) | (refine' in_E (by k_asm) (by k_asm) (by k_asm) (by k_asm) ?_)))
  k_with "compareOp NotEq ref ref" => (k_here; k_dflt (refine' ne_E (by k_asm) (by k_mem) (by k_mem) (by k_asm) (by k_asm) (by k_asm) (by k_asm) (by k_units) ?_))
  k_with "binaryOp Add ref ref" => (k_here; k_dflt (refine' add_L (by k_asm) (by k_asm) (by first | exact led_list (by k_asm) (by k_mem) | exact base_list (by k_asm) (by k_asm)) (by first | exact led_list (by k_asm) (by k_mem) | exact base_list (by k_asm) (by k_asm)) (by first | k_asm | exact .cons _ _ .nil | exact .nil) (by first | k_asm | exact .cons _ _ .nil | exact .nil) (by first | k_asm | (simp only [List.length_cons, List.length_nil, sizeLine_eq]; omega)) ?_); intro hz9 Dz9 Fz9 Nz9 l1z9 hiz9; (try k_lt l1z9); (try k_sweep); revert hz9 Dz9 Fz9 Nz9 l1z9 hiz9; intro _ _ _ _ _ _)
  k_with "call builtin:dict.get" => (k_here; k_dflt (first | (refine' get_V (by k_asm) (by k_mem) (by k_asm) (by k_asm) (by first | k_asm | exact vaSame _ _ _) ?_) | (refine' get_N (by k_asm) (by k_mem) (by k_asm) (by k_asm) (by k_asm) ?_)))
  k_with "call type:list" => (k_here; k_dflt (refine' copy_L (by k_asm) (by k_asm) (by k_mem) (by k_asm) ?_); intro Bz9 cz9 hz9 tkz9 Fz9 Nz9 l1z9; (try k_lt l1z9); (try k_sweep); revert Bz9 cz9 hz9 tkz9 Fz9 Nz9 l1z9; intro _ _ _ _ _ _ _)
  k_with "call builtin:list.extend" => (k_here; k_dflt (refine' ext_L (by k_asm) (by k_asm) (by k_updF) (by k_mem) (by first | k_asm | exact .cons _ _ .nil | exact .nil) (by first | k_asm | exact .cons _ _ .nil | exact .nil) (by first | k_asm | (simp only [List.length_cons, List.length_nil, sizeLine_eq]; omega)) ?_); intro hz9 nz9 Fz9 Nz9 hiz9; (try dsimp only at Nz9); (try k_sweep); revert hz9 nz9 Fz9 Nz9 hiz9; intro _ _ _ _ _)
  k_with "k_all" => with_reducible assumption
  k_with "subscriptTail" => (k_here; (with_reducible show wpAny _ _ (subscriptTail _ _ (Value.ref _) (Value.int _ _)) _ _ _); k_dflt (refine' item_V (by k_asm) (by k_mem) (by k_asm) (by k_asm) ?_ (by with_unfolding_all rfl)))
  k_with "compareOp Eq ref ref" => (k_here; k_dflt (refine' ke_eq_ints (by first | exact led_list (by k_asm) (by k_mem) | exact base_list (by k_asm) (by k_asm)) (by first | exact led_list (by k_asm) (by k_mem) | exact base_list (by k_asm) (by k_asm)) (by first | k_asm | exact .cons _ _ .nil | exact .nil) (by first | k_asm | exact .cons _ _ .nil | exact .nil) (by k_units) ?_))
  k_with "k_mem" => (with_reducible refine memOf ?_; with_reducible assumption)
  k_with "subscriptTail" => (k_here; (with_reducible show wpAny _ _ (subscriptTail _ _ (Value.ref _) (Value.str _ _)) _ _ _); k_dflt (refine' item_S (by k_asm) (by k_mem) (by k_asm) (by rfl) ?_ (by with_unfolding_all rfl)))
  trivial
variable {dp un : Nat} {gd : Option (List Code)} {cn : Str} {fa : Addr} {A₀ : Around} {base g : Heap} {L : Addr} {m : Str → Option Value} {s : Shared} {Q : Flow → Shared → Prop} {E : Value → Shared → Prop}
theorem s_state {SS : Addr} {mj : Int} {on : List Int} {b : Int} {tb : Tok} {oS : Obj} {own ws : List (Addr × Obj)} (B' : Below A₀ base [] g) (X' : (hd.heap_1 w.params).In g) (T' : Top p loose mean mg mb g) (hdp : dp + 30 < 1000) (hu : un + 800 < 9000)
    (F : Fr g L s.heap m) (hm : m (Str.ofString "state") = some (.ref SS)) (mS : (L + 1, oS) ∈ own) (dS : oS.data = .cell (some (.int b tb))) (hon : on.length < 50) (N : News g L s.heap (own ++ ws)) (O : Own (ModeS SS mj on) ws) (off : ∀ p ∈ own, p.1 ∉ ws.map (·.1))
    (hk : ∀ h' tk' ws', Fr g L h' m → News g L h' (own ++ ws') → Own (ModeS SS mj ((on.filter fun i => !decide (i = 40 + b)) ++ [40 + b])) ws' → (∀ p ∈ own, p.1 ∉ ws'.map (·.1)) → Q .next { s with heap := h', toks := tk' }) :
    wpAny (model prog w) (ktrTop dp un gd cn lawScope L fa (.ref 465) (lawCl L) []) (exec (stmtAt way4 0) (envX cn lawScope L fa (.ref 465) (lawCl L))) Q E s := by
  refine hideG fun GG hGG => ?_
  suffices kk : ∀ sc, lawScope = sc → GG by exact kk _ rfl
  intro sc hsc
  refine hGG ?_; clear hGG GG
  refine hideG fun GG hGG => ?_
  suffices kk : ∀ st, stmtAt way4 0 = st → GG by exact kk _ rfl
  intro st hst
  refine hGG ?_; clear hGG GG
  rw [hsc, hst]
  conv at hsc => lhs; whnf
  conv at hst => lhs; whnf
  subst hsc hst
  refine hideG fun GG hGG => ?_
  obtain ⟨dd, ll, ks1, ks2, ts1, ts2, tsm, cS, vS, rfl, ndS, ivS⟩ := own_modeS O (fun p hp => (N p (List.mem_append_right _ hp)).1)
  refine ndE ndS (fun n31 n32 n33 => ?_ : SS ≠ dd → SS ≠ ll → dd ≠ ll → GG)
  refine hGG ?_; clear hGG GG
  have r1 : ∀ p ∈ own, p.1 ≠ SS := fun p hp e => off p hp (by rw [e]; first | exact .head _ | exact .tail _ (.head _) | exact .tail _ (.tail _ (.head _)))
  have r2 : ∀ p ∈ own, p.1 ≠ dd := fun p hp e => off p hp (by rw [e]; first | exact .head _ | exact .tail _ (.head _) | exact .tail _ (.tail _ (.head _)))
  have r3 : ∀ p ∈ own, p.1 ≠ ll := fun p hp e => off p hp (by rw [e]; first | exact .head _ | exact .tail _ (.head _) | exact .tail _ (.tail _ (.head _)))
  have NN : News g L s.heap ((SS, instObj 163 dd) :: (dd, dictOf [⟨ks1, .str "major" ts1, .int mj tsm⟩, ⟨ks2, .str "on" ts2, .ref ll⟩] 2) :: (ll, listOf vS.toArray cS) :: own) := fun p hp => N p (mem_swap hp)
  clear N
  have hFP : FltP (fun i => !decide (i = 40 + b)) := trivial
  have hvl : vS.toArray.size ≤ sizeLine := by rw [List.size_toArray, ivS.length, sizeLine_eq]; omega
  have hz9 : (List.filter (fun i => !decide (i = 40 + b)) on).length + [40 + b].length ≤ sizeLine := by
    have := List.length_filter_le (fun i => !decide (i = 40 + b)) on
    rw [sizeLine_eq]; simp only [List.length_cons, List.length_nil]; omega
  repeat' (first | (k_unfold; (try dsimp only)) | walk1 | (dsimp only; walk1) | fail "no step")
  (with_reducible rename News _ _ _ _ => NF)
  (with_reducible rename Fr _ _ _ _ => FF)
  (with_reducible rename IntsAre _ (_ ++ _) => iv9)
  (with_reducible rename _ ∧ _ ∧ _ ∧ _ ∧ _ ∧ AllLt _ _ => ltD)
  refine hideG fun GG hGG => ?_
  suffices kk : ∀ D9 vs9, IntsAre vs9 ((on.filter fun i => !decide (i = 40 + b)) ++ [40 + b]) → (@LT.lt Nat _ SS D9 ∧ @LT.lt Nat _ dd D9 ∧ @LT.lt Nat _ ll D9 ∧ AllLt D9 own) → News g L _ ((D9, listOf vs9.toArray 0) :: (SS, instObj 163 dd) :: (dd, dictOf [⟨ks1, .str "major" ts1, .int mj tsm⟩, ⟨ks2, .str "on" ts2, .ref D9⟩] 2) :: own) → GG by exact kk _ _ iv9 ltD.2.2 (fun p hp => NF p (by refine subOf ?_ hp; lcg_off))
  intro D9 vs9 iv9 ltD NF
  refine hGG ?_; clear hGG GG
  obtain ⟨g1, g2, g3, g10⟩ := ltD
  have hrD := allLt_mem g10
  have ndS9 : [SS, dd, D9].Nodup := nd_swap (l := [SS, dd]) (x := ll) (m := []) ndS fun z => (List.mem_cons.mp z).elim (fun e => Nat.ne_of_lt g1 e.symm) fun z => (List.mem_cons.mp z).elim (fun e => Nat.ne_of_lt g2 e.symm) fun z => Nat.ne_of_lt g3 (List.mem_singleton.mp z).symm
  exact hk _ _ _ FF (fun p hp => NF p (by
    refine subOf ?_ hp; lcg_off)) (modeS_own (k1 := ks1) (k2 := ks2) (t1 := ts1) (t2 := ts2) (tm := tsm) (c := 0) ndS9 iv9) (fun p hp z => (List.mem_cons.mp z).elim (r1 p hp) fun z => (List.mem_cons.mp z).elim (r2 p hp) fun z => hrD p hp (List.mem_singleton.mp z))
end
section
theorem wtLaw2 : True := by
  w_top off
  trivial
theorem same_fst {own : List (Addr × Obj)} {a b : List (Addr × Obj)} (e : a.map (·.1) = b.map (·.1)) (h : ∀ p ∈ own, p.1 ∉ a.map (·.1)) : ∀ p ∈ own, p.1 ∉ b.map (·.1) := fun p hp z => h p hp (e ▸ z)
theorem RecL.setKept {prog : Program} {w : World} {RC : Addr} {P : RecP} {r : RecSt} (l : RecL prog w RC P r) {o : Obj} {kvs : List (Int × Value)} {f : Int → Bool} (d : o.IsDictOf (PySem.intKind prog w) kvs) (x : BoolsD kvs f) :
    RecL prog w RC { P with oK := o, kK := kvs } { r with x := { r.x with kept := f } } := by
  refine hideG fun GG hGG => ?_
  obtain ⟨nd, dRC, lRC, lD, lO', lA, lK, lE, lR, iD, iO, iA, iK, iE, iR, xD, xO, xA, xK, kE, kR, fE, fR, vE, vR, ivon, tt⟩ := l
  refine hGG ?_; clear hGG GG
  exact ⟨nd, dRC, lRC, lD, lO', lA, lK, lE, lR, iD, iO, iA, d, iE, iR, xD, xO, xA, x, kE, kR, fE, fR, vE, vR, ivon, tt⟩
theorem RecL.setAuto {prog : Program} {w : World} {RC : Addr} {P : RecP} {r : RecSt} (l : RecL prog w RC P r) {o : Obj} {kvs : List (Int × Value)} {f : Int → Bool} (d : o.IsDictOf (PySem.intKind prog w) kvs) (x : BoolsD kvs f) :
    RecL prog w RC { P with oA := o, kA := kvs } { r with x := { r.x with auto := f } } := by
  refine hideG fun GG hGG => ?_
  obtain ⟨nd, dRC, lRC, lD, lO', lA, lK, lE, lR, iD, iO, iA, iK, iE, iR, xD, xO, xA, xK, kE, kR, fE, fR, vE, vR, ivon, tt⟩ := l
  refine hGG ?_; clear hGG GG
  exact ⟨nd, dRC, lRC, lD, lO', lA, lK, lE, lR, iD, iO, d, iK, iE, iR, xD, xO, x, xK, kE, kR, fE, fR, vE, vR, ivon, tt⟩
theorem off_objs {own : List (Addr × Obj)} {RC D : Addr} {P P' : RecP} (h : ∀ p ∈ own, p.1 ∉ (P.objs RC).map (·.1)) (hD : ∀ p ∈ own, p.1 ≠ D) (e : ([P'.dD, P'.dO, P'.dA, P'.dK, P'.dE, P'.dR, P'.lO, P'.lT] : List Nat) = [P.dD, P.dO, P.dA, P.dK, P.dE, P.dR, P.lO, P.lT]) (hr : P'.rest.map (·.1) ⊆ D :: P.rest.map (·.1)) : ∀ p ∈ own, p.1 ∉ (P'.objs RC).map (·.1) := fun p hp z => by
  have z : p.1 ∈ RC :: ([P'.dD, P'.dO, P'.dA, P'.dK, P'.dE, P'.dR, P'.lO, P'.lT] ++ P'.rest.map (·.1)) := z
  have h : p.1 ∉ RC :: ([P.dD, P.dO, P.dA, P.dK, P.dE, P.dR, P.lO, P.lT] ++ P.rest.map (·.1)) := h p hp
  rw [e] at z
  rcases List.mem_cons.mp z with z | z
  · exact h (z ▸ .head _)
  · rcases List.mem_append.mp z with z | z
    · exact h (.tail _ (List.mem_append_left _ z))
    · rcases List.mem_cons.mp (hr z) with z | z
      · exact hD p hp z
      · exact h (.tail _ (List.mem_append_right _ z))
theorem RecL.setOn {prog : Program} {w : World} {RC : Addr} {P : RecP} {r : RecSt} (l : RecL prog w RC P r) {a : Addr} {oRC : Obj} {n : Nat} {vs : List Value} {ns : List Int} (d : oRC.IsDictOf (PySem.strKind prog w) (recKvs P.dD P.dO P.dA P.dK P.dE P.dR a P.lT r.mode P.tm)) (iv : IntsAre vs ns) (na : ∀ p ∈ P.objs RC, p.1 ≠ a) :
    RecL prog w RC { P with oRC := oRC, lO := a, von := vs, cO := n } { r with on := ns } := by
  exact ⟨nd_swap (l := [RC, P.dD, P.dO, P.dA, P.dK, P.dE, P.dR]) (x := P.lO) l.nd (nin_map na), d, l.lRC, l.lD, l.lO', l.lA, l.lK, l.lE, l.lR, l.iD, l.iO, l.iA, l.iK, l.iE, l.iR, l.xD, l.xO, l.xA, l.xK, l.kE, l.kR, l.fE, l.fR, l.vE, l.vR, iv, l.tt⟩
theorem stored_on {dD dO dA dK dE dR lO lT a : Addr} {m : Int} {tm : Tok} : stored (recKvs dD dO dA dK dE dR lO lT m tm) (Str.ofString "on") (Value.ref a) = recKvs dD dO dA dK dE dR a lT m tm := by rfl
theorem RecL.setDflt {prog : Program} {w : World} {RC : Addr} {P : RecP} {r : RecSt} (l : RecL prog w RC P r) {o : Obj} {kvs : List (Int × Value)} {f : Int → Option Int} (d : o.IsDictOf (PySem.intKind prog w) kvs) (x : IntsD kvs f) :
    RecL prog w RC { P with oD := o, kD := kvs } { r with x := { r.x with dflt := f } } := by
  exact ⟨l.nd, l.dRC, l.lRC, l.lD, l.lO', l.lA, l.lK, l.lE, l.lR, d, l.iO, l.iA, l.iK, l.iE, l.iR, x, l.xO, l.xA, l.xK, l.kE, l.kR, l.fE, l.fR, l.vE, l.vR, l.von, l.tt⟩
variable {prog : Program} {w : World} {p : Program} {loose : List Str} {mean : ExcName → Option Value} {mg mb : Str → Option Value}
theorem kwLaw23 : True := by
  k_with "setItem ref str" => (k_here; k_dflt (refine' kda_set (knd := PySem.strKind _ _) (by k_asm) (by k_asm) (by k_updF) (by k_asm) (strKind_is _ _ _ _) (by exact Nat.le_of_ble_eq_true rfl) ?_; intro hz9 oz9 Fz9 Nz9 hdz9; (try dsimp only at Nz9); (try k_sweep); revert hz9 oz9 Fz9 Nz9 hdz9; intro _ _ _ _ _))
  trivial
variable {dp un : Nat} {gd : Option (List Code)} {cn : Str} {fa : Addr} {A₀ : Around} {base g : Heap} {L : Addr} {m : Str → Option Value} {s : Shared} {Q : Flow → Shared → Prop} {E : Value → Shared → Prop}
theorem s_kept {RC : Addr} {r : RecSt} {b : Int} {tb : Tok} {oS : Obj} {own ws : List (Addr × Obj)} (B' : Below A₀ base [] g) (X' : (hd.heap_1 w.params).In g) (T' : Top p loose mean mg mb g) (hdp : dp + 30 < 1000) (hu : un + 800 < 9000)
    (F : Fr g L s.heap m) (hm : m (Str.ofString "record") = some (.ref RC)) (mS : (L + 1, oS) ∈ own) (dS : oS.data = .cell (some (.int b tb))) (h0 : 0 ≤ b) (h9 : b < 9) (N : News g L s.heap (own ++ ws)) (O : Own (Rec prog w RC r) ws) (off : ∀ p ∈ own, p.1 ∉ ws.map (·.1))
    (hk : ∀ h' tk' ws', Fr g L h' m → News g L h' (own ++ ws') → Own (Rec prog w RC ({ r with x := r.x.makeKept b })) ws' → (∀ p ∈ own, p.1 ∉ ws'.map (·.1)) → Q .next { s with heap := h', toks := tk' }) :
    wpAny (model prog w) (ktrTop dp un gd cn lawScope L fa (.ref 465) (lawCl L) []) (exec (stmtAt way0 1) (envX cn lawScope L fa (.ref 465) (lawCl L))) Q E s := by
  refine hideG fun GG hGG => ?_
  suffices kk : ∀ sc, lawScope = sc → GG by exact kk _ rfl
  intro sc hsc
  refine hGG ?_; clear hGG GG
  refine hideG fun GG hGG => ?_
  suffices kk : ∀ st, stmtAt way0 1 = st → GG by exact kk _ rfl
  intro st hst
  refine hGG ?_; clear hGG GG
  rw [hsc, hst]
  conv at hsc => lhs; whnf
  conv at hst => lhs; whnf
  subst hsc hst
  refine hideG fun GG hGG => ?_
  obtain ⟨⟨dD, dO, dA, dK, dE, dR, lO, lT, oRC, oD, oO, oA, oK, oE, oR, kD, kO, kA, kK, cO, cT, tm, von, EL, WL, TT⟩, rfl, l⟩ := own_rec O (fun p hp => (N p (List.mem_append_right _ hp)).1)
  obtain ⟨nd, dRC, lRC, lD, lO', lA, lK, lE, lR, iD, iO, iA, iK, iE, iR, xD, xO, xA, xK, kE, kR, fE, fR, vE, vR, ivon, tt⟩ := id l
  refine rec9e nd off fun _ _ _ _ _ _ _ _ _ _ _ _ _ _ _ _ _ _ _ _ _ _ _ _ _ _ _ _ _ _ _ _ _ _ _ _ rRC rD rO rA rK rE rR rlO rlT => ?_
  dsimp only [RecP.rest] at *
  have kD9 := xD.1
  have kO9 := xO.1
  have kA9 := xA.1
  have kK9 := xK.1
  suffices kk : ∀ rest, (EL.map LR.obj ++ (WL.map LR.obj ++ TT)) ++ own = rest → GG by exact kk _ rfl
  intro rest hrest
  refine hGG ?_; clear hGG GG
  rw [hrest] at rRC rD rO rA rK rE rR rlO rlT
  have mS' : (L + 1, oS) ∈ rest := by rw [← hrest]; exact List.mem_append_right _ mS
  have NN : News g L s.heap ((RC, oRC) :: (dD, oD) :: (dO, oO) :: (dA, oA) :: (dK, oK) :: (dE, oE) :: (dR, oR) :: (lO, listOf von.toArray cO) :: (lT, listOf (refs TT).toArray cT) :: rest) := fun p hp => N p (by
    rw [← hrest] at hp
    exact mem_swap hp)
  clear N
  repeat' (first | (k_unfold; (try dsimp only)) | walk1 | (dsimp only; walk1) | fail "no step")
  (with_reducible rename News _ _ _ _ => NF)
  (with_reducible rename Fr _ _ _ _ => FF)
  (with_reducible rename Obj.IsDictOf _ _ (stored _ _ _) => d9)
  exact hk _ _ _ FF (fun p hp => NF p (by
    rw [← hrest]
    exact mem_swap hp)) (rec_own (l.setKept d9 (xK.put h0 h9))) (same_fst rfl off)
theorem s_auto {RC : Addr} {r : RecSt} {b : Int} {tb : Tok} {oS : Obj} {own ws : List (Addr × Obj)} (B' : Below A₀ base [] g) (X' : (hd.heap_1 w.params).In g) (T' : Top p loose mean mg mb g) (hdp : dp + 30 < 1000) (hu : un + 800 < 9000)
    (F : Fr g L s.heap m) (hm : m (Str.ofString "record") = some (.ref RC)) (mS : (L + 1, oS) ∈ own) (dS : oS.data = .cell (some (.int b tb))) (h0 : 0 ≤ b) (h9 : b < 9) (N : News g L s.heap (own ++ ws)) (O : Own (Rec prog w RC r) ws) (off : ∀ p ∈ own, p.1 ∉ ws.map (·.1))
    (hk : ∀ h' tk' ws', Fr g L h' m → News g L h' (own ++ ws') → Own (Rec prog w RC ({ r with x := { r.x with auto := setAt r.x.auto b true } })) ws' → (∀ p ∈ own, p.1 ∉ ws'.map (·.1)) → Q .next { s with heap := h', toks := tk' }) :
    wpAny (model prog w) (ktrTop dp un gd cn lawScope L fa (.ref 465) (lawCl L) []) (exec (stmtAt way1 1) (envX cn lawScope L fa (.ref 465) (lawCl L))) Q E s := by
  refine hideG fun GG hGG => ?_
  suffices kk : ∀ sc, lawScope = sc → GG by exact kk _ rfl
  intro sc hsc
  refine hGG ?_; clear hGG GG
  refine hideG fun GG hGG => ?_
  suffices kk : ∀ st, stmtAt way1 1 = st → GG by exact kk _ rfl
  intro st hst
  refine hGG ?_; clear hGG GG
  rw [hsc, hst]
  conv at hsc => lhs; whnf
  conv at hst => lhs; whnf
  subst hsc hst
  refine hideG fun GG hGG => ?_
  obtain ⟨⟨dD, dO, dA, dK, dE, dR, lO, lT, oRC, oD, oO, oA, oK, oE, oR, kD, kO, kA, kK, cO, cT, tm, von, EL, WL, TT⟩, rfl, l⟩ := own_rec O (fun p hp => (N p (List.mem_append_right _ hp)).1)
  obtain ⟨nd, dRC, lRC, lD, lO', lA, lK, lE, lR, iD, iO, iA, iK, iE, iR, xD, xO, xA, xK, kE, kR, fE, fR, vE, vR, ivon, tt⟩ := id l
  refine rec9e nd off fun _ _ _ _ _ _ _ _ _ _ _ _ _ _ _ _ _ _ _ _ _ _ _ _ _ _ _ _ _ _ _ _ _ _ _ _ rRC rD rO rA rK rE rR rlO rlT => ?_
  dsimp only [RecP.rest] at *
  have kD9 := xD.1
  have kO9 := xO.1
  have kA9 := xA.1
  have kK9 := xK.1
  suffices kk : ∀ rest, (EL.map LR.obj ++ (WL.map LR.obj ++ TT)) ++ own = rest → GG by exact kk _ rfl
  intro rest hrest
  refine hGG ?_; clear hGG GG
  rw [hrest] at rRC rD rO rA rK rE rR rlO rlT
  have mS' : (L + 1, oS) ∈ rest := by rw [← hrest]; exact List.mem_append_right _ mS
  have NN : News g L s.heap ((RC, oRC) :: (dD, oD) :: (dO, oO) :: (dA, oA) :: (dK, oK) :: (dE, oE) :: (dR, oR) :: (lO, listOf von.toArray cO) :: (lT, listOf (refs TT).toArray cT) :: rest) := fun p hp => N p (by
    rw [← hrest] at hp
    exact mem_swap hp)
  clear N
  repeat' (first | (k_unfold; (try dsimp only)) | walk1 | (dsimp only; walk1) | fail "no step")
  (with_reducible rename News _ _ _ _ => NF)
  (with_reducible rename Fr _ _ _ _ => FF)
  (with_reducible rename Obj.IsDictOf _ _ (stored _ _ _) => d9)
  exact hk _ _ _ FF (fun p hp => NF p (by
    rw [← hrest]
    exact mem_swap hp)) (rec_own (l.setAuto d9 (xA.put h0 h9))) (same_fst rfl off)
theorem s_dflt {RC : Addr} {r : RecSt} {b : Int} {tb : Tok} {oS : Obj} {own ws : List (Addr × Obj)} (B' : Below A₀ base [] g) (X' : (hd.heap_1 w.params).In g) (T' : Top p loose mean mg mb g) (hdp : dp + 30 < 1000) (hu : un + 800 < 9000)
    (F : Fr g L s.heap m) (hm : m (Str.ofString "record") = some (.ref RC)) (mS : (L + 1, oS) ∈ own) (dS : oS.data = .cell (some (.int b tb))) (h0 : 0 ≤ b) (h9 : b < 9) (N : News g L s.heap (own ++ ws)) (O : Own (Rec prog w RC r) ws) (off : ∀ p ∈ own, p.1 ∉ ws.map (·.1))
    (hk : ∀ h' tk' ws', Fr g L h' m → News g L h' (own ++ ws') → Own (Rec prog w RC ({ r with x := { r.x with dflt := if (r.x.dflt b).isSome then r.x.dflt else setAt r.x.dflt b (some 7) } })) ws' → (∀ p ∈ own, p.1 ∉ ws'.map (·.1)) → Q .next { s with heap := h', toks := tk' }) :
    wpAny (model prog w) (ktrTop dp un gd cn lawScope L fa (.ref 465) (lawCl L) []) (exec (stmtAt way1 2) (envX cn lawScope L fa (.ref 465) (lawCl L))) Q E s := by
  refine hideG fun GG hGG => ?_
  suffices kk : ∀ sc, lawScope = sc → GG by exact kk _ rfl
  intro sc hsc
  refine hGG ?_; clear hGG GG
  refine hideG fun GG hGG => ?_
  suffices kk : ∀ st, stmtAt way1 2 = st → GG by exact kk _ rfl
  intro st hst
  refine hGG ?_; clear hGG GG
  rw [hsc, hst]
  conv at hsc => lhs; whnf
  conv at hst => lhs; whnf
  subst hsc hst
  refine hideG fun GG hGG => ?_
  obtain ⟨⟨dD, dO, dA, dK, dE, dR, lO, lT, oRC, oD, oO, oA, oK, oE, oR, kD, kO, kA, kK, cO, cT, tm, von, EL, WL, TT⟩, rfl, l⟩ := own_rec O (fun p hp => (N p (List.mem_append_right _ hp)).1)
  obtain ⟨nd, dRC, lRC, lD, lO', lA, lK, lE, lR, iD, iO, iA, iK, iE, iR, xD, xO, xA, xK, kE, kR, fE, fR, vE, vR, ivon, tt⟩ := id l
  refine rec9e nd off fun _ _ _ _ _ _ _ _ _ _ _ _ _ _ _ _ _ _ _ _ _ _ _ _ _ _ _ _ _ _ _ _ _ _ _ _ rRC rD rO rA rK rE rR rlO rlT => ?_
  dsimp only [RecP.rest] at *
  have kD9 := xD.1
  have kO9 := xO.1
  have kA9 := xA.1
  have kK9 := xK.1
  suffices kk : ∀ rest, (EL.map LR.obj ++ (WL.map LR.obj ++ TT)) ++ own = rest → GG by exact kk _ rfl
  intro rest hrest
  refine hGG ?_; clear hGG GG
  rw [hrest] at rRC rD rO rA rK rE rR rlO rlT
  have mS' : (L + 1, oS) ∈ rest := by rw [← hrest]; exact List.mem_append_right _ mS
  have NN : News g L s.heap ((RC, oRC) :: (dD, oD) :: (dO, oO) :: (dA, oA) :: (dK, oK) :: (dE, oE) :: (dR, oR) :: (lO, listOf von.toArray cO) :: (lT, listOf (refs TT).toArray cT) :: rest) := fun p hp => N p (by
    rw [← hrest] at hp
    exact mem_swap hp)
  clear N
  repeat' (first | (k_unfold; (try dsimp only)) | walk1 | (dsimp only; walk1) | fail "no step")
  · (with_reducible rename r.x.dflt b = some _ => e1)
    (with_reducible rename News _ _ _ _ => NF)
    (with_reducible rename Fr _ _ _ _ => FF)
    (with_reducible rename Obj.IsDictOf _ _ (stored _ _ _) => d9)
    have e0 : ∀ i, r.x.dflt b = some i → (if (r.x.dflt b).isSome then r.x.dflt else setAt r.x.dflt b (some 7)) = setAt r.x.dflt b (some i) := fun i e1 => by
      rw [e1]
      simp only [Option.isSome_some, if_true]
      funext j
      unfold setAt
      split
      · rename_i e; rw [e, e1]
      · rfl
    rw [e0 _ e1] at hk
    exact hk _ _ _ FF (fun p hp => NF p (by
    rw [← hrest]
    exact mem_swap hp)) (rec_own (l.setDflt d9 (xD.put h0 h9))) (same_fst rfl off)
  · (with_reducible rename r.x.dflt b = none => e1)
    (with_reducible rename News _ _ _ _ => NF)
    (with_reducible rename Fr _ _ _ _ => FF)
    (with_reducible rename Obj.IsDictOf _ _ (stored _ _ _) => d9)
    rw [show (if (r.x.dflt b).isSome then r.x.dflt else setAt r.x.dflt b (some 7)) = setAt r.x.dflt b (some 7) by rw [e1]; rfl] at hk
    exact hk _ _ _ FF (fun p hp => NF p (by
    rw [← hrest]
    exact mem_swap hp)) (rec_own (l.setDflt d9 (xD.put h0 h9))) (same_fst rfl off)
theorem s_on {RC : Addr} {r : RecSt} {b : Int} {tb : Tok} {oS : Obj} {own ws : List (Addr × Obj)} (B' : Below A₀ base [] g) (X' : (hd.heap_1 w.params).In g) (T' : Top p loose mean mg mb g) (hdp : dp + 30 < 1000) (hu : un + 800 < 9000)
    (F : Fr g L s.heap m) (hm : m (Str.ofString "record") = some (.ref RC)) (mS : (L + 1, oS) ∈ own) (dS : oS.data = .cell (some (.int b tb))) (h0 : 0 ≤ b) (h9 : b < 9) (hon : r.on.length < 50) (N : News g L s.heap (own ++ ws)) (O : Own (Rec prog w RC r) ws) (off : ∀ p ∈ own, p.1 ∉ ws.map (·.1))
    (hk : ∀ h' tk' ws', Fr g L h' m → News g L h' (own ++ ws') → Own (Rec prog w RC ({ r with on := (r.on.filter fun i => !decide (i = 40 + b)) ++ [40 + b] })) ws' → (∀ p ∈ own, p.1 ∉ ws'.map (·.1)) → Q .next { s with heap := h', toks := tk' }) :
    wpAny (model prog w) (ktrTop dp un gd cn lawScope L fa (.ref 465) (lawCl L) []) (exec (stmtAt way4 1) (envX cn lawScope L fa (.ref 465) (lawCl L))) Q E s := by
  refine hideG fun GG hGG => ?_
  suffices kk : ∀ sc, lawScope = sc → GG by exact kk _ rfl
  intro sc hsc
  refine hGG ?_; clear hGG GG
  refine hideG fun GG hGG => ?_
  suffices kk : ∀ st, stmtAt way4 1 = st → GG by exact kk _ rfl
  intro st hst
  refine hGG ?_; clear hGG GG
  rw [hsc, hst]
  conv at hsc => lhs; whnf
  conv at hst => lhs; whnf
  subst hsc hst
  refine hideG fun GG hGG => ?_
  obtain ⟨⟨dD, dO, dA, dK, dE, dR, lO, lT, oRC, oD, oO, oA, oK, oE, oR, kD, kO, kA, kK, cO, cT, tm, von, EL, WL, TT⟩, rfl, l⟩ := own_rec O (fun p hp => (N p (List.mem_append_right _ hp)).1)
  obtain ⟨nd, dRC, lRC, lD, lO', lA, lK, lE, lR, iD, iO, iA, iK, iE, iR, xD, xO, xA, xK, kE, kR, fE, fR, vE, vR, ivon, tt⟩ := id l
  refine rec9e nd off fun _ _ _ _ _ _ _ _ _ _ _ _ _ _ _ _ _ _ _ _ _ _ _ _ _ _ _ _ _ _ _ _ _ _ _ _ rRC rD rO rA rK rE rR rlO rlT => ?_
  dsimp only [RecP.rest] at *
  have kD9 := xD.1
  have kO9 := xO.1
  have kA9 := xA.1
  have kK9 := xK.1
  suffices kk : ∀ rest, (EL.map LR.obj ++ (WL.map LR.obj ++ TT)) ++ own = rest → GG by exact kk _ rfl
  intro rest hrest
  refine hGG ?_; clear hGG GG
  rw [hrest] at rRC rD rO rA rK rE rR rlO rlT
  have mS' : (L + 1, oS) ∈ rest := by rw [← hrest]; exact List.mem_append_right _ mS
  have NN : News g L s.heap ((RC, oRC) :: (dD, oD) :: (dO, oO) :: (dA, oA) :: (dK, oK) :: (dE, oE) :: (dR, oR) :: (lO, listOf von.toArray cO) :: (lT, listOf (refs TT).toArray cT) :: rest) := fun p hp => N p (by
    rw [← hrest] at hp
    exact mem_swap hp)
  clear N
  have hFP : FltP (fun i => !decide (i = 40 + b)) := trivial
  have hvl : von.toArray.size ≤ sizeLine := by rw [List.size_toArray, ivon.length, sizeLine_eq]; omega
  have hz9 : (List.filter (fun i => !decide (i = 40 + b)) r.on).length + [40 + b].length ≤ sizeLine := by
    have := List.length_filter_le (fun i => !decide (i = 40 + b)) r.on
    rw [sizeLine_eq]; simp only [List.length_cons, List.length_nil]; omega
  repeat' (first | (k_unfold; (try dsimp only)) | walk1 | (dsimp only; walk1) | fail "no step")
  (with_reducible rename News _ _ _ _ => NF)
  (with_reducible rename Fr _ _ _ _ => FF)
  (with_reducible rename IntsAre _ (_ ++ _) => iv9)
  (with_reducible rename Obj.IsDictOf (PySem.strKind _ _) _ (stored _ _ _) => d9)
  (with_reducible rename _ ∧ _ ∧ _ ∧ _ ∧ _ ∧ _ ∧ _ ∧ _ ∧ _ ∧ _ ∧ _ ∧ AllLt _ _ => ltD)
  rw [stored_on] at d9
  refine hideG fun GG hGG => ?_
  suffices kk : ∀ D9 vs9 oRC9, IntsAre vs9 ((r.on.filter fun i => !decide (i = 40 + b)) ++ [40 + b]) → (@LT.lt Nat _ RC D9 ∧ @LT.lt Nat _ dD D9 ∧ @LT.lt Nat _ dO D9 ∧ @LT.lt Nat _ dA D9 ∧ @LT.lt Nat _ dK D9 ∧ @LT.lt Nat _ dE D9 ∧ @LT.lt Nat _ dR D9 ∧ @LT.lt Nat _ lO D9 ∧ @LT.lt Nat _ lT D9 ∧ AllLt D9 rest) → oRC9.IsDictOf (PySem.strKind prog w) (recKvs dD dO dA dK dE dR D9 lT r.mode tm) → News g L _ ((D9, listOf vs9.toArray 0) :: (RC, oRC9) :: (dD, oD) :: (dO, oO) :: (dA, oA) :: (dK, oK) :: (dE, oE) :: (dR, oR) :: (lT, listOf (refs TT).toArray cT) :: rest) → GG by exact kk _ _ _ iv9 ltD.2.2 d9 (fun p hp => NF p (by refine subOf ?_ hp; lcg_off))
  intro D9 vs9 oRC9 iv9 ltD d9 NF
  refine hGG ?_; clear hGG GG
  refine hideG fun GG hGG => ?_
  obtain ⟨g1, g2, g3, g4, g5, g6, g7, g8, g9, g10⟩ := ltD
  refine hGG ?_; clear hGG GG
  have hrD := allLt_mem g10
  have hnew : ∀ p ∈ RecP.objs RC ⟨dD, dO, dA, dK, dE, dR, lO, lT, oRC, oD, oO, oA, oK, oE, oR, kD, kO, kA, kK, cO, cT, tm, von, EL, WL, TT⟩, p.1 ≠ D9 := allC (Nat.ne_of_lt g1) (allC (Nat.ne_of_lt g2) (allC (Nat.ne_of_lt g3) (allC (Nat.ne_of_lt g4) (allC (Nat.ne_of_lt g5) (allC (Nat.ne_of_lt g6) (allC (Nat.ne_of_lt g7) (allC (Nat.ne_of_lt g8) (allC (Nat.ne_of_lt g9) (fun p h => hrD p (by rw [← hrest]; exact List.mem_append_left _ h))))))))))
  exact hk _ _ _ FF (fun p hp => NF p (by
    rw [← hrest]
    refine subOf ?_ hp; (try simp only [RecP.objs, RecP.rest, List.cons_append, List.nil_append]); lcg_off)) (rec_own (l.setOn (n := 0) d9 iv9 hnew)) (fun p hp => nin_swap (l := [RC, dD, dO, dA, dK, dE, dR]) (x := lO) (off p hp) (hrD p (by rw [← hrest]; exact List.mem_append_right _ hp)))
end
section
theorem wtLaw2b : True := by
  w_top off
  trivial
theorem lrKvs_swap {A B : List LR} {q q' : LR} (hk : q'.k = q.k) (hA : ∀ p ∈ A, p.k ≠ q.k) (hB : ∀ p ∈ B, p.k ≠ q.k) : lrKvs (A ++ q' :: B) = stored (lrKvs (A ++ q :: B)) q.k (.ref q'.il) := by
  unfold stored
  rw [if_pos (by simp [lrKvs])]
  have h1 : ∀ l : List LR, (∀ p ∈ l, p.k ≠ q.k) → (lrKvs l).map (fun kv => if kv.1 = q.k then (kv.1, Value.ref q'.il) else kv) = lrKvs l := fun l hl => by
    unfold lrKvs
    rw [List.map_map]
    refine List.map_congr_left fun x hx => ?_
    simp [hl x hx]
  have e : lrKvs (A ++ q :: B) = lrKvs A ++ (q.k, Value.ref q.il) :: lrKvs B := by simp [lrKvs]
  have e' : lrKvs (A ++ q' :: B) = lrKvs A ++ (q'.k, Value.ref q'.il) :: lrKvs B := by simp [lrKvs]
  rw [e, e', List.map_append, List.map_cons, h1 A hA, h1 B hB, if_pos rfl, hk]
theorem lrF_swap {A B : List LR} {q q' : LR} (hk : q'.k = q.k) (hA : ∀ p ∈ A, p.k ≠ q.k) (k : Int) : lrF (A ++ q' :: B) k = setAt (lrF (A ++ q :: B)) q.k (some q'.ns) k := by
  unfold setAt
  split
  · rename_i e
    subst e
    unfold lrF
    rw [List.find?_append, List.find?_eq_none.mpr (fun p hp => by simpa using hA p hp)]
    simp [List.find?_cons, hk]
  · rename_i e
    unfold lrF
    rw [List.find?_append, List.find?_append, List.find?_cons, List.find?_cons]
    have h1 : ¬ q.k = k := fun z => e z.symm
    have h2 : ¬ q'.k = k := fun z => e (z.symm.trans hk)
    simp [h1, h2]
theorem lr_split {l : List LR} {k : Int} {q : LR} (nd : (l.map (·.k)).Nodup) (h : l.find? (fun q => decide (q.k = k)) = some q) : ∃ A B, l = A ++ q :: B ∧ q.k = k ∧ (∀ p ∈ A, p.k ≠ q.k) ∧ ∀ p ∈ B, p.k ≠ q.k := by
  obtain ⟨h1, A, B, e, h2⟩ := List.find?_eq_some_iff_append.mp h
  have hq : q.k = k := of_decide_eq_true h1
  subst e
  refine ⟨A, B, rfl, hq, fun p hp e' => ?_, fun p hp e' => ?_⟩
  · have := h2 p hp; rw [← hq] at this; simp [e'] at this
  · rw [List.map_append, List.map_cons] at nd
    exact (List.nodup_cons.mp (List.nodup_append.mp nd).2.1).1 (e' ▸ List.mem_map_of_mem hp)
theorem keys_lr {prog : Program} {w : World} {o : Obj} {l : List LR} (d : o.IsDictOf (PySem.intKind prog w) (lrKvs l)) : (l.map (·.k)).Nodup := by
  have := keysNodup_of_isDictOf d
  rwa [show (lrKvs l).map (·.1) = l.map (·.k) by simp [lrKvs]] at this
theorem keys_mid {RC : Addr} {P : RecP} {A B : List LR} {q : LR} (hE : P.EL = A ++ q :: B) : (P.objs RC).map (·.1) = P.ks RC ((A.map LR.obj).map (·.1)) ++ q.il :: (B.map LR.obj ++ (P.WL.map LR.obj ++ P.TT)).map (·.1) := by
  have h : (P.EL.map LR.obj ++ (P.WL.map LR.obj ++ P.TT)).map (fun p : Addr × Obj => p.1) = (A.map LR.obj).map (fun p : Addr × Obj => p.1) ++ q.il :: (B.map LR.obj ++ (P.WL.map LR.obj ++ P.TT)).map (fun p : Addr × Obj => p.1) := by
    rw [hE, List.map_append (f := LR.obj) (l₁ := A), List.append_assoc, List.map_append (l₁ := A.map LR.obj)]
    rfl
  exact congrArg (P.ks RC) h
/-- a list of every is another one now, or there is one more -/
theorem RecL.everySwap {prog : Program} {w : World} {RC : Addr} {P : RecP} {r : RecSt} (l : RecL prog w RC P r) {A B : List LR} {q : LR} (hE : P.EL = A ++ q :: B) (hA : ∀ p ∈ A, p.k ≠ q.k) (hB : ∀ p ∈ B, p.k ≠ q.k) {o : Obj} {a : Addr} {n : Nat} {vs : List Value} {ns : List Int}
    (d : o.IsDictOf (PySem.intKind prog w) (stored (lrKvs P.EL) q.k (.ref a))) (iv : IntsAre vs ns) (new : ∀ p ∈ P.objs RC, p.1 ≠ a) :
    RecL prog w RC { P with oE := o, EL := A ++ ⟨q.k, a, n, vs, ns⟩ :: B } { r with every := setAt r.every q.k (some ns) } := by
  have hkv : lrKvs (A ++ ⟨q.k, a, n, vs, ns⟩ :: B) = stored (lrKvs P.EL) q.k (.ref a) := by rw [hE]; exact lrKvs_swap (q' := ⟨q.k, a, n, vs, ns⟩) rfl hA hB
  refine ⟨?_, l.dRC, l.lRC, l.lD, l.lO', l.lA, l.lK, l.lE, l.lR, l.iD, l.iO, l.iA, l.iK, by rw [hkv]; exact d, l.iR, l.xD, l.xO, l.xA, l.xK, fun p hp => ?_, l.kR, fun k => ?_, l.fR, fun p hp => ?_, l.vR, l.von, l.tt⟩
  · rw [keys_mid (q := ⟨q.k, a, n, vs, ns⟩) (A := A) (B := B) rfl]
    exact nd_swap (l := P.ks RC ((A.map LR.obj).map (·.1))) (x := q.il) (m := (B.map LR.obj ++ (P.WL.map LR.obj ++ P.TT)).map (·.1)) (by rw [← keys_mid hE]; exact l.nd) (by rw [← keys_mid hE]; exact nin_map new)
  · have hp' : p.1 ∈ (lrKvs P.EL).map (·.1) := by
      rw [hE]
      have : p.1 ∈ (lrKvs (A ++ ⟨q.k, a, n, vs, ns⟩ :: B)).map (·.1) := List.mem_map_of_mem hp
      simpa [lrKvs] using this
    obtain ⟨p2, hp2, e⟩ := List.mem_map.mp hp'
    have := l.kE p2 hp2
    rw [e] at this
    exact this
  · show setAt r.every q.k (some ns) k = lrF (A ++ ⟨q.k, a, n, vs, ns⟩ :: B) k
    rw [lrF_swap (q := q) (q' := ⟨q.k, a, n, vs, ns⟩) rfl hA, ← hE]
    unfold setAt
    split
    · rfl
    · exact l.fE k
  · have vE' := l.vE
    rw [hE] at vE'
    exact allA (fun p hp => vE' p (List.mem_append_left _ hp)) (allC iv fun p hp => vE' p (List.mem_append_right _ (.tail _ hp))) p hp
theorem RecL.everyNew {prog : Program} {w : World} {RC : Addr} {P : RecP} {r : RecSt} (l : RecL prog w RC P r) {o : Obj} {k : Int} {a : Addr} {n : Nat} {vs : List Value} {ns : List Int} (h : P.EL.find? (fun p => decide (p.k = k)) = none)
    (d : o.IsDictOf (PySem.intKind prog w) (stored (lrKvs P.EL) k (.ref a))) (iv : IntsAre vs ns) (h0 : 0 ≤ k) (h9 : k < 9) (new : ∀ p ∈ P.objs RC, p.1 ≠ a) :
    RecL prog w RC { P with oE := o, EL := P.EL ++ [⟨k, a, n, vs, ns⟩] } { r with every := setAt r.every k (some ns) } := by
  refine ⟨nd_add (ks_add (x := LR.obj ⟨k, a, n, vs, ns⟩) ?_) l.nd (nin_map new), l.dRC, l.lRC, l.lD, l.lO', l.lA, l.lK, l.lE, l.lR, l.iD, l.iO, l.iA, l.iK, by rw [lrKvs_new (q := ⟨k, a, n, vs, ns⟩) h]; exact d, l.iR, l.xD, l.xO, l.xA, l.xK, by rw [lrKvs_new (q := ⟨k, a, n, vs, ns⟩) h]; exact l.kE.stored h0 h9, l.kR, fun k' => ?_, l.fR, allA l.vE (allC iv allN), l.vR, l.von, l.tt⟩
  · unfold RecP.rest
    rw [List.map_append]
    exact perm_mid
  · rw [lrF_new (q := ⟨k, a, n, vs, ns⟩) h]
    dsimp only [setAt]
    split
    · rfl
    · exact l.fE k'
theorem RecL.everyObj {prog : Program} {w : World} {RC : Addr} {P : RecP} {r : RecSt} (l : RecL prog w RC P r) {o : Obj} (d : o.IsDictOf (PySem.intKind prog w) (lrKvs P.EL)) : RecL prog w RC { P with oE := o } r := by
  exact ⟨l.nd, l.dRC, l.lRC, l.lD, l.lO', l.lA, l.lK, l.lE, l.lR, l.iD, l.iO, l.iA, l.iK, d, l.iR, l.xD, l.xO, l.xA, l.xK, l.kE, l.kR, l.fE, l.fR, l.vE, l.vR, l.von, l.tt⟩
theorem lr_same {l : List LR} {k : Int} {q : LR} (h : l.find? (fun q => decide (q.k = k)) = some q) (nd : (l.map (·.k)).Nodup) : stored (lrKvs l) k (.ref q.il) = lrKvs l := by
  refine hideG fun GG hGG => ?_
  obtain ⟨A, B, rfl, rfl, hA, hB⟩ := lr_split nd h
  refine hGG ?_; clear hGG GG
  exact (lrKvs_swap (q' := q) rfl hA hB).symm
variable {prog : Program} {w : World} {p : Program} {loose : List Str} {mean : ExcName → Option Value} {mg mb : Str → Option Value}
variable {dp un : Nat} {gd : Option (List Code)} {cn : Str} {fa : Addr} {A₀ : Around} {base g : Heap} {L : Addr} {m : Str → Option Value} {s : Shared} {Q : Flow → Shared → Prop} {E : Value → Shared → Prop}
theorem s_every {RC : Addr} {r : RecSt} {b c : Int} {tb tc : Tok} {oS : Obj} {own ws : List (Addr × Obj)} (B' : Below A₀ base [] g) (X' : (hd.heap_1 w.params).In g) (T' : Top p loose mean mg mb g) (hdp : dp + 30 < 1000) (hu : un + 800 < 9000)
    (F : Fr g L s.heap m) (hm : m (Str.ofString "record") = some (.ref RC)) (hw : m (Str.ofString "word") = some (.int c tc)) (mS : (L + 1, oS) ∈ own) (dS : oS.data = .cell (some (.int b tb))) (h0 : 0 ≤ c) (h9 : c < 9) (hev : ∀ ns, r.every c = some ns → ns.length < 50) (N : News g L s.heap (own ++ ws)) (O : Own (Rec prog w RC r) ws) (off : ∀ p ∈ own, p.1 ∉ ws.map (·.1))
    (hk : ∀ u h' tk' ws', Fr g L h' (fun y => if y = Str.ofString "own" then u else m y) → News g L h' (own ++ ws') → Own (Rec prog w RC { r with every := setAt r.every c (some (addA ((r.every c).getD []) b)) }) ws' → (∀ p ∈ own, p.1 ∉ ws'.map (·.1)) → Q .next { s with heap := h', toks := tk' }) :
    wpAny (model prog w) (ktrTop dp un gd cn lawScope L fa (.ref 465) (lawCl L) []) (execs (way3.drop 2) (envX cn lawScope L fa (.ref 465) (lawCl L))) Q E s := by
  refine hideG fun GG hGG => ?_
  suffices kk : ∀ sc, lawScope = sc → GG by exact kk _ rfl
  intro sc hsc
  refine hGG ?_; clear hGG GG
  refine hideG fun GG hGG => ?_
  suffices kk : ∀ st, way3.drop 2 = st → GG by exact kk _ rfl
  intro st hst
  refine hGG ?_; clear hGG GG
  rw [hsc, hst]
  conv at hsc => lhs; whnf
  conv at hst => lhs; whnf
  subst hsc hst
  refine hideG fun GG hGG => ?_
  obtain ⟨⟨dD, dO, dA, dK, dE, dR, lO, lT, oRC, oD, oO, oA, oK, oE, oR, kD, kO, kA, kK, cO, cT, tm, von, EL, WL, TT⟩, rfl, l⟩ := own_rec O (fun p hp => (N p (List.mem_append_right _ hp)).1)
  obtain ⟨nd, dRC, lRC, lD, lO', lA, lK, lE, lR, iD, iO, iA, iK, iE, iR, xD, xO, xA, xK, kE, kR, fE, fR, vE, vR, ivon, tt⟩ := id l
  refine rec9e nd off fun _ _ _ _ _ _ _ _ _ _ _ _ _ _ _ _ _ _ _ _ _ _ _ _ _ _ _ _ _ _ _ _ _ _ _ _ rRC rD rO rA rK rE rR rlO rlT => ?_
  dsimp only [RecP.rest] at *
  have kD9 := xD.1
  have kO9 := xO.1
  have kA9 := xA.1
  have kK9 := xK.1
  suffices kk : ∀ rest, (EL.map LR.obj ++ (WL.map LR.obj ++ TT)) ++ own = rest → GG by exact kk _ rfl
  intro rest hrest
  refine hGG ?_; clear hGG GG
  rw [hrest] at rRC rD rO rA rK rE rR rlO rlT
  have mS' : (L + 1, oS) ∈ rest := by rw [← hrest]; exact List.mem_append_right _ mS
  have NN : News g L s.heap ((RC, oRC) :: (dD, oD) :: (dO, oO) :: (dA, oA) :: (dK, oK) :: (dE, oE) :: (dR, oR) :: (lO, listOf von.toArray cO) :: (lT, listOf (refs TT).toArray cT) :: rest) := fun p hp => N p (by
    rw [← hrest] at hp
    exact mem_swap hp)
  clear N
  have ndE := keys_lr iE
  cases ee : EL.find? (fun q => decide (q.k = c)) with
  | none =>
    have hve := lr_none ee
    have hek : r.every c = none := by rw [fE]; unfold lrF; rw [ee]; rfl
    repeat' (first | (k_unfold; (try dsimp only)) | walk1 | (dsimp only; walk1) | fail "no step")
    · exfalso
      (with_reducible rename List.any _ _ = true => ea)
      simp at ea
    · rw [show addA ((r.every c).getD []) b = [b] ++ [] by rw [hek]; rfl] at hk
      (with_reducible rename News _ _ _ _ => NF)
      (with_reducible rename Fr _ _ _ _ => FF)
      (with_reducible rename IntsAre _ ([b] ++ _) => iv9)
      (with_reducible rename Obj.IsDictOf _ _ (stored _ _ _) => d9)
      (with_reducible rename _ ∧ _ ∧ _ ∧ _ ∧ _ ∧ _ ∧ _ ∧ _ ∧ _ ∧ _ ∧ _ ∧ AllLt _ _ => ltD)
      refine hideG fun GG hGG => ?_
      suffices kk : ∀ D9 vs9 oE9, IntsAre vs9 ([b] ++ []) → (@LT.lt Nat _ RC D9 ∧ @LT.lt Nat _ dD D9 ∧ @LT.lt Nat _ dO D9 ∧ @LT.lt Nat _ dA D9 ∧ @LT.lt Nat _ dK D9 ∧ @LT.lt Nat _ dE D9 ∧ @LT.lt Nat _ dR D9 ∧ @LT.lt Nat _ lO D9 ∧ @LT.lt Nat _ lT D9 ∧ AllLt D9 rest) → Obj.IsDictOf (PySem.intKind prog w) oE9 (stored (lrKvs EL) c (.ref D9)) → News g L _ ((D9, listOf vs9.toArray 0) :: (RC, oRC) :: (dD, oD) :: (dO, oO) :: (dA, oA) :: (dK, oK) :: (dE, oE9) :: (dR, oR) :: (lO, listOf von.toArray cO) :: (lT, listOf (refs TT).toArray cT) :: rest) → GG by exact kk _ _ _ iv9 ltD.2.2 d9 (fun p hp => NF p (by refine subOf ?_ hp; lcg_off))
      intro D9 vs9 oE9 iv9 ltD d9 NF
      refine hGG ?_; clear hGG GG
      refine hideG fun GG hGG => ?_
      obtain ⟨g1, g2, g3, g4, g5, g6, g7, g8, g9, g10⟩ := ltD
      refine hGG ?_; clear hGG GG
      have hrD := allLt_mem g10
      have hnew : ∀ p ∈ RecP.objs RC ⟨dD, dO, dA, dK, dE, dR, lO, lT, oRC, oD, oO, oA, oK, oE, oR, kD, kO, kA, kK, cO, cT, tm, von, EL, WL, TT⟩, p.1 ≠ D9 := List.forall_mem_cons.mpr ⟨Nat.ne_of_lt g1, List.forall_mem_cons.mpr ⟨Nat.ne_of_lt g2, List.forall_mem_cons.mpr ⟨Nat.ne_of_lt g3, List.forall_mem_cons.mpr ⟨Nat.ne_of_lt g4, List.forall_mem_cons.mpr ⟨Nat.ne_of_lt g5, List.forall_mem_cons.mpr ⟨Nat.ne_of_lt g6, List.forall_mem_cons.mpr ⟨Nat.ne_of_lt g7, List.forall_mem_cons.mpr ⟨Nat.ne_of_lt g8, List.forall_mem_cons.mpr ⟨Nat.ne_of_lt g9, fun p h => hrD p (by rw [← hrest]; exact List.mem_append_left _ h)⟩⟩⟩⟩⟩⟩⟩⟩⟩
      exact hk _ _ _ _ FF (fun p hp => NF p (by
        rw [← hrest]
        (try simp only [RecP.objs, RecP.rest, List.map_append, List.map_cons, List.map_nil, LR.obj, List.cons_append, List.nil_append] at hp)
        (try simp only [List.map_append, List.map_cons, List.map_nil, LR.obj])
        refine subOf ?_ hp; lcg_off)) (rec_own (l.everyNew (n := 0) ee d9 iv9 h0 h9 hnew)) (off_objs off (D := D9) (fun p hp => hrD p (by rw [← hrest]; exact List.mem_append_right _ hp)) rfl (by simp only [RecP.rest, List.map_append, List.map_cons, List.map_nil, LR.obj]; lcg_off))
  | some qe =>
    have hve := lr_some ee
    have hek : r.every c = some qe.ns := by rw [fE]; unfold lrF; rw [ee]; rfl
    have me : (qe.il, listOf qe.vs.toArray qe.c) ∈ rest := by rw [← hrest]; exact List.mem_append_left _ (List.mem_append_left _ (List.mem_map.mpr ⟨qe, List.mem_of_find?_eq_some ee, rfl⟩))
    have ive := vE qe (List.mem_of_find?_eq_some ee)
    have hle := hev _ hek
    repeat' (first | (k_unfold; (try dsimp only)) | walk1 | (dsimp only; walk1) | fail "no step")
    · (with_reducible rename List.any _ _ = true => ea)
      (with_reducible rename News _ _ _ _ => NF)
      (with_reducible rename Fr _ _ _ _ => FF)
      (with_reducible rename Obj.IsDictOf _ _ (stored _ _ _) => d9)
      rw [lr_same ee ndE] at d9
      rw [show setAt r.every c (some (addA ((r.every c).getD []) b)) = r.every by
        rw [hek]
        simp only [Option.getD_some, addA]
        rw [if_pos ea]
        funext j
        unfold setAt
        split
        · rename_i e; rw [e, hek]
        · rfl] at hk
      refine hideG fun GG hGG => ?_
      suffices kk : ∀ oE9, Obj.IsDictOf (PySem.intKind prog w) oE9 (lrKvs EL) → News g L _ ((RC, oRC) :: (dD, oD) :: (dO, oO) :: (dA, oA) :: (dK, oK) :: (dE, oE9) :: (dR, oR) :: (lO, listOf von.toArray cO) :: (lT, listOf (refs TT).toArray cT) :: rest) → GG by exact kk _ d9 (fun p hp => NF p (.tail _ hp))
      intro oE9 d9 NF
      refine hGG ?_; clear hGG GG
      exact hk _ _ _ _ FF (fun p hp => NF p (by
        rw [← hrest]
        exact mem_swap hp)) (rec_own (l.everyObj d9)) (same_fst rfl off)
    · (with_reducible rename List.any _ _ = false => ea)
      rw [show addA ((r.every c).getD []) b = [b] ++ qe.ns by rw [hek]; simp only [Option.getD_some, addA]; rw [if_neg (by rw [ea]; exact Bool.false_ne_true)]; rfl] at hk
      refine hideG fun GG hGG => ?_
      obtain ⟨EA, EB, rfl, hqk, hA, hB⟩ := lr_split ndE ee
      refine hGG ?_; clear hGG GG
      subst hqk
      (with_reducible rename News _ _ _ _ => NF)
      (with_reducible rename Fr _ _ _ _ => FF)
      (with_reducible rename IntsAre _ ([b] ++ _) => iv9)
      (with_reducible rename Obj.IsDictOf _ _ (stored _ _ _) => d9)
      (with_reducible rename _ ∧ _ ∧ _ ∧ _ ∧ _ ∧ _ ∧ _ ∧ _ ∧ _ ∧ _ ∧ _ ∧ AllLt _ _ => ltD)
      refine hideG fun GG hGG => ?_
      suffices kk : ∀ D9 vs9 oE9, IntsAre vs9 ([b] ++ qe.ns) → (@LT.lt Nat _ RC D9 ∧ @LT.lt Nat _ dD D9 ∧ @LT.lt Nat _ dO D9 ∧ @LT.lt Nat _ dA D9 ∧ @LT.lt Nat _ dK D9 ∧ @LT.lt Nat _ dE D9 ∧ @LT.lt Nat _ dR D9 ∧ @LT.lt Nat _ lO D9 ∧ @LT.lt Nat _ lT D9 ∧ AllLt D9 rest) → Obj.IsDictOf (PySem.intKind prog w) oE9 (stored (lrKvs (EA ++ qe :: EB)) qe.k (.ref D9)) → News g L _ ((D9, listOf vs9.toArray 0) :: (RC, oRC) :: (dD, oD) :: (dO, oO) :: (dA, oA) :: (dK, oK) :: (dE, oE9) :: (dR, oR) :: (lO, listOf von.toArray cO) :: (lT, listOf (refs TT).toArray cT) :: rest) → GG by exact kk _ _ _ iv9 ltD.2.2 d9 (fun p hp => NF p (by refine subOf ?_ hp; lcg_off))
      intro D9 vs9 oE9 iv9 ltD d9 NF
      refine hGG ?_; clear hGG GG
      refine hideG fun GG hGG => ?_
      obtain ⟨g1, g2, g3, g4, g5, g6, g7, g8, g9, g10⟩ := ltD
      refine hGG ?_; clear hGG GG
      have hrD := allLt_mem g10
      have hnew : ∀ p ∈ RecP.objs RC ⟨dD, dO, dA, dK, dE, dR, lO, lT, oRC, oD, oO, oA, oK, oE, oR, kD, kO, kA, kK, cO, cT, tm, von, (EA ++ qe :: EB), WL, TT⟩, p.1 ≠ D9 := List.forall_mem_cons.mpr ⟨Nat.ne_of_lt g1, List.forall_mem_cons.mpr ⟨Nat.ne_of_lt g2, List.forall_mem_cons.mpr ⟨Nat.ne_of_lt g3, List.forall_mem_cons.mpr ⟨Nat.ne_of_lt g4, List.forall_mem_cons.mpr ⟨Nat.ne_of_lt g5, List.forall_mem_cons.mpr ⟨Nat.ne_of_lt g6, List.forall_mem_cons.mpr ⟨Nat.ne_of_lt g7, List.forall_mem_cons.mpr ⟨Nat.ne_of_lt g8, List.forall_mem_cons.mpr ⟨Nat.ne_of_lt g9, fun p h => hrD p (by rw [← hrest]; exact List.mem_append_left _ h)⟩⟩⟩⟩⟩⟩⟩⟩⟩
      exact hk _ _ _ _ FF (fun p hp => NF p (by
        rw [← hrest]
        (try simp only [RecP.objs, RecP.rest, List.map_append, List.map_cons, List.map_nil, LR.obj, List.cons_append, List.nil_append] at hp)
        (try simp only [List.map_append, List.map_cons, List.map_nil, LR.obj])
        refine subOf ?_ hp; lcg_off)) (rec_own (l.everySwap (n := 0) rfl hA hB d9 iv9 hnew)) (off_objs off (D := D9) (fun p hp => hrD p (by rw [← hrest]; exact List.mem_append_right _ hp)) rfl (by simp only [RecP.rest, List.map_append, List.map_cons, List.map_nil, LR.obj]; lcg_off))
end
section
section
theorem wtLaw3a : True := by
  w_top off
  trivial
theorem and_good {C : Comp} {P : Prop} (gC : Good C) : Good (fun fp h => C fp h ∧ P) where
  nodup := fun ⟨c, _⟩ => gC.nodup c
  alive := fun ⟨c, _⟩ => gC.alive c
  keeps := fun ⟨c, x⟩ k => ⟨gC.keeps c k, x⟩
theorem drawD_lt {ns : List Int} {k : Int} (h : 0 < k) : 0 ≤ drawD ns k ∧ drawD ns k < k := by
  unfold drawD
  cases ns with
  | nil => exact ⟨Int.le_refl _, h⟩
  | cons x r => exact ⟨Int.emod_nonneg _ (by omega), Int.emod_lt_of_pos _ h⟩
/-- the program's side with the table and the modes' state -/
abbrev XC (prog : Program) (w : World) (q : LS) (TB SS : Addr) (r : RecSt) : Comp := Star (TableC prog w TB 4) (Star (ModeS SS r.mode r.on) (PW prog w q r))
theorem xc_good {prog : Program} {w : World} {q : LS} {TB SS : Addr} {r : RecSt} : Good (XC prog w q TB SS r) := Star.good table_good (Star.good modeS_good pw_good)
theorem own_and {C : Comp} {P : Prop} {ws : List (Addr × Obj)} {h : Heap} (O : Own (fun fp h => C fp h ∧ P) ws) (hh : Holds h ws) : Own C ws ∧ P := ⟨fun h' k => (O h' k).1, (O h hh).2⟩
theorem xc_vars {G9 : Prop} {prog : Program} {w : World} {q : LS} {TB SS : Addr} {r : RecSt} {ws : List (Addr × Obj)} {h : Heap} (O : Own (XC prog w q TB SS r) ws) (hh : Holds h ws) (k9 : ∀ Vd df au pe Hd va k1 k2 k3 t1 t2 t3 n k4 t4 n2, (q.V, instObj 344 Vd) ∈ ws → (Vd, dictOf [⟨k1, .str "defaults" t1, .ref df⟩, ⟨k2, .str "automatic" t2, .ref au⟩, ⟨k3, .str "permanent" t3, .ref pe⟩] n) ∈ ws → (q.H, instObj 398 Hd) ∈ ws → (Hd, dictOf [⟨k4, .str "values" t4, .ref va⟩] n2) ∈ ws → G9) : G9 := by
  obtain ⟨w1, w2, rfl, O1, O2, _⟩ := own_star table_good (Star.good modeS_good pw_good) hh O
  obtain ⟨w3, w4, rfl, O3, O4, _⟩ := own_star modeS_good pw_good (fun p hp => hh p (List.mem_append_right _ hp)) O2
  have up : ∀ p ∈ w4, p ∈ w1 ++ (w3 ++ w4) := fun p hp => List.mem_append_right _ (List.mem_append_right _ hp)
  exact pw_vars O4 (fun p hp => hh p (List.mem_append_right _ (List.mem_append_right _ hp))) fun Vd df au pe Hd va k1 k2 k3 t1 t2 t3 n k4 t4 n2 a b c d => k9 Vd df au pe Hd va k1 k2 k3 t1 t2 t3 n k4 t4 n2 (up _ a) (up _ b) (up _ c) (up _ d)
section
variable {prog : Program} {w : World} {p : Program} {loose : List Str} {mean : ExcName → Option Value} {mg mb : Str → Option Value}
theorem make_permanent_x {q : LS} {TB SS : Addr} {r : RecSt} {k : Int} {t : Tok} (h0 : 0 ≤ k) (h9 : k < 9) : SpecS prog w p loose mean mg mb [] 4 327 [.ref q.V, .int k t, .bool true] (XC prog w q TB SS r) (fun _ => XC prog w q TB SS { r with x := r.x.makeKept k }) :=
  Spec.toS (Spec.lift (C' := fun _ => Vars prog w q.V q.H (r.x.makeKept k)) (make_permanent_s h0 h9) (Ctxt.right (Ctxt.right (Ctxt.left (Ctxt.right Ctxt.here told_good) hh_good) modeS_good) table_good))
theorem make_automatic_x {q : LS} {TB SS : Addr} {r : RecSt} {k i : Int} {t ti : Tok} (h0 : 0 ≤ k) (h9 : k < 9) : SpecS prog w p loose mean mg mb [] 4 320 [.ref q.V, .int k t, .int i ti] (XC prog w q TB SS r) (fun _ => XC prog w q TB SS { r with x := r.x.makeAuto k i }) :=
  Spec.toS (Spec.lift (C' := fun _ => Vars prog w q.V q.H (r.x.makeAuto k i)) (make_automatic_s h0 h9) (Ctxt.right (Ctxt.right (Ctxt.left (Ctxt.right Ctxt.here told_good) hh_good) modeS_good) table_good))
theorem set_in_x {q : LS} {TB SS : Addr} {r : RecSt} {k i : Int} {t ti : Tok} (h0 : 0 ≤ k) (h9 : k < 9) : SpecS prog w p loose mean mg mb [] 4 416 [.ref q.V, .ref q.H, .int k t, .int i ti] (XC prog w q TB SS r) (fun _ => XC prog w q TB SS { r with x := r.x.put k i }) :=
  Spec.toS (Spec.lift (C' := fun _ => Vars prog w q.V q.H (r.x.put k i)) (set_in_s h0 h9) (Ctxt.right (Ctxt.right (Ctxt.left (Ctxt.right Ctxt.here told_good) hh_good) modeS_good) table_good))
theorem add_hook_x {q : LS} {TB SS : Addr} {r : RecSt} {k i : Int} {t ti t0 : Tok} (h0 : 0 ≤ k) (h9 : k < 9) (hsz : ∀ ns, r.every k = some ns → ns.length < 60) : SpecS prog w p loose mean mg mb [] 6 259 [.ref q.HK, .int k t, .int i ti, .int 0 t0] (XC prog w q TB SS r) (fun _ => XC prog w q TB SS { r with every := setAt r.every k (some (addA ((r.every k).getD []) i)) }) :=
  Spec.toS (Spec.lift (C' := fun _ => Hook prog w q.HK (setAt r.every k (some (addA ((r.every k).getD []) i)))) (add_hook_s h0 h9 hsz) (Ctxt.right (Ctxt.right (Ctxt.right (Ctxt.left Ctxt.here hook_good) pt_good) modeS_good) table_good))
theorem draw_d {DK : Addr} {ns : List Int} {k : Int} {t : Tok} (hm : 0 < k) (hz : ns.length < 100) : SpecS prog w p loose mean mg mb [] 4 423 [.ref DK, .int k t] (Deck DK ns) (fun v fp h => Deck DK ns.tail fp h ∧ ∃ t', v = .int (drawD ns k) t') := Spec.toS (law_draw_s hm hz)
end
/-- the names of the law's frame that stay -/
structure Keep (q : LS) (DK RC TB SS : Addr) (m : Str → Option Value) : Prop where
  deck : m (Str.ofString "deck") = some (.ref DK)
  record : m (Str.ofString "record") = some (.ref RC)
  table : m (Str.ofString "table") = some (.ref TB)
  state : m (Str.ofString "state") = some (.ref SS)
  doer : m (Str.ofString "do") = some (.ref q.fD)
structure Cells (q : LS) (L : Addr) : Prop where
  var : q.cVar = L + 8
  told : q.cTold = L + 7
  rows : q.cRows = L + 6
  hooks : q.cHooks = L + 5
  hooked : q.cHooked = L + 4
  here : q.cHere = L + 3
  called : q.cCalled = L + 2
structure LawP (prog : Program) (w : World) (q : LS) (DK RC TB SS L : Addr) (fx : List (Addr × Obj)) (ke ko kt : Nat) (oS : Obj) (v0 : Option Value) (D R X : List (Addr × Obj)) (ns : List Int) (r : RecSt) : Prop where
  cell : oS.data = .cell v0
  oD : Own (Deck DK ns) D
  oR : Own (Rec prog w RC r) R
  oX : Own (XC prog w q TB SS r) X
  sep : Sep ((L + 1, oS) :: fx) D R X
  len : ns.length < 60
  rows : RowsOk r.rows
  every : ∀ w ns, r.every w = some ns → ns.length ≤ ke
  on : r.on.length ≤ ko
  told : r.told.length ≤ kt
/-- what the law's loops keep -/
def LawI (prog : Program) (w : World) (q : LS) (DK RC TB SS L : Addr) (fx : List (Addr × Obj)) (ke ko kt : Nat) (m : Str → Option Value) (nw : List (Addr × Obj)) : Prop :=
  ∃ oS v0 D R X ns r, Keep q DK RC TB SS m ∧ nw = ((L + 1, oS) :: fx) ++ (D ++ (R ++ X)) ∧ LawP prog w q DK RC TB SS L fx ke ko kt oS v0 D R X ns r
theorem LawI.mk {prog : Program} {w : World} {q : LS} {DK RC TB SS L : Addr} {fx : List (Addr × Obj)} {ke ko kt : Nat} {m : Str → Option Value} {oS : Obj} {v0 : Option Value} {D R X : List (Addr × Obj)} {ns : List Int} {r : RecSt} (kp : Keep q DK RC TB SS m) (l : LawP prog w q DK RC TB SS L fx ke ko kt oS v0 D R X ns r) : LawI prog w q DK RC TB SS L fx ke ko kt m (((L + 1, oS) :: fx) ++ (D ++ (R ++ X))) := ⟨oS, v0, D, R, X, ns, r, kp, rfl, l⟩
theorem addA_len {ns : List Int} {i : Int} {n : Nat} (h : ns.length ≤ n) : (addA ns i).length ≤ n + 1 := by
  unfold addA
  split
  · omega
  · simp; omega
theorem every_put {f : Int → Option (List Int)} {n : Nat} {k i : Int} (h : ∀ w ns, f w = some ns → ns.length ≤ n) : ∀ w ns, setAt f k (some (addA ((f k).getD []) i)) w = some ns → ns.length ≤ n + 1 := by
  intro w ns e
  unfold setAt at e
  split at e
  · cases e
    refine addA_len ?_
    cases hf : f k with
    | none => simp
    | some z => exact h k z hf
  · have := h w ns e
    omega
end
end
section
theorem wtLaw3 : True := by
  w_top off
  trivial
theorem kwLaw31 : True := by
  k_with_none
  k_with "W1" => ((fail_if_success (with_reducible show wpAny _ _ (PySem.call (Value.ref _) _ _) _ _ _)); (fail_if_success (with_reducible show wpAny _ _ (pyIter _) _ _ _)); (fail_if_success (with_reducible show wpAny _ _ (PySem.exec (Stmt.For _ _ _ _ _) _) _ _ _)); first | (k_unfold; (try dsimp only)) | walk1 | (dsimp only; walk1) | fail "no step")
  k_with "k_enter" => (first | (refine' code_def (by k_asm) (by k_asm) (by k_asm) (by k_asm) (by k_asm) rfl rfl (by first | exact rfl | assumption) (by k_is) (by k_is) (by k_room) (by first | exact BindsTo.of_eq rfl | exact binds_K (by k_in) rfl (by k_is) rfl rfl rfl) (by exact locs rfl) ?_ (by exact rfl) (by exact rfl) (by exact rfl) (by decide); k_whole; intro _ _ _ _ _ _ Bz9 _ _; (try dsimp only); (try k_lift Bz9); (try k_fold)) | (refine' code_defC (by k_asm) (by k_asm) (by k_asm) (by k_asm) (by k_asm) rfl rfl (by first | exact rfl | assumption) (by k_is) (by k_is) (by k_room) (by first | exact BindsTo.of_eq rfl | exact binds_K (by k_in) rfl (by k_is) rfl rfl rfl) (by exact rfl) (by decide +kernel) ?_ (by exact rfl) (by exact rfl) (by exact rfl); k_whole; intro _ _ _ _ _ _ _ Nz9 Yz9 Bz9 _ _ lz9; (try k_lt lz9); k_cells Yz9; (try simp only [List.cons_append, List.nil_append] at Nz9); (try dsimp only); (try k_lift Bz9); (try k_fold)) | fail)
  k_with "execs cons" => (k_fold; (first | show wpAny _ AB (PySem.execs _ eB) _ _ _ | (show (let eB := _; let AB := _; wpAny _ AB (PySem.execs _ eB) _ _ _); intro eB AB)); refine wpAny_execs_cons ?_)
  k_with "omega" => first | exact Nat.le_of_ble_eq_true rfl | with_reducible assumption | exact Mine.o1 (by with_reducible assumption) (by exact rfl) | exact Mine.o3 (by with_reducible assumption) (by exact rfl) | exact Mine.o2 (by with_reducible assumption) (by exact rfl) | exact Mine.o4 (by with_reducible assumption) (by exact rfl) | exact Mine.o5 (by with_reducible assumption) (by exact rfl) | exact Mine.o6 (by with_reducible assumption) (by exact rfl) | exact Mine.o7 (by with_reducible assumption) (by exact rfl) | exact Mine.o8 (by with_reducible assumption) (by exact rfl) | exact Mine.o9 (by with_reducible assumption) (by exact rfl) | exact Mine.o10 (by with_reducible assumption) (by exact rfl) | exact Mine.o11 (by with_reducible assumption) (by exact rfl) | exact Mine.o12 (by with_reducible assumption) (by exact rfl) | exact Mine.o13 (by with_reducible assumption) (by exact rfl) | exact Nat.ne_of_lt (by with_reducible assumption) | exact Nat.ne_of_gt (by with_reducible assumption) | exact Nat.le_of_lt (by with_reducible assumption) | fail
  k_with "tlg_ne" => first | exact List.Mem.head _ | (apply List.Mem.tail; tlg_ne) | (apply List.mem_append_left; tlg_ne) | (apply List.mem_append_right; tlg_ne)
  k_with "lcg_off" => first | exact List.Subset.refl _ | exact List.nil_subset _ | (refine List.Sublist.subset ?_; (repeat first | exact List.Sublist.refl _ | apply List.Sublist.cons_cons | apply List.Sublist.cons); done) | (refine Mine.subC ?_ ?_; (focus tlg_ne); lcg_off) | (refine Mine.subA ?_ ?_ <;> lcg_off) | (apply List.subset_cons_of_subset; lcg_off) | (apply List.subset_append_of_subset_left; lcg_off) | (apply List.subset_append_of_subset_right; lcg_off)
  trivial
theorem small_seven {n : Int} (h0 : 0 ≤ n) (h9 : n < 7) : Builtin.Range.small 0 n 1 = true := by
  exact int_nat (P := fun n => Builtin.Range.small 0 n 1 = true) 7 h0 h9 (by decide +kernel)
theorem size_seven {n : Int} (h0 : 0 ≤ n) : Builtin.Range.rangeSize 0 n 1 = (n.toNat : Int) := by
  rw [Int.toNat_of_nonneg h0]
  unfold Builtin.Range.rangeSize
  split
  · split <;> omega
  · omega
set_option maxHeartbeats 4000000
theorem kwLaw32 : True := by
  k_with "k_room" => ((try simp only [depth_mark, depth_under_make, depth_under_kw, depth_in1, depth_deeper]); first | assumption | (show _ < 1000; (try dsimp only); omega))
  k_with "k_ne" => ((refine neN ?_); (try dsimp only); first | assumption | exact Ne.symm (by assumption))
  k_with "compareOp In int ref" => (k_here; k_dflt (first | (refine' in_C (by k_asm) (by k_mem) (by k_asm) (by k_asm) (by k_asm) ?_) | (refine' in_I (by k_asm) (by k_mem) (by k_asm) (by k_asm) (by k_asm) ?_) | (refine' in_B (by k_asm) (by k_mem) (by k_asm) (by k_asm) (by k_asm) ?_)))
  k_with "compareOp NotIn int ref" => (k_here; k_dflt ( (refine' notin_C (by k_asm) (by k_mem) (by k_asm) (by k_asm) (by k_asm) ?_)))
  k_with "call builtin:dict.get" => (k_here; k_dflt (first | (refine' get_I (by k_asm) (by k_mem) (by k_asm) (by k_asm) (by k_asm) ?_; refine ⟨fun _ _ _ => ?_, fun _ => ?_⟩) | (refine' get_B (by k_asm) (by k_mem) (by k_asm) (by k_asm) (by k_asm) ?_; (try simp only [Bool.or_false]))))
  k_with "getMethod ref" => (k_here; (with_reducible show wpAny _ _ (getMethod (Value.ref _) (Str.ofString "get") _) _ _ _); k_dflt (refine' kdg_method (knd := PySem.intKind _ _) (by k_asm) (by k_mem) (by k_asm) ?_))
  k_with "subscriptTail" => (k_here; (with_reducible show wpAny _ _ (subscriptTail _ _ (Value.ref _) (Value.int _ _)) _ _ _); k_dflt (refine' item_C (by k_asm) (by k_mem) (by k_asm) (by k_asm) (by k_asm) ?_ (by with_unfolding_all rfl); intro _ _ _ _))
  k_with "setItem ref int" => (k_here; k_dflt (refine' kda_set (knd := PySem.intKind _ _) (by k_asm) (by k_asm) (by k_updF) (by k_asm) (intKind_is _ _ _ _) (by exact KOK.line (by k_asm) (by k_asm)) ?_; intro hz9 oz9 Fz9 Nz9 hdz9; (try dsimp only at Nz9); (try k_sweep); revert hz9 oz9 Fz9 Nz9 hdz9; intro _ _ _ _ _))
  trivial
variable {prog : Program} {w : World} {p : Program} {loose : List Str} {mean : ExcName → Option Value} {mg mb : Str → Option Value}
theorem kwLaw33 : True := by
  k_with "eval ListComp" => (k_here; k_dflt (refine LCt.ListComp_T (F₀ := by k_asm) (by with_unfolding_all rfl) (by decide) (by rfl) (by decide) (by rfl) ?_))
  k_with "CompSrcT" => (k_here; k_dflt (first | (refine' LCt.CompSrcT.ledger rfl (by k_asm) (by k_asm) (by k_mem) (by k_asm) ?_) | (refine' LCt.CompSrcT.base rfl (by k_asm) (by k_asm) (by k_asm) (by k_asm) ?_)); intro _; k_dflt (refine' flt_rest (by k_asm) (by k_asm) (by first | exact .inl (by k_asm) | exact .inr ⟨_, by k_mem, rfl, _, rfl⟩) rfl rfl (by decide) (fun _ _ _ _ _ _ _ _ _ _ _ _ _ _ _ _ _ _ _ => ?_) (fun _ _ => ?_)); (all_goals (try (simp only [LCg.Off3, and_true] at off'))))
  k_with "FltT" => (k_here; k_dflt (refine' flt_t (by k_asm) (by k_asm) (by intro pz9 hpz9; first | exact hpz9 | exact .tail _ hpz9 | exact .tail _ (.tail _ hpz9) | exact .tail _ (.tail _ (.tail _ hpz9))) ?_); (try rfl))
  k_with "call type:list" => (k_here; k_dflt (refine' list_D rfl (by k_asm) (by k_asm) (by k_mem) (by k_asm) (by k_asm) (by k_asm) ?_); intro Bz9 cz9 hz9 tkz9 vsz9 Fz9 Nz9 l1z9 hiz9 h64z9 hszz9; (try k_lt l1z9); (try k_sweep); revert Bz9 cz9 hz9 tkz9 vsz9 Fz9 Nz9 l1z9 hiz9 h64z9 hszz9; intro _ _ _ _ _ _ _ _ _ _ _)
  k_with "call builtin:sorted" => (k_here; k_dflt (refine' sorted_L (by k_asm) (by k_asm) (by k_mem) (by k_asm) (by k_asm) ?_); intro Bz9 vsz9 nsz9 cz9 hz9 Fz9 Nz9 l1z9 hiz9 hpmz9 h64z9 hszz9; (try k_lt l1z9); (try k_sweep); revert Bz9 vsz9 nsz9 cz9 hz9 Fz9 Nz9 l1z9 hiz9 hpmz9 h64z9 hszz9; intro _ _ _ _ _ _ _ _ _ _ _ _)
  k_with "call builtin:dict.pop" => (k_here; k_dflt (refine' pop_C (by k_asm) (by k_asm) (by k_updF) (by k_asm) (by k_asm) (by k_asm) ?_); intro hz9 oz9 vz9 Fz9 Nz9 hdz9; (try dsimp only at Nz9); (try k_sweep); revert hz9 oz9 vz9 Fz9 Nz9 hdz9; intro _ _ _ _ _ _)
  k_with "getMethod ref" => (k_here; (with_reducible show wpAny _ _ (getMethod (Value.ref _) (Str.ofString "pop") _) _ _ _); k_dflt (refine' popm_D (by k_asm) (by k_mem) (by k_asm) ?_))
  k_with "eval Name" => (k_here; k_dflt (refine' nameX_L (by k_asm) (by first | exact rfl | assumption) ?_ (by rfl) (by rfl); k_whole))
  k_with "k_ne" => ((refine neN ?_); (try dsimp only); first | assumption | exact Ne.symm (by assumption) | omega)
  k_with "k_units" => (first | exact Nat.le_of_ble_eq_true rfl | (simp only [ktrTop, units_deeper, units_in1, cLine_is]; omega) | ((try dsimp only [ktrTop, Around.deeper, Around.in1, Around.under]); rw [cLine_is]; omega))
  k_with "compareOp In int ref" => (k_here; k_dflt (first | (refine' in_list_ints (by first | exact led_list (by k_asm) (by k_mem) | exact base_list (by k_asm) (by k_asm)) (by first | k_asm | exact .cons _ _ .nil | exact .nil) ?_; k_whole) | (refine' in_E (by k_asm) (by k_asm) (by k_asm) (by k_asm) ?_)))
  k_with "compareOp NotEq ref ref" => (k_here; k_dflt (refine' ne_E (by k_asm) (by k_mem) (by k_mem) (by k_asm) (by k_asm) (by k_asm) (by k_asm) (by k_units) ?_))
  k_with "binaryOp Add ref ref" => (k_here; k_dflt (refine' add_L (by k_asm) (by k_asm) (by first | exact led_list (by k_asm) (by k_mem) | exact base_list (by k_asm) (by k_asm)) (by first | exact led_list (by k_asm) (by k_mem) | exact base_list (by k_asm) (by k_asm)) (by first | k_asm | exact .cons _ _ .nil | exact .nil) (by first | k_asm | exact .cons _ _ .nil | exact .nil) (by first | k_asm | (simp only [List.length_cons, List.length_nil, sizeLine_eq]; omega)) ?_); intro hz9 Dz9 Fz9 Nz9 l1z9 hiz9; (try k_lt l1z9); (try k_sweep); revert hz9 Dz9 Fz9 Nz9 l1z9 hiz9; intro _ _ _ _ _ _)
  k_with "call builtin:dict.get" => (k_here; k_dflt (first | (refine' get_V (by k_asm) (by k_mem) (by k_asm) (by k_asm) (by first | k_asm | exact vaSame _ _ _) ?_) | (refine' get_N (by k_asm) (by k_mem) (by k_asm) (by k_asm) (by k_asm) ?_)))
  k_with "call type:list" => (k_here; k_dflt (refine' copy_L (by k_asm) (by k_asm) (by k_mem) (by k_asm) ?_); intro Bz9 cz9 hz9 tkz9 Fz9 Nz9 l1z9; (try k_lt l1z9); (try k_sweep); revert Bz9 cz9 hz9 tkz9 Fz9 Nz9 l1z9; intro _ _ _ _ _ _ _)
  k_with "call builtin:list.extend" => (k_here; k_dflt (refine' ext_L (by k_asm) (by k_asm) (by k_updF) (by k_mem) (by first | k_asm | exact .cons _ _ .nil | exact .nil) (by first | k_asm | exact .cons _ _ .nil | exact .nil) (by first | k_asm | (simp only [List.length_cons, List.length_nil, sizeLine_eq]; omega)) ?_); intro hz9 nz9 Fz9 Nz9 hiz9; (try dsimp only at Nz9); (try k_sweep); revert hz9 nz9 Fz9 Nz9 hiz9; intro _ _ _ _ _)
  k_with "k_all" => with_reducible assumption
  k_with "subscriptTail" => (k_here; (with_reducible show wpAny _ _ (subscriptTail _ _ (Value.ref _) (Value.int _ _)) _ _ _); k_dflt (refine' item_V (by k_asm) (by k_mem) (by k_asm) (by k_asm) ?_ (by with_unfolding_all rfl)))
  k_with "compareOp Eq ref ref" => (k_here; k_dflt (refine' ke_eq_ints (by first | exact led_list (by k_asm) (by k_mem) | exact base_list (by k_asm) (by k_asm)) (by first | exact led_list (by k_asm) (by k_mem) | exact base_list (by k_asm) (by k_asm)) (by first | k_asm | exact .cons _ _ .nil | exact .nil) (by first | k_asm | exact .cons _ _ .nil | exact .nil) (by k_units) ?_))
  k_with "k_mem" => (with_reducible refine memOf ?_; with_reducible assumption)
  k_with "subscriptTail" => (k_here; (with_reducible show wpAny _ _ (subscriptTail _ _ (Value.ref _) (Value.str _ _)) _ _ _); k_dflt (refine' item_S (by k_asm) (by k_mem) (by k_asm) (by rfl) ?_ (by with_unfolding_all rfl)))
  trivial
variable {dp un : Nat} {gd : Option (List Code)} {cn : Str} {fa : Addr} {A₀ : Around} {base g : Heap} {L : Addr} {m : Str → Option Value} {s : Shared} {Q : Flow → Shared → Prop} {E : Value → Shared → Prop}
theorem law_lap1 {q : LS} {TB SS DK RC : Addr} {fx : List (Addr × Obj)} {nw : List (Addr × Obj)} (ok : q.Ok) (hq : Cells q L) (hfx : ∀ p ∈ q.st3, p ∈ fx) (B' : Below A₀ base [] g) (X' : (hd.heap_1 w.params).In g) (T' : Top p loose mean mg mb g) (hdp : dp + 30 < 1000) (hu : un + 800 < 9000)
    (F : Fr g L s.heap m) (N : News g L s.heap nw) (I : LawI prog w q DK RC TB SS L fx 0 0 0 m nw) (hfxL : ∀ p ∈ fx, p.1 ≠ L + 1)
    (hk : ∀ h' tk' m' nw', Fr g L h' m' → News g L h' nw' → LawI prog w q DK RC TB SS L fx 10 10 0 m' nw' → Q .next { s with heap := h', toks := tk' }) :
    wpAny (model prog w) (ktrTop dp un gd cn lawScope L fa (.ref 465) (lawCl L) []) (exec (stmtAt lawBody 8) (envX cn lawScope L fa (.ref 465) (lawCl L))) Q E s := by
  refine hideG fun GG hGG => ?_
  suffices kk : ∀ sc, lawScope = sc → GG by exact kk _ rfl
  intro sc hsc
  refine hGG ?_; clear hGG GG
  refine hideG fun GG hGG => ?_
  suffices kk : ∀ st, stmtAt lawBody 8 = st → GG by exact kk _ rfl
  intro st hst
  refine hGG ?_; clear hGG GG
  rw [hsc, hst]
  conv at hsc => lhs; whnf
  conv at hst => lhs; whnf
  subst hsc hst
  have hc8 : (L + 8, q.oVar) ∈ fx := by rw [← hq.var]; exact hfx _ (mI 10 rfl)
  have hc7 : (L + 7, q.oTold) ∈ fx := by rw [← hq.told]; exact hfx _ (mI 11 rfl)
  have hc6 : (L + 6, q.oRows) ∈ fx := by rw [← hq.rows]; exact hfx _ (mI 5 rfl)
  have hc5 : (L + 5, q.oHooks) ∈ fx := by rw [← hq.hooks]; exact hfx _ (mI 6 rfl)
  have hc3 : (L + 3, q.oHere) ∈ fx := by rw [← hq.here]; exact hfx _ (mI 12 rfl)
  have hd8 := ok.var
  have hd7 := ok.told
  have hd6 := ok.rows
  have hd5 := ok.hooks
  have hd3 := ok.here
  refine hideG fun GG hGG => ?_
  obtain ⟨oS, v0, D, R, X, ns, r, kp, rfl, lp⟩ := I
  obtain ⟨dS, oD, oR, oX, sp, hns, hrow, hev, hon, htold⟩ := lp
  obtain ⟨kp1, kp2, kp3, kp4, kp5⟩ := id kp
  refine hGG ?_; clear hGG GG
  refine wpAny_For ?_
  repeat' ((fail_if_success (with_reducible show wpAny _ _ (PySem.exec (Stmt.Assign [PySem.Expr.Subscript _ _ _] _ _) _) _ _ _)); (fail_if_success (with_reducible show wpAny _ _ (PySem.exec (Stmt.Assign [PySem.Expr.Attribute _ _ _] _ _) _) _ _ _)); (fail_if_success (with_reducible show wpAny _ _ (PySem.execs (Stmt.Assign [PySem.Expr.Name (Str.ofString "own") _] _ _ :: _) _) _ _ _)); (fail_if_success (with_reducible show wpAny _ _ (PySem.call (Value.ref _) _ _) _ _ _)); (fail_if_success (with_reducible show wpAny _ _ (pyIter _) _ _ _)); (fail_if_success (with_reducible show wpAny _ _ (PySem.exec (Stmt.For _ _ _ _ _) _) _ _ _)); first | (k_unfold; (try dsimp only)) | walk1 | (dsimp only; walk1) | fail "no step")
  change wpAny _ (ktrTop dp un gd cn _ L fa _ (lawCl L) []) _ _ _ _
  refine call_D (draw_d (prog := prog) (w := w) (p := p) (loose := loose) (mean := mean) (mg := mg) (mb := mb) (DK := DK) (ns := ns) (k := 7) (by decide) (by omega)) (fun v => and_good deck_good) B' X' T' rfl (by omega) (by omega) F N oD sp (fun q hq => nomatch hq) ?_
  intro v1 h1 tk1 D1 F1 N1 O1 sp1
  obtain ⟨oD1, t1, rfl⟩ := own_and O1 (fun p hp => (N1 p (List.mem_append_right _ (List.mem_append_left _ hp))).1)
  obtain ⟨b0, b7⟩ := drawD_lt (ns := ns) (k := 7) (by decide)
  generalize drawD ns 7 = n7 at b0 b7
  clear N F O1 sp
  dsimp only
  repeat' ((fail_if_success (with_reducible show wpAny _ _ (PySem.exec (Stmt.Assign [PySem.Expr.Subscript _ _ _] _ _) _) _ _ _)); (fail_if_success (with_reducible show wpAny _ _ (PySem.exec (Stmt.Assign [PySem.Expr.Attribute _ _ _] _ _) _) _ _ _)); (fail_if_success (with_reducible show wpAny _ _ (PySem.execs (Stmt.Assign [PySem.Expr.Name (Str.ofString "own") _] _ _ :: _) _) _ _ _)); (fail_if_success (with_reducible show wpAny _ _ (PySem.call (Value.ref _) _ _) _ _ _)); (fail_if_success (with_reducible show wpAny _ _ (pyIter _) _ _ _)); (fail_if_success (with_reducible show wpAny _ _ (PySem.exec (Stmt.For _ _ _ _ _) _) _ _ _)); first | (k_unfold; (try dsimp only)) | walk1 | (dsimp only; walk1) | fail "no step")
  (with_reducible rename Fr _ _ _ _ => F2)
  (with_reducible rename News _ _ _ _ => N2)
  (with_reducible rename IsRange _ _ _ _ _ _ _ _ => rg)
  have hn7 : (n7.toNat : Int) = n7 := Int.toNat_of_nonneg b0
  refine Iter_range (g := g) (L := L) (n := n7.toNat) rfl rg (small_seven b0 b7) (size_seven b0) F2 N2 (fun i m' nw => LawI prog w q DK RC TB SS L fx i i 0 m' nw) ?_ ?_ ?_ (fun _ _ => rfl)
  · exact ⟨oS, v0, D1, R, X, ns.tail, r, kp, rfl, dS, oD1, oR, oX, sp1, by rw [List.length_tail]; omega, hrow, hev, hon, htold⟩
  · rintro i it oi h tk m' nw t' hi ⟨oS, v0, D, R, X, ns, r, kp, rfl, ⟨dS, oD, oR, oX, sp, hns, hrow, hev, hon, htold⟩⟩ offi F N
    obtain ⟨kp1, kp2, kp3, kp4, kp5⟩ := id kp
    have hi7 : i < 7 := by omega
    have spi : Sep ((it, oi) :: (L + 1, oS) :: fx) D R X := sp.add fun p hp => offi p (List.mem_append_right _ hp)
    have hiL : @Ne Nat it (L + 1) := Ne.symm (offi (L + 1, oS) (.head _))
    dsimp only
    repeat' ((fail_if_success (with_reducible show wpAny _ _ (PySem.exec (Stmt.Assign [PySem.Expr.Subscript _ _ _] _ _) _) _ _ _)); (fail_if_success (with_reducible show wpAny _ _ (PySem.exec (Stmt.Assign [PySem.Expr.Attribute _ _ _] _ _) _) _ _ _)); (fail_if_success (with_reducible show wpAny _ _ (PySem.execs (Stmt.Assign [PySem.Expr.Name (Str.ofString "own") _] _ _ :: _) _) _ _ _)); (fail_if_success (with_reducible show wpAny _ _ (PySem.call (Value.ref _) _ _) _ _ _)); (fail_if_success (with_reducible show wpAny _ _ (pyIter _) _ _ _)); (fail_if_success (with_reducible show wpAny _ _ (PySem.exec (Stmt.For _ _ _ _ _) _) _ _ _)); first | (k_unfold; (try dsimp only)) | walk1 | (dsimp only; walk1) | fail "no step")
    (with_reducible rename Fr _ _ _ _ => F0)
    (with_reducible rename News _ _ _ _ => N0)
    change wpAny _ (ktrTop dp un gd cn _ L fa _ (lawCl L) []) _ _ _ _
    refine call_D (f := (it, oi) :: (L + 1, oS) :: fx) (draw_d (prog := prog) (w := w) (p := p) (loose := loose) (mean := mean) (mg := mg) (mb := mb) (DK := DK) (ns := ns) (k := 5) (by decide) (by omega)) (fun v => and_good deck_good) B' X' T' rfl (by omega) (by omega) F0 N0 oD spi (fun q hq => nomatch hq) ?_
    intro v0 h0 tk0 D0 F10 N10 O0 sp0
    obtain ⟨oD0, twa, rfl⟩ := own_and O0 (fun p hp => (N10 p (List.mem_append_right _ (List.mem_append_left _ hp))).1)
    obtain ⟨wa0, wa9⟩ := drawD_lt (ns := ns) (k := 5) (by decide)
    generalize drawD (ns) 5 = wa at wa0 wa9
    clear O0
    dsimp only
    repeat' ((fail_if_success (with_reducible show wpAny _ _ (PySem.exec (Stmt.Assign [PySem.Expr.Subscript _ _ _] _ _) _) _ _ _)); (fail_if_success (with_reducible show wpAny _ _ (PySem.exec (Stmt.Assign [PySem.Expr.Attribute _ _ _] _ _) _) _ _ _)); (fail_if_success (with_reducible show wpAny _ _ (PySem.execs (Stmt.Assign [PySem.Expr.Name (Str.ofString "own") _] _ _ :: _) _) _ _ _)); (fail_if_success (with_reducible show wpAny _ _ (PySem.call (Value.ref _) _ _) _ _ _)); (fail_if_success (with_reducible show wpAny _ _ (pyIter _) _ _ _)); (fail_if_success (with_reducible show wpAny _ _ (PySem.exec (Stmt.For _ _ _ _ _) _) _ _ _)); first | (k_unfold; (try dsimp only)) | walk1 | (dsimp only; walk1) | fail "no step")
    (with_reducible rename Fr _ _ _ _ => F20)
    (with_reducible rename News _ _ _ _ => N20)
    change wpAny _ (ktrTop dp un gd cn _ L fa _ (lawCl L) []) _ _ _ _
    refine call_D (f := (it, oi) :: (L + 1, oS) :: fx) (draw_d (prog := prog) (w := w) (p := p) (loose := loose) (mean := mean) (mg := mg) (mb := mb) (DK := DK) (ns := ns.tail) (k := 6) (by decide) (by simp only [List.length_tail]; omega)) (fun v => and_good deck_good) B' X' T' rfl (by omega) (by omega) F20 N20 oD0 sp0 (fun q hq => nomatch hq) ?_
    intro v1 h1 tk1 D1 F11 N11 O1 sp1
    obtain ⟨oD1, tsy, rfl⟩ := own_and O1 (fun p hp => (N11 p (List.mem_append_right _ (List.mem_append_left _ hp))).1)
    obtain ⟨sy0, sy9⟩ := drawD_lt (ns := ns.tail) (k := 6) (by decide)
    generalize drawD (ns.tail) 6 = sy at sy0 sy9
    clear O1
    dsimp only
    repeat' ((fail_if_success (with_reducible show wpAny _ _ (PySem.exec (Stmt.Assign [PySem.Expr.Subscript _ _ _] _ _) _) _ _ _)); (fail_if_success (with_reducible show wpAny _ _ (PySem.exec (Stmt.Assign [PySem.Expr.Attribute _ _ _] _ _) _) _ _ _)); (fail_if_success (with_reducible show wpAny _ _ (PySem.execs (Stmt.Assign [PySem.Expr.Name (Str.ofString "own") _] _ _ :: _) _) _ _ _)); (fail_if_success (with_reducible show wpAny _ _ (PySem.call (Value.ref _) _ _) _ _ _)); (fail_if_success (with_reducible show wpAny _ _ (pyIter _) _ _ _)); (fail_if_success (with_reducible show wpAny _ _ (PySem.exec (Stmt.For _ _ _ _ _) _) _ _ _)); first | (k_unfold; (try dsimp only)) | walk1 | (dsimp only; walk1) | fail "no step")
    (with_reducible rename Fr _ _ _ _ => F21)
    (with_reducible rename News _ _ _ _ => N21)
    change wpAny _ (ktrTop dp un gd cn _ L fa _ (lawCl L) []) _ _ _ _
    refine call_D (f := (it, oi) :: (L + 1, oS) :: fx) (draw_d (prog := prog) (w := w) (p := p) (loose := loose) (mean := mean) (mg := mg) (mb := mb) (DK := DK) (ns := ns.tail.tail) (k := 6) (by decide) (by simp only [List.length_tail]; omega)) (fun v => and_good deck_good) B' X' T' rfl (by omega) (by omega) F21 N21 oD1 sp1 (fun q hq => nomatch hq) ?_
    intro v2 h2 tk2 D2 F12 N12 O2 sp2
    obtain ⟨oD2, tnu, rfl⟩ := own_and O2 (fun p hp => (N12 p (List.mem_append_right _ (List.mem_append_left _ hp))).1)
    obtain ⟨nu0, nu9⟩ := drawD_lt (ns := ns.tail.tail) (k := 6) (by decide)
    generalize drawD (ns.tail.tail) 6 = nu at nu0 nu9
    clear O2
    dsimp only
    have hrL : ∀ p ∈ fx ++ (D2 ++ (R ++ X)), p.1 ≠ L + 1 := fun p hp e => by
      rcases List.mem_append.mp hp with h | h
      · exact hfxL p h e
      · rcases List.mem_append.mp h with h | h
        · exact sp2.fD (L + 1, oS) (.tail _ (.head _)) (List.mem_map.mpr ⟨p, h, e⟩)
        · rcases List.mem_append.mp h with h | h
          · exact sp2.fR (L + 1, oS) (.tail _ (.head _)) (List.mem_map.mpr ⟨p, h, e⟩)
          · exact sp2.fX (L + 1, oS) (.tail _ (.head _)) (List.mem_map.mpr ⟨p, h, e⟩)
    simp only [List.cons_append] at N12
    refine hideG fun GG hGG => ?_
    suffices kk : ∀ rest, rest = fx ++ (D2 ++ (R ++ X)) → GG by exact kk _ rfl
    intro rest hrest
    refine hGG ?_; clear hGG GG
    rw [← hrest] at N12 hrL
    have hri : ∀ p ∈ rest, p.1 ≠ it := fun p hp e => by
      rw [hrest] at hp
      rcases List.mem_append.mp hp with h | h
      · exact offi p (List.mem_append_left _ (.tail _ h)) e
      · rcases List.mem_append.mp h with h | h
        · exact sp2.fD (it, oi) (.head _) (List.mem_map.mpr ⟨p, h, e⟩)
        · rcases List.mem_append.mp h with h | h
          · exact sp2.fR (it, oi) (.head _) (List.mem_map.mpr ⟨p, h, e⟩)
          · exact sp2.fX (it, oi) (.head _) (List.mem_map.mpr ⟨p, h, e⟩)
    have mc8 : (L + 8, q.oVar) ∈ rest := by rw [hrest]; exact List.mem_append_left _ hc8
    have mc5 : (L + 5, q.oHooks) ∈ rest := by rw [hrest]; exact List.mem_append_left _ hc5
    have mc3 : (L + 3, q.oHere) ∈ rest := by rw [hrest]; exact List.mem_append_left _ hc3
    refine hideG fun GG hGG => ?_
    refine xc_vars oX (fun p hp => (N12 p (.tail _ (.tail _ (by rw [hrest]; exact List.mem_append_right _ (List.mem_append_right _ (List.mem_append_right _ hp)))))).1) fun Vd df au pe Hd va k1 k2 k3 t1 t2 t3 n1 k4 t4 n2 mv1 mv2 mv3 mv4 => ?_
    refine hGG ?_; clear hGG GG
    have upX : ∀ p ∈ X, p ∈ rest := fun p hp => by rw [hrest]; exact List.mem_append_right _ (List.mem_append_right _ (List.mem_append_right _ hp))
    have nv1 := upX _ mv1
    have nv2 := upX _ mv2
    clear mv1 mv2 mv3 mv4 offi
    repeat' ((fail_if_success (with_reducible show wpAny _ _ (PySem.exec (Stmt.If _ _ _ _) _) _ _ _)); (fail_if_success (with_reducible show wpAny _ _ (PySem.call (Value.ref _) _ _) _ _ _)); (fail_if_success (with_reducible show wpAny _ _ (pyIter _) _ _ _)); (fail_if_success (with_reducible show wpAny _ _ (PySem.exec (Stmt.For _ _ _ _ _) _) _ _ _)); first | (k_unfold; (try dsimp only)) | walk1 | (dsimp only; walk1) | fail "no step")
    (with_reducible rename News _ _ _ _ => NN)
    (with_reducible rename Fr _ _ _ _ => FF)
    (with_reducible rename Obj.data _ = Data.cell (some (Value.int sy _)) => dS9)
    refine hideG fun GG hGG => ?_
    suffices kk : ∀ oS9, Obj.data oS9 = Data.cell (some (Value.int sy tsy)) → News g L _ ((it, oi) :: (L + 1, oS9) :: rest) → GG by exact kk _ dS9 (fun p hp => NN p (.tail _ hp))
    intro oS9 dS9 NN
    suffices kk : ∀ m9, Fr g L _ m9 → Keep q DK RC TB SS m9 → m9 (Str.ofString "number") = some (.int nu tnu) → m9 (Str.ofString "way") = some (.int wa twa) → GG by exact kk _ FF ⟨kp1, kp2, kp3, kp4, kp5⟩ rfl rfl
    intro m9 F9 kp9 hnu hwa
    clear FF kp1 kp2 kp3 kp4 kp5 kp
    obtain ⟨kp1, kp2, kp3, kp4, kp5⟩ := id kp9
    refine hGG ?_; clear hGG GG
    have sp9 : Sep ((it, oi) :: (L + 1, oS9) :: fx) D2 R X := sp2.sub fun p hp => by
      rcases List.mem_cons.mp hp with rfl | hp
      · exact ⟨_, .head _, rfl⟩
      · rcases List.mem_cons.mp hp with rfl | hp
        · exact ⟨_, .tail _ (.head _), rfl⟩
        · exact ⟨p, .tail _ (.tail _ hp), rfl⟩
    have hmem : (L + 1, oS9) ∈ (it, oi) :: (L + 1, oS9) :: fx := .tail _ (.head _)
    have hlen : ns.tail.tail.tail.length < 60 := by simp only [List.length_tail]; omega
    have hev' : ∀ w ns, r.every w = some ns → ns.length < 50 := fun w l hl => by have := hev w l hl; omega
    have hevS : ∀ w ns, r.every w = some ns → ns.length ≤ i + 1 := fun w l hl => by have := hev w l hl; omega
    repeat' ((fail_if_success (with_reducible show wpAny _ _ (PySem.exec (Stmt.Assign [PySem.Expr.Subscript _ _ _] _ _) _) _ _ _)); (fail_if_success (with_reducible show wpAny _ _ (PySem.exec (Stmt.Assign [PySem.Expr.Attribute _ _ _] _ _) _) _ _ _)); (fail_if_success (with_reducible show wpAny _ _ (PySem.execs (Stmt.Assign [PySem.Expr.Name (Str.ofString "own") _] _ _ :: _) _) _ _ _)); (fail_if_success (with_reducible show wpAny _ _ (PySem.call (Value.ref _) _ _) _ _ _)); (fail_if_success (with_reducible show wpAny _ _ (pyIter _) _ _ _)); (fail_if_success (with_reducible show wpAny _ _ (PySem.exec (Stmt.For _ _ _ _ _) _) _ _ _)); first | (k_unfold; (try dsimp only)) | walk1 | (dsimp only; walk1) | fail "no step")
    · have NX : News g L _ (((it, oi) :: (L + 1, oS9) :: fx) ++ (D2 ++ (R ++ X))) := fun p hp => NN p (by rw [hrest]; exact hp)
      change wpAny _ (ktrTop dp un gd cn _ L fa _ (lawCl L) []) _ _ _ _
      refine call_X (f := (it, oi) :: (L + 1, oS9) :: fx) (make_permanent_x (prog := prog) (w := w) (p := p) (loose := loose) (mean := mean) (mg := mg) (mb := mb) (by omega) (by omega)) (fun v => xc_good) B' X' T' rfl (by omega) (by omega) F9 NX oX sp9 (fun q hq => nomatch hq) ?_
      intro v7 h7 tk7 X7 F7 N7 O7 sp7
      dsimp only
      repeat' ((fail_if_success (with_reducible show wpAny _ _ (PySem.exec (Stmt.Assign [PySem.Expr.Subscript _ _ _] _ _) _) _ _ _)); (fail_if_success (with_reducible show wpAny _ _ (PySem.exec (Stmt.Assign [PySem.Expr.Attribute _ _ _] _ _) _) _ _ _)); (fail_if_success (with_reducible show wpAny _ _ (PySem.execs (Stmt.Assign [PySem.Expr.Name (Str.ofString "own") _] _ _ :: _) _) _ _ _)); (fail_if_success (with_reducible show wpAny _ _ (PySem.call (Value.ref _) _ _) _ _ _)); (fail_if_success (with_reducible show wpAny _ _ (pyIter _) _ _ _)); (fail_if_success (with_reducible show wpAny _ _ (PySem.exec (Stmt.For _ _ _ _ _) _) _ _ _)); first | (k_unfold; (try dsimp only)) | walk1 | (dsimp only; walk1) | fail "no step")
      refine s_kept (own := ((it, oi) :: (L + 1, oS9) :: fx) ++ (D2 ++ X7)) (ws := R) B' X' T' hdp hu F7 kp2  (List.mem_append_left _ hmem) dS9 (by omega) (by omega) (perm_r N7) oR (sp7).r ?_
      intro h8 tk8 R8 F8 N8 O8 off8
      have N8' := perm_r' N8
      have sp8 := (sp7).setR off8
      dsimp only
      repeat' ((fail_if_success (with_reducible show wpAny _ _ (PySem.exec (Stmt.Assign [PySem.Expr.Subscript _ _ _] _ _) _) _ _ _)); (fail_if_success (with_reducible show wpAny _ _ (PySem.exec (Stmt.Assign [PySem.Expr.Attribute _ _ _] _ _) _) _ _ _)); (fail_if_success (with_reducible show wpAny _ _ (PySem.execs (Stmt.Assign [PySem.Expr.Name (Str.ofString "own") _] _ _ :: _) _) _ _ _)); (fail_if_success (with_reducible show wpAny _ _ (PySem.call (Value.ref _) _ _) _ _ _)); (fail_if_success (with_reducible show wpAny _ _ (pyIter _) _ _ _)); (fail_if_success (with_reducible show wpAny _ _ (PySem.exec (Stmt.For _ _ _ _ _) _) _ _ _)); first | (k_unfold; (try dsimp only)) | walk1 | (dsimp only; walk1) | fail "no step")
      refine LedEnd.mk (nw' := ((L + 1, oS9) :: fx) ++ (D2 ++ (R8 ++ X7))) F8 N8' (fun p hp => ?_) (LawI.mk (oS := oS9) (D := D2) (R := R8) (X := X7) kp9 ⟨dS9, oD2, O8, O7, (sp8).sub fun p hp => ⟨p, .tail _ hp, rfl⟩, hlen, hrow, hevS, by exact Nat.le_succ_of_le hon, htold⟩)
      rcases List.mem_append.mp hp with h | h
      · rcases List.mem_cons.mp h with rfl | h
        · exact Ne.symm hiL
        · exact hri p (by rw [hrest]; exact List.mem_append_left _ h)
      · have s9 := sp8
        rcases List.mem_append.mp h with h | h
        · exact fun e => s9.fD (it, oi) (.head _) (List.mem_map.mpr ⟨p, h, e⟩)
        · rcases List.mem_append.mp h with h | h
          · exact fun e => s9.fR (it, oi) (.head _) (List.mem_map.mpr ⟨p, h, e⟩)
          · exact fun e => s9.fX (it, oi) (.head _) (List.mem_map.mpr ⟨p, h, e⟩)
    · have NX : News g L _ (((it, oi) :: (L + 1, oS9) :: fx) ++ (D2 ++ (R ++ X))) := fun p hp => NN p (by rw [hrest]; exact hp)
      change wpAny _ (ktrTop dp un gd cn _ L fa _ (lawCl L) []) _ _ _ _
      refine call_X (f := (it, oi) :: (L + 1, oS9) :: fx) (make_automatic_x (prog := prog) (w := w) (p := p) (loose := loose) (mean := mean) (mg := mg) (mb := mb) (by omega) (by omega)) (fun v => xc_good) B' X' T' rfl (by omega) (by omega) F9 NX oX sp9 (fun q hq => nomatch hq) ?_
      intro v7 h7 tk7 X7 F7 N7 O7 sp7
      dsimp only
      repeat' ((fail_if_success (with_reducible show wpAny _ _ (PySem.exec (Stmt.Assign [PySem.Expr.Subscript _ _ _] _ _) _) _ _ _)); (fail_if_success (with_reducible show wpAny _ _ (PySem.exec (Stmt.Assign [PySem.Expr.Attribute _ _ _] _ _) _) _ _ _)); (fail_if_success (with_reducible show wpAny _ _ (PySem.execs (Stmt.Assign [PySem.Expr.Name (Str.ofString "own") _] _ _ :: _) _) _ _ _)); (fail_if_success (with_reducible show wpAny _ _ (PySem.call (Value.ref _) _ _) _ _ _)); (fail_if_success (with_reducible show wpAny _ _ (pyIter _) _ _ _)); (fail_if_success (with_reducible show wpAny _ _ (PySem.exec (Stmt.For _ _ _ _ _) _) _ _ _)); first | (k_unfold; (try dsimp only)) | walk1 | (dsimp only; walk1) | fail "no step")
      refine s_auto (own := ((it, oi) :: (L + 1, oS9) :: fx) ++ (D2 ++ X7)) (ws := R) B' X' T' hdp hu F7 kp2  (List.mem_append_left _ hmem) dS9 (by omega) (by omega) (perm_r N7) oR (sp7).r ?_
      intro h8 tk8 R8 F8 N8 O8 off8
      have N8' := perm_r' N8
      have sp8 := (sp7).setR off8
      dsimp only
      repeat' ((fail_if_success (with_reducible show wpAny _ _ (PySem.exec (Stmt.Assign [PySem.Expr.Subscript _ _ _] _ _) _) _ _ _)); (fail_if_success (with_reducible show wpAny _ _ (PySem.exec (Stmt.Assign [PySem.Expr.Attribute _ _ _] _ _) _) _ _ _)); (fail_if_success (with_reducible show wpAny _ _ (PySem.execs (Stmt.Assign [PySem.Expr.Name (Str.ofString "own") _] _ _ :: _) _) _ _ _)); (fail_if_success (with_reducible show wpAny _ _ (PySem.call (Value.ref _) _ _) _ _ _)); (fail_if_success (with_reducible show wpAny _ _ (pyIter _) _ _ _)); (fail_if_success (with_reducible show wpAny _ _ (PySem.exec (Stmt.For _ _ _ _ _) _) _ _ _)); first | (k_unfold; (try dsimp only)) | walk1 | (dsimp only; walk1) | fail "no step")
      refine s_dflt (own := ((it, oi) :: (L + 1, oS9) :: fx) ++ (D2 ++ X7)) (ws := R8) B' X' T' hdp hu F8 kp2  (List.mem_append_left _ hmem) dS9 (by omega) (by omega) (perm_r N8') O8 (sp8).r ?_
      intro h5 tk5 R5 F5 N5 O5 off5
      have N5' := perm_r' N5
      have sp5 := (sp8).setR off5
      dsimp only
      repeat' ((fail_if_success (with_reducible show wpAny _ _ (PySem.exec (Stmt.Assign [PySem.Expr.Subscript _ _ _] _ _) _) _ _ _)); (fail_if_success (with_reducible show wpAny _ _ (PySem.exec (Stmt.Assign [PySem.Expr.Attribute _ _ _] _ _) _) _ _ _)); (fail_if_success (with_reducible show wpAny _ _ (PySem.execs (Stmt.Assign [PySem.Expr.Name (Str.ofString "own") _] _ _ :: _) _) _ _ _)); (fail_if_success (with_reducible show wpAny _ _ (PySem.call (Value.ref _) _ _) _ _ _)); (fail_if_success (with_reducible show wpAny _ _ (pyIter _) _ _ _)); (fail_if_success (with_reducible show wpAny _ _ (PySem.exec (Stmt.For _ _ _ _ _) _) _ _ _)); first | (k_unfold; (try dsimp only)) | walk1 | (dsimp only; walk1) | fail "no step")
      refine LedEnd.mk (nw' := ((L + 1, oS9) :: fx) ++ (D2 ++ (R5 ++ X7))) F5 N5' (fun p hp => ?_) (LawI.mk (oS := oS9) (D := D2) (R := R5) (X := X7) kp9 ⟨dS9, oD2, O5, O7, (sp5).sub fun p hp => ⟨p, .tail _ hp, rfl⟩, hlen, hrow, hevS, by exact Nat.le_succ_of_le hon, htold⟩)
      rcases List.mem_append.mp hp with h | h
      · rcases List.mem_cons.mp h with rfl | h
        · exact Ne.symm hiL
        · exact hri p (by rw [hrest]; exact List.mem_append_left _ h)
      · have s9 := sp5
        rcases List.mem_append.mp h with h | h
        · exact fun e => s9.fD (it, oi) (.head _) (List.mem_map.mpr ⟨p, h, e⟩)
        · rcases List.mem_append.mp h with h | h
          · exact fun e => s9.fR (it, oi) (.head _) (List.mem_map.mpr ⟨p, h, e⟩)
          · exact fun e => s9.fX (it, oi) (.head _) (List.mem_map.mpr ⟨p, h, e⟩)
    · have NX : News g L _ (((it, oi) :: (L + 1, oS9) :: fx) ++ (D2 ++ (R ++ X))) := fun p hp => NN p (by rw [hrest]; exact hp)
      change wpAny _ (ktrTop dp un gd cn _ L fa _ (lawCl L) []) _ _ _ _
      refine call_X (f := (it, oi) :: (L + 1, oS9) :: fx) (set_in_x (prog := prog) (w := w) (p := p) (loose := loose) (mean := mean) (mg := mg) (mb := mb) (by omega) (by omega)) (fun v => xc_good) B' X' T' rfl (by omega) (by omega) F9 NX oX sp9 (fun q hq => nomatch hq) ?_
      intro v7 h7 tk7 X7 F7 N7 O7 sp7
      dsimp only
      repeat' ((fail_if_success (with_reducible show wpAny _ _ (PySem.exec (Stmt.Assign [PySem.Expr.Subscript _ _ _] _ _) _) _ _ _)); (fail_if_success (with_reducible show wpAny _ _ (PySem.exec (Stmt.Assign [PySem.Expr.Attribute _ _ _] _ _) _) _ _ _)); (fail_if_success (with_reducible show wpAny _ _ (PySem.execs (Stmt.Assign [PySem.Expr.Name (Str.ofString "own") _] _ _ :: _) _) _ _ _)); (fail_if_success (with_reducible show wpAny _ _ (PySem.call (Value.ref _) _ _) _ _ _)); (fail_if_success (with_reducible show wpAny _ _ (pyIter _) _ _ _)); (fail_if_success (with_reducible show wpAny _ _ (PySem.exec (Stmt.For _ _ _ _ _) _) _ _ _)); first | (k_unfold; (try dsimp only)) | walk1 | (dsimp only; walk1) | fail "no step")
      change wpAny _ (ktrTop dp un gd cn _ L fa _ (lawCl L) []) _ _ _ _
      refine call_R (f := (it, oi) :: (L + 1, oS9) :: fx) (Spec.toS (law_put_s (prog := prog) (w := w) (p := p) (loose := loose) (mean := mean) (mg := mg) (mb := mb) (by omega) (by omega))) (St := []) (fun v => rec_good) B' X' T' rfl (by omega) (by omega) F7 N7 oR sp7 (fun q hq => nomatch hq) ?_
      intro v8 h8 tk8 R8 F8 N8 O8 sp8
      dsimp only
      repeat' ((fail_if_success (with_reducible show wpAny _ _ (PySem.exec (Stmt.Assign [PySem.Expr.Subscript _ _ _] _ _) _) _ _ _)); (fail_if_success (with_reducible show wpAny _ _ (PySem.exec (Stmt.Assign [PySem.Expr.Attribute _ _ _] _ _) _) _ _ _)); (fail_if_success (with_reducible show wpAny _ _ (PySem.execs (Stmt.Assign [PySem.Expr.Name (Str.ofString "own") _] _ _ :: _) _) _ _ _)); (fail_if_success (with_reducible show wpAny _ _ (PySem.call (Value.ref _) _ _) _ _ _)); (fail_if_success (with_reducible show wpAny _ _ (pyIter _) _ _ _)); (fail_if_success (with_reducible show wpAny _ _ (PySem.exec (Stmt.For _ _ _ _ _) _) _ _ _)); first | (k_unfold; (try dsimp only)) | walk1 | (dsimp only; walk1) | fail "no step")
      refine LedEnd.mk (nw' := ((L + 1, oS9) :: fx) ++ (D2 ++ (R8 ++ X7))) F8 N8 (fun p hp => ?_) (LawI.mk (oS := oS9) (D := D2) (R := R8) (X := X7) kp9 ⟨dS9, oD2, O8, O7, (sp8).sub fun p hp => ⟨p, .tail _ hp, rfl⟩, hlen, hrow, hevS, by exact Nat.le_succ_of_le hon, htold⟩)
      rcases List.mem_append.mp hp with h | h
      · rcases List.mem_cons.mp h with rfl | h
        · exact Ne.symm hiL
        · exact hri p (by rw [hrest]; exact List.mem_append_left _ h)
      · have s9 := sp8
        rcases List.mem_append.mp h with h | h
        · exact fun e => s9.fD (it, oi) (.head _) (List.mem_map.mpr ⟨p, h, e⟩)
        · rcases List.mem_append.mp h with h | h
          · exact fun e => s9.fR (it, oi) (.head _) (List.mem_map.mpr ⟨p, h, e⟩)
          · exact fun e => s9.fX (it, oi) (.head _) (List.mem_map.mpr ⟨p, h, e⟩)
    · (with_reducible rename Fr _ _ _ _ => FW)
      (with_reducible rename News _ _ _ _ => NW)
      have hw06 : 0 ≤ [(0 : Int), 1, 2, 3, 7, 8].getD nu.toNat 0 ∧ [(0 : Int), 1, 2, 3, 7, 8].getD nu.toNat 0 < 9 := by
        exact int_nat (P := fun nu => 0 ≤ [(0 : Int), 1, 2, 3, 7, 8].getD nu.toNat 0 ∧ [(0 : Int), 1, 2, 3, 7, 8].getD nu.toNat 0 < 9) 6 (by assumption) (by assumption) (by decide +kernel)
      generalize [(0 : Int), 1, 2, 3, 7, 8].getD nu.toNat 0 = wd at *
      refine hideG fun GG hGG => ?_
      obtain ⟨hw0, hw9⟩ := hw06
      obtain ⟨mw, FW, kpw, hwd⟩ : ∃ mw, Fr g L _ mw ∧ Keep q DK RC TB SS mw ∧ ∃ tw, mw (Str.ofString "word") = some (.int wd tw) := ⟨_, FW, ⟨kp1, kp2, kp3, kp4, kp5⟩, _, rfl⟩
      obtain ⟨tw, hwd⟩ := hwd
      refine hGG ?_; clear hGG GG
      have NW' : News g L _ (((it, oi) :: (L + 1, oS9) :: fx) ++ (D2 ++ (R ++ X))) := fun p hp => NW p (.tail _ (by rw [hrest]; exact hp))
      change wpAny _ (ktrTop dp un gd cn _ L fa _ (lawCl L) []) _ _ _ _
      refine call_X (f := (it, oi) :: (L + 1, oS9) :: fx) (add_hook_x (prog := prog) (w := w) (p := p) (loose := loose) (mean := mean) (mg := mg) (mb := mb) hw0 hw9 (fun ns hn => by have := hev' _ ns hn; omega)) (fun v => xc_good) B' X' T' rfl (by omega) (by omega) FW NW' oX sp9 (fun q hq => nomatch hq) ?_
      intro v7 h7 tk7 X7 F7 N7 O7 sp7
      dsimp only
      repeat' ((fail_if_success (with_reducible show wpAny _ _ (PySem.exec (Stmt.Assign [PySem.Expr.Subscript _ _ _] _ _) _) _ _ _)); (fail_if_success (with_reducible show wpAny _ _ (PySem.exec (Stmt.Assign [PySem.Expr.Attribute _ _ _] _ _) _) _ _ _)); (fail_if_success (with_reducible show wpAny _ _ (PySem.execs (Stmt.Assign [PySem.Expr.Name (Str.ofString "own") _] _ _ :: _) _) _ _ _)); (fail_if_success (with_reducible show wpAny _ _ (PySem.call (Value.ref _) _ _) _ _ _)); (fail_if_success (with_reducible show wpAny _ _ (pyIter _) _ _ _)); (fail_if_success (with_reducible show wpAny _ _ (PySem.exec (Stmt.For _ _ _ _ _) _) _ _ _)); first | (k_unfold; (try dsimp only)) | walk1 | (dsimp only; walk1) | fail "no step")
      refine s_every (own := ((it, oi) :: (L + 1, oS9) :: fx) ++ (D2 ++ X7)) (ws := R) B' X' T' hdp hu F7 kpw.record hwd (List.mem_append_left _ hmem) dS9 hw0 hw9 (hev' _) (perm_r N7) oR (sp7).r ?_
      intro u8 h8 tk8 R8 F8 N8 O8 off8
      have N8' := perm_r' N8
      have sp8 := (sp7).setR off8
      dsimp only
      repeat' ((fail_if_success (with_reducible show wpAny _ _ (PySem.exec (Stmt.Assign [PySem.Expr.Subscript _ _ _] _ _) _) _ _ _)); (fail_if_success (with_reducible show wpAny _ _ (PySem.exec (Stmt.Assign [PySem.Expr.Attribute _ _ _] _ _) _) _ _ _)); (fail_if_success (with_reducible show wpAny _ _ (PySem.execs (Stmt.Assign [PySem.Expr.Name (Str.ofString "own") _] _ _ :: _) _) _ _ _)); (fail_if_success (with_reducible show wpAny _ _ (PySem.call (Value.ref _) _ _) _ _ _)); (fail_if_success (with_reducible show wpAny _ _ (pyIter _) _ _ _)); (fail_if_success (with_reducible show wpAny _ _ (PySem.exec (Stmt.For _ _ _ _ _) _) _ _ _)); first | (k_unfold; (try dsimp only)) | walk1 | (dsimp only; walk1) | fail "no step")
      refine LedEnd.mk (nw' := ((L + 1, oS9) :: fx) ++ (D2 ++ (R8 ++ X7))) F8 N8' (fun p hp => ?_) (LawI.mk (oS := oS9) (D := D2) (R := R8) (X := X7) ⟨kpw.deck, kpw.record, kpw.table, kpw.state, kpw.doer⟩ ⟨dS9, oD2, O8, O7, (sp8).sub fun p hp => ⟨p, .tail _ hp, rfl⟩, hlen, hrow, every_put hev, by exact Nat.le_succ_of_le hon, htold⟩)
      rcases List.mem_append.mp hp with h | h
      · rcases List.mem_cons.mp h with rfl | h
        · exact Ne.symm hiL
        · exact hri p (by rw [hrest]; exact List.mem_append_left _ h)
      · have s9 := sp8
        rcases List.mem_append.mp h with h | h
        · exact fun e => s9.fD (it, oi) (.head _) (List.mem_map.mpr ⟨p, h, e⟩)
        · rcases List.mem_append.mp h with h | h
          · exact fun e => s9.fR (it, oi) (.head _) (List.mem_map.mpr ⟨p, h, e⟩)
          · exact fun e => s9.fX (it, oi) (.head _) (List.mem_map.mpr ⟨p, h, e⟩)
    · have NX : News g L _ (((it, oi) :: (L + 1, oS9) :: fx) ++ (D2 ++ (R ++ X))) := fun p hp => NN p (by rw [hrest]; exact hp)
      refine hideG fun GG hGG => ?_
      obtain ⟨xT, xY, rfl, oxT, oxY, dxT⟩ := own_star table_good (Star.good modeS_good pw_good) (fun p hp => (NX p (List.mem_append_right _ (List.mem_append_right _ (List.mem_append_right _ hp)))).1) oX
      obtain ⟨xS, xP, rfl, oxS, oxP, dxS⟩ := own_star modeS_good pw_good (fun p hp => (NX p (List.mem_append_right _ (List.mem_append_right _ (List.mem_append_right _ (List.mem_append_right _ hp))))).1) oxY
      refine hGG ?_; clear hGG GG
      refine s_state (own := (((it, oi) :: (L + 1, oS9) :: fx) ++ (D2 ++ R)) ++ (xT ++ xP)) (ws := xS) B' X' T' hdp hu F9 kp4 (List.mem_append_left _ (List.mem_append_left _ hmem)) dS9 (by omega) (fun p hp => NX p (by
        refine subOf ?_ hp; lcg_off)) oxS (fun p hp z => ?_) ?_
      · rcases List.mem_append.mp hp with h | h
        · exact sp9.x p h (by rw [List.map_append, List.map_append]; simp [z])
        · rcases List.mem_append.mp h with h | h
          · exact dxT p h (by rw [List.map_append]; exact List.mem_append_left _ z)
          · exact off_sym dxS p h z
      intro h7 tk7 xS7 F7 N7 O7 off7
      have oX7 : Own (XC prog w q TB SS { r with on := (r.on.filter fun i => !decide (i = 40 + sy)) ++ [40 + sy] }) (xT ++ (xS7 ++ xP)) := star_own oxT (star_own O7 oxP (off_sym fun p hp => off7 p (List.mem_append_right _ (List.mem_append_right _ hp)))) (fun p hp z => by
        rw [List.map_append] at z
        rcases List.mem_append.mp z with z | z
        · exact off7 p (List.mem_append_right _ (List.mem_append_left _ hp)) z
        · exact dxT p hp (by rw [List.map_append]; exact List.mem_append_right _ z))
      have sp7 : Sep ((it, oi) :: (L + 1, oS9) :: fx) D2 R (xT ++ (xS7 ++ xP)) := sp9.setX fun p hp z => by
        rw [List.map_append, List.map_append] at z
        rcases List.mem_append.mp z with z | z
        · exact sp9.x p hp (by rw [List.map_append]; exact List.mem_append_left _ z)
        · rcases List.mem_append.mp z with z | z
          · exact off7 p (List.mem_append_left _ hp) z
          · exact sp9.x p hp (by rw [List.map_append, List.map_append]; exact List.mem_append_right _ (List.mem_append_right _ z))
      have N7' : News g L _ (((it, oi) :: (L + 1, oS9) :: fx) ++ (D2 ++ (R ++ (xT ++ (xS7 ++ xP))))) := fun p hp => N7 p (by
        refine subOf ?_ hp; lcg_off)
      dsimp only
      repeat' ((fail_if_success (with_reducible show wpAny _ _ (PySem.exec (Stmt.Assign [PySem.Expr.Subscript _ _ _] _ _) _) _ _ _)); (fail_if_success (with_reducible show wpAny _ _ (PySem.exec (Stmt.Assign [PySem.Expr.Attribute _ _ _] _ _) _) _ _ _)); (fail_if_success (with_reducible show wpAny _ _ (PySem.execs (Stmt.Assign [PySem.Expr.Name (Str.ofString "own") _] _ _ :: _) _) _ _ _)); (fail_if_success (with_reducible show wpAny _ _ (PySem.call (Value.ref _) _ _) _ _ _)); (fail_if_success (with_reducible show wpAny _ _ (pyIter _) _ _ _)); (fail_if_success (with_reducible show wpAny _ _ (PySem.exec (Stmt.For _ _ _ _ _) _) _ _ _)); first | (k_unfold; (try dsimp only)) | walk1 | (dsimp only; walk1) | fail "no step")
      refine s_on (own := ((it, oi) :: (L + 1, oS9) :: fx) ++ (D2 ++ (xT ++ (xS7 ++ xP)))) (ws := R) B' X' T' hdp hu F7 kp2  (List.mem_append_left _ hmem) dS9 (by omega) (by omega) (by omega) (perm_r N7') oR (sp7).r ?_
      intro h8 tk8 R8 F8 N8 O8 off8
      have N8' := perm_r' N8
      have sp8 := (sp7).setR off8
      dsimp only
      repeat' ((fail_if_success (with_reducible show wpAny _ _ (PySem.exec (Stmt.Assign [PySem.Expr.Subscript _ _ _] _ _) _) _ _ _)); (fail_if_success (with_reducible show wpAny _ _ (PySem.exec (Stmt.Assign [PySem.Expr.Attribute _ _ _] _ _) _) _ _ _)); (fail_if_success (with_reducible show wpAny _ _ (PySem.execs (Stmt.Assign [PySem.Expr.Name (Str.ofString "own") _] _ _ :: _) _) _ _ _)); (fail_if_success (with_reducible show wpAny _ _ (PySem.call (Value.ref _) _ _) _ _ _)); (fail_if_success (with_reducible show wpAny _ _ (pyIter _) _ _ _)); (fail_if_success (with_reducible show wpAny _ _ (PySem.exec (Stmt.For _ _ _ _ _) _) _ _ _)); first | (k_unfold; (try dsimp only)) | walk1 | (dsimp only; walk1) | fail "no step")
      refine LedEnd.mk (nw' := ((L + 1, oS9) :: fx) ++ (D2 ++ (R8 ++ (xT ++ (xS7 ++ xP))))) F8 N8' (fun p hp => ?_) (LawI.mk (oS := oS9) (D := D2) (R := R8) (X := (xT ++ (xS7 ++ xP))) kp9 ⟨dS9, oD2, O8, oX7, (sp8).sub fun p hp => ⟨p, .tail _ hp, rfl⟩, hlen, hrow, hevS, by rw [List.length_append]; have := List.length_filter_le (fun i => !decide (i = 40 + sy)) r.on; simp only [List.length_cons, List.length_nil]; omega, htold⟩)
      rcases List.mem_append.mp hp with h | h
      · rcases List.mem_cons.mp h with rfl | h
        · exact Ne.symm hiL
        · exact hri p (by rw [hrest]; exact List.mem_append_left _ h)
      · have s9 := sp8
        rcases List.mem_append.mp h with h | h
        · exact fun e => s9.fD (it, oi) (.head _) (List.mem_map.mpr ⟨p, h, e⟩)
        · rcases List.mem_append.mp h with h | h
          · exact fun e => s9.fR (it, oi) (.head _) (List.mem_map.mpr ⟨p, h, e⟩)
          · exact fun e => s9.fX (it, oi) (.head _) (List.mem_map.mpr ⟨p, h, e⟩)
  · rintro h tk m' nw I' F N
    refine hideG fun GG hGG => ?_
    obtain ⟨oS, v0, D, R, X, ns, r, kp, e, ⟨dS, oD, oR, oX, sp, hns, hrow, hev, hon, htold⟩⟩ := I'
    refine hGG ?_; clear hGG GG
    have h6 : n7.toNat ≤ 6 := by omega
    dsimp only
    repeat' ((fail_if_success (with_reducible show wpAny _ _ (PySem.exec (Stmt.Assign [PySem.Expr.Subscript _ _ _] _ _) _) _ _ _)); (fail_if_success (with_reducible show wpAny _ _ (PySem.exec (Stmt.Assign [PySem.Expr.Attribute _ _ _] _ _) _) _ _ _)); (fail_if_success (with_reducible show wpAny _ _ (PySem.execs (Stmt.Assign [PySem.Expr.Name (Str.ofString "own") _] _ _ :: _) _) _ _ _)); (fail_if_success (with_reducible show wpAny _ _ (PySem.call (Value.ref _) _ _) _ _ _)); (fail_if_success (with_reducible show wpAny _ _ (pyIter _) _ _ _)); (fail_if_success (with_reducible show wpAny _ _ (PySem.exec (Stmt.For _ _ _ _ _) _) _ _ _)); first | (k_unfold; (try dsimp only)) | walk1 | (dsimp only; walk1) | fail "no step")
    exact hk _ _ _ _ F N ⟨oS, v0, D, R, X, ns, r, kp, e, dS, oD, oR, oX, sp, hns, hrow, fun w l hl => by have := hev w l hl; omega, by omega, htold⟩
end
section
section
theorem wtLaw4 : True := by
  w_top off
  trivial
def evL : Ev → List Dat
  | .change m => [Dat.str "change", Dat.int m]
  | .fn w f => [Dat.str "function", Dat.int w, Dat.int f]
  | .body m => [Dat.str "body", Dat.int m]
  | .behind m => [Dat.str "behind", Dat.int m]
theorem evDat {e : Ev} {vs : List Value} (x : EvIs e vs) (news : List (Addr × Obj)) : DatAll news vs (evL e) := by
  cases x with
  | change m t t1 => exact .cons (.str _ _) (.cons (.int _ _) .nil)
  | fn w f t t1 t2 => exact .cons (.str _ _) (.cons (.int _ _) (.cons (.int _ _) .nil))
  | body m t t1 => exact .cons (.str _ _) (.cons (.int _ _) .nil)
  | behind m t t1 => exact .cons (.str _ _) (.cons (.int _ _) .nil)
def evTup (e : Ev) : Dat := .tuple (evL e)
theorem intsDat {xs : List Value} {on : List Int} (i : IntsAre xs on) (news : List (Addr × Obj)) : DatAll news xs (on.map Dat.int) := by
  induction i with
  | nil => exact .nil
  | cons k t _ ih => exact .cons (.int _ _) ih
theorem str_ok1 : PyData.strOk (Str.ofString "change") = true := by decide +kernel
theorem str_ok2 : PyData.strOk (Str.ofString "function") = true := by decide +kernel
theorem str_ok3 : PyData.strOk (Str.ofString "body") = true := by decide +kernel
theorem str_ok4 : PyData.strOk (Str.ofString "behind") = true := by decide +kernel
theorem evsDat {es : List Ev} {TT : List (Addr × Obj)} (h : EvsAre es TT) {news : List (Addr × Obj)} (sub : ∀ p ∈ TT, p ∈ news) : DatAll news (refs TT) (es.map evTup) := by
  induction h with
  | nil => exact .nil
  | @cons e a vs n es tt x y ih =>
    exact .cons (.tuple (sub _ (.head _)) (evDat x news)) (ih fun p hp => sub p (.tail _ hp))
theorem evOk (e : Ev) : kqdOk 8 (evTup e) = true := by
  cases e <;> simp [evTup, evL, kqdOk, str_ok1, str_ok2, str_ok3, str_ok4]
section
variable {prog : Program} {w : World} {A : Around} {E : Value → Shared → Prop} {s : Shared} {h₀ : Heap} {L a b : Addr} {news : List (Addr × Obj)} {Q : Value → Shared → Prop}
open Classical in
/-- two lists that tell the same events -/
theorem ne_told {es : List Ev} {c1 c2 : Nat} {T1 T2 : List (Addr × Obj)} (N : News h₀ L s.heap news) (ma : (a, listOf (refs T1).toArray c1) ∈ news) (sa : ∀ p ∈ T1, p ∈ news) (e1 : EvsAre es T1) (mb : (b, listOf (refs T2).toArray c2) ∈ news) (sb : ∀ p ∈ T2, p ∈ news) (e2 : EvsAre es T2)
    (hu : A.units + 64 < cLine) (h : Q (.bool false) s) : wpAny (model prog w) A (compareOp .NotEq (.ref a) (.ref b)) Q E s := by
  refine kqd_ne (n₁ := news) (n₂ := news) (ds := es.map evTup) (es := es.map evTup) N ma rfl rfl (evsDat e1 sa) (fun _ h => h) mb rfl rfl (evsDat e2 sb) (fun _ h => h) ?_ ?_ hu ?_
  · intro d hd; obtain ⟨e, _, rfl⟩ := List.mem_map.mp hd; exact evOk e
  · intro d hd; obtain ⟨e, _, rfl⟩ := List.mem_map.mp hd; exact evOk e
  · simpa using h
open Classical in
/-- two pairs of a mode and a list of numbers -/
theorem ne_mode {mj : Int} {on : List Int} {t1 t2 : Tok} {n1 n2 c1 c2 : Nat} {la lb : Addr} {xs ys : List Value} (N : News h₀ L s.heap news) (ma : (a, tupOf [.int mj t1, .ref la] n1) ∈ news) (mla : (la, listOf xs.toArray c1) ∈ news) (ia : IntsAre xs on) (mb : (b, tupOf [.int mj t2, .ref lb] n2) ∈ news) (mlb : (lb, listOf ys.toArray c2) ∈ news) (ib : IntsAre ys on)
    (hu : A.units + 64 < cLine) (h : Q (.bool false) s) : wpAny (model prog w) A (compareOp .NotEq (.ref a) (.ref b)) Q E s := by
  have ok : ∀ d ∈ [Dat.int mj, Dat.list (on.map Dat.int)], kqdOk 8 d = true := by
    intro d hd
    simp only [List.mem_cons, List.not_mem_nil, or_false] at hd
    rcases hd with rfl | rfl
    · rfl
    · simp [kqdOk]
  obtain ⟨as, ra⟩ := kqd_all N 8 (DatAll.cons (.int mj t1) (.cons (.list mla (intsDat ia _)) .nil)) ok
  obtain ⟨bs, rb⟩ := kqd_all N 8 (DatAll.cons (.int mj t2) (.cons (.list mlb (intsDat ib _)) .nil)) ok
  have la := kqd_lay 9 (.tuple [Dat.int mj, Dat.list (on.map Dat.int)]) (by simpa [kqdOk] using ok)
  rw [kqdP] at la
  have e : PyData.eqv (.tuple (kqdPs [Dat.int mj, Dat.list (on.map Dat.int)])) (.tuple (kqdPs [Dat.int mj, Dat.list (on.map Dat.int)])) = true := by
    have q := kqd_eqv 9 (.tuple [Dat.int mj, Dat.list (on.map Dat.int)]) (.tuple [Dat.int mj, Dat.list (on.map Dat.int)]) 9 (by simpa [kqdOk] using ok) (by simpa [kqdOk] using ok)
    rw [kqdP] at q
    exact q.mpr rfl
  refine ne_dataH (reads_tuple_at (N.get ma) rfl rfl (by simpa using ra)) (reads_tuple_at (N.get mb) rfl rfl (by simpa using rb)) ?_ ?_ hu (by rw [e]; exact h)
  · unfold SeqAt.shaped; rw [la.1, Bool.true_and]; exact decide_eq_true (Nat.le_trans la.2 (by decide))
  · unfold SeqAt.shaped; rw [la.1, Bool.true_and]; exact decide_eq_true (Nat.le_trans la.2 (by decide))
end
theorem kwLaw41 : True := by
  k_with_none
  k_with "W1" => ((fail_if_success (with_reducible show wpAny _ _ (PySem.call (Value.ref _) _ _) _ _ _)); (fail_if_success (with_reducible show wpAny _ _ (pyIter _) _ _ _)); (fail_if_success (with_reducible show wpAny _ _ (PySem.exec (Stmt.For _ _ _ _ _) _) _ _ _)); first | (k_unfold; (try dsimp only)) | walk1 | (dsimp only; walk1) | fail "no step")
  k_with "k_enter" => (first | (refine' code_def (by k_asm) (by k_asm) (by k_asm) (by k_asm) (by k_asm) rfl rfl (by first | exact rfl | assumption) (by k_is) (by k_is) (by k_room) (by first | exact BindsTo.of_eq rfl | exact binds_K (by k_in) rfl (by k_is) rfl rfl rfl) (by exact locs rfl) ?_ (by exact rfl) (by exact rfl) (by exact rfl) (by decide); k_whole; intro _ _ _ _ _ _ Bz9 _ _; (try dsimp only); (try k_lift Bz9); (try k_fold)) | (refine' code_defC (by k_asm) (by k_asm) (by k_asm) (by k_asm) (by k_asm) rfl rfl (by first | exact rfl | assumption) (by k_is) (by k_is) (by k_room) (by first | exact BindsTo.of_eq rfl | exact binds_K (by k_in) rfl (by k_is) rfl rfl rfl) (by exact rfl) (by decide +kernel) ?_ (by exact rfl) (by exact rfl) (by exact rfl); k_whole; intro _ _ _ _ _ _ _ Nz9 Yz9 Bz9 _ _ lz9; (try k_lt lz9); k_cells Yz9; (try simp only [List.cons_append, List.nil_append] at Nz9); (try dsimp only); (try k_lift Bz9); (try k_fold)) | fail)
  k_with "execs cons" => (k_fold; (first | show wpAny _ AB (PySem.execs _ eB) _ _ _ | (show (let eB := _; let AB := _; wpAny _ AB (PySem.execs _ eB) _ _ _); intro eB AB)); refine wpAny_execs_cons ?_)
  k_with "omega" => first | exact Nat.le_of_ble_eq_true rfl | with_reducible assumption | exact Mine.o1 (by with_reducible assumption) (by exact rfl) | exact Mine.o3 (by with_reducible assumption) (by exact rfl) | exact Mine.o2 (by with_reducible assumption) (by exact rfl) | exact Mine.o4 (by with_reducible assumption) (by exact rfl) | exact Mine.o5 (by with_reducible assumption) (by exact rfl) | exact Mine.o6 (by with_reducible assumption) (by exact rfl) | exact Mine.o7 (by with_reducible assumption) (by exact rfl) | exact Mine.o8 (by with_reducible assumption) (by exact rfl) | exact Mine.o9 (by with_reducible assumption) (by exact rfl) | exact Mine.o10 (by with_reducible assumption) (by exact rfl) | exact Mine.o11 (by with_reducible assumption) (by exact rfl) | exact Mine.o12 (by with_reducible assumption) (by exact rfl) | exact Mine.o13 (by with_reducible assumption) (by exact rfl) | exact Nat.ne_of_lt (by with_reducible assumption) | exact Nat.ne_of_gt (by with_reducible assumption) | exact Nat.le_of_lt (by with_reducible assumption) | fail
  k_with "k_room" => ((try simp only [depth_mark, depth_under_make, depth_under_kw, depth_in1, depth_deeper]); first | assumption | (show _ < 1000; (try dsimp only); omega))
  k_with "k_ne" => ((refine neN ?_); (try dsimp only); first | assumption | exact Ne.symm (by assumption))
  k_with "compareOp In int ref" => (k_here; k_dflt (first | (refine' in_C (by k_asm) (by k_mem) (by k_asm) (by k_asm) (by k_asm) ?_) | (refine' in_I (by k_asm) (by k_mem) (by k_asm) (by k_asm) (by k_asm) ?_) | (refine' in_B (by k_asm) (by k_mem) (by k_asm) (by k_asm) (by k_asm) ?_)))
  k_with "compareOp NotIn int ref" => (k_here; k_dflt ( (refine' notin_C (by k_asm) (by k_mem) (by k_asm) (by k_asm) (by k_asm) ?_)))
  k_with "call builtin:dict.get" => (k_here; k_dflt (first | (refine' get_I (by k_asm) (by k_mem) (by k_asm) (by k_asm) (by k_asm) ?_; refine ⟨fun _ _ _ => ?_, fun _ => ?_⟩) | (refine' get_B (by k_asm) (by k_mem) (by k_asm) (by k_asm) (by k_asm) ?_; (try simp only [Bool.or_false]))))
  k_with "getMethod ref" => (k_here; (with_reducible show wpAny _ _ (getMethod (Value.ref _) (Str.ofString "get") _) _ _ _); k_dflt (refine' kdg_method (knd := PySem.intKind _ _) (by k_asm) (by k_mem) (by k_asm) ?_))
  k_with "subscriptTail" => (k_here; (with_reducible show wpAny _ _ (subscriptTail _ _ (Value.ref _) (Value.int _ _)) _ _ _); k_dflt (refine' item_C (by k_asm) (by k_mem) (by k_asm) (by k_asm) (by k_asm) ?_ (by with_unfolding_all rfl); intro _ _ _ _))
  k_with "setItem ref int" => (k_here; k_dflt (refine' kda_set (knd := PySem.intKind _ _) (by k_asm) (by k_asm) (by k_updF) (by k_asm) (intKind_is _ _ _ _) (by exact KOK.line (by k_asm) (by k_asm)) ?_; intro hz9 oz9 Fz9 Nz9 hdz9; (try dsimp only at Nz9); (try k_sweep); revert hz9 oz9 Fz9 Nz9 hdz9; intro _ _ _ _ _))
  trivial
variable {prog : Program} {w : World} {p : Program} {loose : List Str} {mean : ExcName → Option Value} {mg mb : Str → Option Value}
theorem kwLaw42 : True := by
  k_with "eval ListComp" => (k_here; k_dflt (refine LCt.ListComp_T (F₀ := by k_asm) (by with_unfolding_all rfl) (by decide) (by rfl) (by decide) (by rfl) ?_))
  k_with "CompSrcT" => (k_here; k_dflt (first | (refine' LCt.CompSrcT.ledger rfl (by k_asm) (by k_asm) (by k_mem) (by k_asm) ?_) | (refine' LCt.CompSrcT.base rfl (by k_asm) (by k_asm) (by k_asm) (by k_asm) ?_)); intro _; k_dflt (refine' flt_rest (by k_asm) (by k_asm) (by first | exact .inl (by k_asm) | exact .inr ⟨_, by k_mem, rfl, _, rfl⟩) rfl rfl (by decide) (fun _ _ _ _ _ _ _ _ _ _ _ _ _ _ _ _ _ _ _ => ?_) (fun _ _ => ?_)); (all_goals (try (simp only [LCg.Off3, and_true] at off'))))
  k_with "FltT" => (k_here; k_dflt (refine' flt_t (by k_asm) (by k_asm) (by intro pz9 hpz9; first | exact hpz9 | exact .tail _ hpz9 | exact .tail _ (.tail _ hpz9) | exact .tail _ (.tail _ (.tail _ hpz9))) ?_); (try rfl))
  k_with "call type:list" => (k_here; k_dflt (refine' list_D rfl (by k_asm) (by k_asm) (by k_mem) (by k_asm) (by k_asm) (by k_asm) ?_); intro Bz9 cz9 hz9 tkz9 vsz9 Fz9 Nz9 l1z9 hiz9 h64z9 hszz9; (try k_lt l1z9); (try k_sweep); revert Bz9 cz9 hz9 tkz9 vsz9 Fz9 Nz9 l1z9 hiz9 h64z9 hszz9; intro _ _ _ _ _ _ _ _ _ _ _)
  k_with "call builtin:sorted" => (k_here; k_dflt (refine' sorted_L (by k_asm) (by k_asm) (by k_mem) (by k_asm) (by k_asm) ?_); intro Bz9 vsz9 nsz9 cz9 hz9 Fz9 Nz9 l1z9 hiz9 hpmz9 h64z9 hszz9; (try k_lt l1z9); (try k_sweep); revert Bz9 vsz9 nsz9 cz9 hz9 Fz9 Nz9 l1z9 hiz9 hpmz9 h64z9 hszz9; intro _ _ _ _ _ _ _ _ _ _ _ _)
  k_with "call builtin:dict.pop" => (k_here; k_dflt (refine' pop_C (by k_asm) (by k_asm) (by k_updF) (by k_asm) (by k_asm) (by k_asm) ?_); intro hz9 oz9 vz9 Fz9 Nz9 hdz9; (try dsimp only at Nz9); (try k_sweep); revert hz9 oz9 vz9 Fz9 Nz9 hdz9; intro _ _ _ _ _ _)
  k_with "getMethod ref" => (k_here; (with_reducible show wpAny _ _ (getMethod (Value.ref _) (Str.ofString "pop") _) _ _ _); k_dflt (refine' popm_D (by k_asm) (by k_mem) (by k_asm) ?_))
  k_with "eval Name" => (k_here; k_dflt (refine' nameX_L (by k_asm) (by first | exact rfl | assumption) ?_ (by rfl) (by rfl); k_whole))
  k_with "k_ne" => ((refine neN ?_); (try dsimp only); first | assumption | exact Ne.symm (by assumption) | omega)
  k_with "k_units" => (first | exact Nat.le_of_ble_eq_true rfl | (simp only [ktrTop, units_deeper, units_in1, cLine_is]; omega) | ((try dsimp only [ktrTop, Around.deeper, Around.in1, Around.under]); rw [cLine_is]; omega))
  k_with "compareOp In int ref" => (k_here; k_dflt (first | (refine' in_list_ints (by first | exact led_list (by k_asm) (by k_mem) | exact base_list (by k_asm) (by k_asm)) (by first | k_asm | exact .cons _ _ .nil | exact .nil) ?_; k_whole) | (refine' in_E (by k_asm) (by k_asm) (by k_asm) (by k_asm) ?_)))
  k_with "compareOp NotEq ref ref" => (k_here; k_dflt (refine' ne_E (by k_asm) (by k_mem) (by k_mem) (by k_asm) (by k_asm) (by k_asm) (by k_asm) (by k_units) ?_))
  k_with "binaryOp Add ref ref" => (k_here; k_dflt (refine' add_L (by k_asm) (by k_asm) (by first | exact led_list (by k_asm) (by k_mem) | exact base_list (by k_asm) (by k_asm)) (by first | exact led_list (by k_asm) (by k_mem) | exact base_list (by k_asm) (by k_asm)) (by first | k_asm | exact .cons _ _ .nil | exact .nil) (by first | k_asm | exact .cons _ _ .nil | exact .nil) (by first | k_asm | (simp only [List.length_cons, List.length_nil, sizeLine_eq]; omega)) ?_); intro hz9 Dz9 Fz9 Nz9 l1z9 hiz9; (try k_lt l1z9); (try k_sweep); revert hz9 Dz9 Fz9 Nz9 l1z9 hiz9; intro _ _ _ _ _ _)
  k_with "call builtin:dict.get" => (k_here; k_dflt (first | (refine' get_V (by k_asm) (by k_mem) (by k_asm) (by k_asm) (by first | k_asm | exact vaSame _ _ _) ?_) | (refine' get_N (by k_asm) (by k_mem) (by k_asm) (by k_asm) (by k_asm) ?_)))
  k_with "call type:list" => (k_here; k_dflt (refine' copy_L (by k_asm) (by k_asm) (by k_mem) (by k_asm) ?_); intro Bz9 cz9 hz9 tkz9 Fz9 Nz9 l1z9; (try k_lt l1z9); (try k_sweep); revert Bz9 cz9 hz9 tkz9 Fz9 Nz9 l1z9; intro _ _ _ _ _ _ _)
  k_with "call builtin:list.extend" => (k_here; k_dflt (refine' ext_L (by k_asm) (by k_asm) (by k_updF) (by k_mem) (by first | k_asm | exact .cons _ _ .nil | exact .nil) (by first | k_asm | exact .cons _ _ .nil | exact .nil) (by first | k_asm | (simp only [List.length_cons, List.length_nil, sizeLine_eq]; omega)) ?_); intro hz9 nz9 Fz9 Nz9 hiz9; (try dsimp only at Nz9); (try k_sweep); revert hz9 nz9 Fz9 Nz9 hiz9; intro _ _ _ _ _)
  k_with "k_all" => with_reducible assumption
  k_with "subscriptTail" => (k_here; (with_reducible show wpAny _ _ (subscriptTail _ _ (Value.ref _) (Value.int _ _)) _ _ _); k_dflt (refine' item_V (by k_asm) (by k_mem) (by k_asm) (by k_asm) ?_ (by with_unfolding_all rfl)))
  k_with "compareOp Eq ref ref" => (k_here; k_dflt (refine' ke_eq_ints (by first | exact led_list (by k_asm) (by k_mem) | exact base_list (by k_asm) (by k_asm)) (by first | exact led_list (by k_asm) (by k_mem) | exact base_list (by k_asm) (by k_asm)) (by first | k_asm | exact .cons _ _ .nil | exact .nil) (by first | k_asm | exact .cons _ _ .nil | exact .nil) (by k_units) ?_))
  k_with "k_mem" => (with_reducible refine memOf ?_; with_reducible assumption)
  k_with "subscriptTail" => (k_here; (with_reducible show wpAny _ _ (subscriptTail _ _ (Value.ref _) (Value.str _ _)) _ _ _); k_dflt (refine' item_S (by k_asm) (by k_mem) (by k_asm) (by rfl) ?_ (by with_unfolding_all rfl)))
  trivial
theorem kwLaw49 : True := by
  k_with "compareOp NotEq ref ref" => (k_here; k_dflt (first | (refine' ne_told (by k_asm) (by k_mem) (by assumption) (by k_asm) (by k_mem) (by assumption) (by k_asm) (by k_units) ?_) | (refine' ne_mode (by k_asm) (by k_mem) (by k_mem) (by k_asm) (by k_mem) (by k_mem) (by k_asm) (by k_units) ?_) | fail))
  trivial
variable {dp un : Nat} {gd : Option (List Code)} {cn : Str} {fa : Addr} {A₀ : Around} {base g : Heap} {L : Addr} {m : Str → Option Value} {s : Shared} {Q : Flow → Shared → Prop} {E : Value → Shared → Prop}
theorem s_cmp {q : LS} {SS RC dd ll dD dO dA dK dE dR lO lT : Addr} {oRC : Obj} {r : RecSt} {tm tsm ts1 ts2 : Tok} {ks1 ks2 : Int} {c1 c2 c3 c4 : Nat} {T1 T2 nw : List (Addr × Obj)} {vS von : List Value} (ok : q.Ok) (B' : Below A₀ base [] g) (X' : (hd.heap_1 w.params).In g) (T' : Top p loose mean mg mb g) (hdp : dp + 30 < 1000) (hu : un + 800 < 9000)
    (F : Fr g L s.heap m) (hrc : m (Str.ofString "record") = some (.ref RC)) (hss : m (Str.ofString "state") = some (.ref SS)) (N : News g L s.heap nw)
    (hc7 : (L + 7, q.oTold) ∈ nw) (mT : (q.T, listOf (refs T1).toArray c1) ∈ nw) (mT1 : ∀ p ∈ T1, p ∈ nw) (e1 : EvsAre r.told T1)
    (mR : (RC, oRC) ∈ nw) (dRC : oRC.IsDictOf (PySem.strKind prog w) (recKvs dD dO dA dK dE dR lO lT r.mode tm)) (mL : (lT, listOf (refs T2).toArray c2) ∈ nw) (mT2 : ∀ p ∈ T2, p ∈ nw) (e2 : EvsAre r.told T2)
    (mS : (SS, instObj 163 dd) ∈ nw) (mS2 : (dd, dictOf [⟨ks1, .str "major" ts1, .int r.mode tsm⟩, ⟨ks2, .str "on" ts2, .ref ll⟩] 2) ∈ nw) (mS3 : (ll, listOf vS.toArray c3) ∈ nw) (ivS : IntsAre vS r.on) (mO : (lO, listOf von.toArray c4) ∈ nw) (ivon : IntsAre von r.on)
    (hk : ∀ h' tk', Fr g L h' m → News g L h' nw → Q .next { s with heap := h', toks := tk' }) :
    wpAny (model prog w) (ktrTop dp un gd cn lawScope L fa (.ref 465) (lawCl L) []) (exec (stmtAt lap2 3) (envX cn lawScope L fa (.ref 465) (lawCl L))) Q E s := by
  refine hideG fun GG hGG => ?_
  suffices kk : ∀ sc, lawScope = sc → GG by exact kk _ rfl
  intro sc hsc
  refine hGG ?_; clear hGG GG
  refine hideG fun GG hGG => ?_
  suffices kk : ∀ st, stmtAt lap2 3 = st → GG by exact kk _ rfl
  intro st hst
  refine hGG ?_; clear hGG GG
  rw [hsc, hst]
  conv at hsc => lhs; whnf
  conv at hst => lhs; whnf
  subst hsc hst
  have hd7 := ok.told
  repeat' (first | (k_unfold; (try dsimp only)) | walk1 | (dsimp only; walk1) | fail "no step")
  (with_reducible rename News _ _ _ _ => NF)
  (with_reducible rename Fr _ _ _ _ => FF)
  exact hk _ _ FF (fun p hp => NF p (.tail _ (.tail _ hp)))
end
end
section
section
theorem wtLaw5a : True := by
  w_top off
  trivial
theorem star_assoc {A B C : Comp} {fp : List Addr} {h : Heap} (x : Star A (Star B C) fp h) : Star (Star A B) C fp h := by
  refine hideG fun GG hGG => ?_
  obtain ⟨f1, f2, rfl, n, a, g1, g2, rfl, n2, b, c⟩ := x
  refine hGG ?_; clear hGG GG
  refine ⟨f1 ++ g1, g2, (List.append_assoc ..).symm, fun y hy z => ?_, ⟨f1, g1, rfl, fun y hy z => n y hy (List.mem_append_left _ z), a, b⟩, c⟩
  rcases List.mem_append.mp hy with q | q
  · exact n y q (List.mem_append_right _ z)
  · exact n2 y q z
theorem star_mono {A A' B B' : Comp} {fp : List Addr} {h : Heap} (x : Star A B fp h) (f : ∀ fp, A fp h → A' fp h) (g : ∀ fp, B fp h → B' fp h) : Star A' B' fp h := by
  refine hideG fun GG hGG => ?_
  obtain ⟨f1, f2, e, n, a, b⟩ := x
  refine hGG ?_; clear hGG GG
  exact ⟨f1, f2, e, n, f _ a, g _ b⟩
theorem star_and {A B : Comp} {P : Prop} {fp : List Addr} {h : Heap} (x : Star A (fun fp h => B fp h ∧ P) fp h) : Star A B fp h ∧ P := by
  refine hideG fun GG hGG => ?_
  obtain ⟨f1, f2, e, n, a, b, p⟩ := x
  refine hGG ?_; clear hGG GG
  exact ⟨⟨f1, f2, e, n, a, b⟩, p⟩
theorem and_star {A B : Comp} {P : Prop} {fp : List Addr} {h : Heap} (x : Star (fun fp h => A fp h ∧ P) B fp h) : Star A B fp h ∧ P := by
  refine hideG fun GG hGG => ?_
  obtain ⟨f1, f2, e, n, ⟨a, p⟩, b⟩ := x
  refine hGG ?_; clear hGG GG
  exact ⟨⟨f1, f2, e, n, a, b⟩, p⟩
section
variable {prog : Program} {w : World} {p : Program} {loose : List Str} {mean : ExcName → Option Value} {mg mb : Str → Option Value}
theorem functions_of_x {q : LS} {TB SS : Addr} {r : RecSt} {k : Int} {t : Tok} (hrow : RowsOk r.rows) (hev : ∀ w ns, r.every w = some ns → ns.length < 60) : SpecS prog w p loose mean mg mb [] 6 273 [.ref q.HK, .ref q.R, .int k t] (XC prog w q TB SS r) (fun v => Star (XC prog w q TB SS r) (ListV v (lawCalled (r.every k) (r.rows k)))) := by
  have S : SpecS prog w p loose mean mg mb [] 6 273 [.ref q.HK, .ref q.R, .int k t] (XC prog w q TB SS r) (fun v => Star (TableC prog w TB 4) (Star (ModeS SS r.mode r.on) (Star (PT prog w q r) (Star (HH prog w q r.every (rowsP r.rows)) (ListV v (calledA (r.every k) (rowsP r.rows k))))))) := Spec.toS (Spec.lift (C' := fun v => Star (HH prog w q r.every (rowsP r.rows)) (ListV v (calledA (r.every k) (rowsP r.rows k)))) (functions_of_s (prog := prog) (w := w) (p := p) (loose := loose) (mean := mean) (mg := mg) (mb := mb) (H := q.HK) (R := q.R) (f := r.every) (g := rowsP r.rows) (k := k) (t := t) (hev k) (rowsP_small hrow k)) (Ctxt.right (Ctxt.right (Ctxt.right Ctxt.here (pt_good (q := q) (r := r))) (modeS_good (S := SS) (major := r.mode) (on := r.on))) (table_good (TB := TB) (n := 4))))
  intro dp un gd cn cs a ccd cl outer A₀ base h₀ L m s Q E fp B X0 T0 hke hdp hu hst I hk
  refine S B X0 T0 hke hdp hu hst I fun v h' tk' fp' I' st => hk v h' tk' fp' ⟨I'.F, ?_, I'.hL, I'.hb⟩ st
  have x := I'.C
  rw [← called_law hrow]
  exact star_assoc (star_mono x (fun _ a => a) fun _ x => star_assoc (star_mono x (fun _ a => a) fun _ x => star_assoc x))
theorem value_in_x {q : LS} {TB SS : Addr} {r : RecSt} {k : Int} {t : Tok} : SpecS prog w p loose mean mg mb [] 4 409 [.ref q.V, .ref q.H, .int k t] (XC prog w q TB SS r) (fun v fp h => XC prog w q TB SS r fp h ∧ IsOpt v (r.x.val k)) := by
  have S : SpecS prog w p loose mean mg mb [] 4 409 [.ref q.V, .ref q.H, .int k t] (XC prog w q TB SS r) (fun v => Star (TableC prog w TB 4) (Star (ModeS SS r.mode r.on) (Star (Star (Told q.T r.told) (fun fp h => Vars prog w q.V q.H r.x fp h ∧ IsOpt v (r.x.val k))) (HH prog w q r.every (rowsP r.rows))))) := Spec.toS (Spec.lift (C' := fun v fp h => Vars prog w q.V q.H r.x fp h ∧ IsOpt v (r.x.val k)) (value_in_s (prog := prog) (w := w) (p := p) (loose := loose) (mean := mean) (mg := mg) (mb := mb) (V := q.V) (H := q.H) (x := r.x) (k := k) (t := t)) (Ctxt.right (Ctxt.right (Ctxt.left (Ctxt.right Ctxt.here (told_good (T := q.T) (es := r.told))) (hh_good (q := q) (f := r.every) (g := rowsP r.rows))) (modeS_good (S := SS) (major := r.mode) (on := r.on))) (table_good (TB := TB) (n := 4))))
  intro dp un gd cn cs a ccd cl outer A₀ base h₀ L m s Q E fp B X0 T0 hke hdp hu hst I hk
  refine S B X0 T0 hke hdp hu hst I fun v h' tk' fp' I' st => hk v h' tk' fp' ⟨I'.F, ?_, I'.hL, I'.hb⟩ st
  have x := I'.C
  exact star_and (star_mono x (fun _ a => a) fun _ x => star_and (star_mono x (fun _ a => a) fun _ x => and_star (star_mono x (fun _ x => star_and x) fun _ a => a)))
theorem is_local_x {q : LS} {TB SS : Addr} {r : RecSt} {k : Int} {t : Tok} : SpecS prog w p loose mean mg mb [] 4 369 [.ref q.H, .int k t] (XC prog w q TB SS r) (fun v fp h => XC prog w q TB SS r fp h ∧ v = .bool (r.x.own k).isSome) := by
  have S : SpecS prog w p loose mean mg mb [] 4 369 [.ref q.H, .int k t] (XC prog w q TB SS r) (fun v => Star (TableC prog w TB 4) (Star (ModeS SS r.mode r.on) (Star (Star (Told q.T r.told) (fun fp h => Vars prog w q.V q.H r.x fp h ∧ v = .bool (r.x.own k).isSome)) (HH prog w q r.every (rowsP r.rows))))) := Spec.toS (Spec.lift (C' := fun v fp h => Vars prog w q.V q.H r.x fp h ∧ v = .bool (r.x.own k).isSome) (is_local_s (prog := prog) (w := w) (p := p) (loose := loose) (mean := mean) (mg := mg) (mb := mb) (V := q.V) (H := q.H) (x := r.x) (k := k) (t := t)) (Ctxt.right (Ctxt.right (Ctxt.left (Ctxt.right Ctxt.here (told_good (T := q.T) (es := r.told))) (hh_good (q := q) (f := r.every) (g := rowsP r.rows))) (modeS_good (S := SS) (major := r.mode) (on := r.on))) (table_good (TB := TB) (n := 4))))
  intro dp un gd cn cs a ccd cl outer A₀ base h₀ L m s Q E fp B X0 T0 hke hdp hu hst I hk
  refine S B X0 T0 hke hdp hu hst I fun v h' tk' fp' I' st => hk v h' tk' fp' ⟨I'.F, ?_, I'.hL, I'.hb⟩ st
  have x := I'.C
  exact star_and (star_mono x (fun _ a => a) fun _ x => star_and (star_mono x (fun _ a => a) fun _ x => and_star (star_mono x (fun _ x => star_and x) fun _ a => a)))
theorem switch_x {q : LS} (ok : q.Ok) {TB SS P : Addr} {oP : Obj} {b40 : Bool} {r : RecSt} {k : Int} {t : Tok} (h0 : 0 ≤ k) (h9 : k < 4) (hP : oP.IsDictOf (PySem.intKind prog w) [(40, .bool b40)]) (loP : (P == sysModules) = false)
    (hrow : RowsOk r.rows) (hev : ∀ w ns, r.every w = some ns → ns.length < 60) (htold : r.told.length < 85000) (hon : r.on.length < 60) :
    SpecS prog w p loose mean mg mb ((P, oP) :: q.st3) 16 177 [.ref TB, .ref SS, .int k t, .ref P, .ref q.fD] (XC prog w q TB SS r) (fun _ => XC prog w q TB SS (switchedR r k)) :=
  switch_s ok h0 h9 hP loP hrow hev htold hon
end
end
end
section
theorem wtLaw5 : True := by
  w_top off
  trivial
theorem kwLaw51 : True := by
  k_with_none
  k_with "W1" => ((fail_if_success (with_reducible show wpAny _ _ (PySem.call (Value.ref _) _ _) _ _ _)); (fail_if_success (with_reducible show wpAny _ _ (pyIter _) _ _ _)); (fail_if_success (with_reducible show wpAny _ _ (PySem.exec (Stmt.For _ _ _ _ _) _) _ _ _)); first | (k_unfold; (try dsimp only)) | walk1 | (dsimp only; walk1) | fail "no step")
  k_with "k_enter" => (first | (refine' code_def (by k_asm) (by k_asm) (by k_asm) (by k_asm) (by k_asm) rfl rfl (by first | exact rfl | assumption) (by k_is) (by k_is) (by k_room) (by first | exact BindsTo.of_eq rfl | exact binds_K (by k_in) rfl (by k_is) rfl rfl rfl) (by exact locs rfl) ?_ (by exact rfl) (by exact rfl) (by exact rfl) (by decide); k_whole; intro _ _ _ _ _ _ Bz9 _ _; (try dsimp only); (try k_lift Bz9); (try k_fold)) | (refine' code_defC (by k_asm) (by k_asm) (by k_asm) (by k_asm) (by k_asm) rfl rfl (by first | exact rfl | assumption) (by k_is) (by k_is) (by k_room) (by first | exact BindsTo.of_eq rfl | exact binds_K (by k_in) rfl (by k_is) rfl rfl rfl) (by exact rfl) (by decide +kernel) ?_ (by exact rfl) (by exact rfl) (by exact rfl); k_whole; intro _ _ _ _ _ _ _ Nz9 Yz9 Bz9 _ _ lz9; (try k_lt lz9); k_cells Yz9; (try simp only [List.cons_append, List.nil_append] at Nz9); (try dsimp only); (try k_lift Bz9); (try k_fold)) | fail)
  k_with "execs cons" => (k_fold; (first | show wpAny _ AB (PySem.execs _ eB) _ _ _ | (show (let eB := _; let AB := _; wpAny _ AB (PySem.execs _ eB) _ _ _); intro eB AB)); refine wpAny_execs_cons ?_)
  k_with "omega" => first | exact Nat.le_of_ble_eq_true rfl | with_reducible assumption | exact Mine.o1 (by with_reducible assumption) (by exact rfl) | exact Mine.o3 (by with_reducible assumption) (by exact rfl) | exact Mine.o2 (by with_reducible assumption) (by exact rfl) | exact Mine.o4 (by with_reducible assumption) (by exact rfl) | exact Mine.o5 (by with_reducible assumption) (by exact rfl) | exact Mine.o6 (by with_reducible assumption) (by exact rfl) | exact Mine.o7 (by with_reducible assumption) (by exact rfl) | exact Mine.o8 (by with_reducible assumption) (by exact rfl) | exact Mine.o9 (by with_reducible assumption) (by exact rfl) | exact Mine.o10 (by with_reducible assumption) (by exact rfl) | exact Mine.o11 (by with_reducible assumption) (by exact rfl) | exact Mine.o12 (by with_reducible assumption) (by exact rfl) | exact Mine.o13 (by with_reducible assumption) (by exact rfl) | exact Nat.ne_of_lt (by with_reducible assumption) | exact Nat.ne_of_gt (by with_reducible assumption) | exact Nat.le_of_lt (by with_reducible assumption) | fail
  k_with "tlg_ne" => first | exact List.Mem.head _ | (apply List.Mem.tail; tlg_ne) | (apply List.mem_append_left; tlg_ne) | (apply List.mem_append_right; tlg_ne)
  k_with "lcg_off" => first | exact List.Subset.refl _ | exact List.nil_subset _ | (refine List.Sublist.subset ?_; (repeat first | exact List.Sublist.refl _ | apply List.Sublist.cons_cons | apply List.Sublist.cons); done) | (refine Mine.subC ?_ ?_; (focus tlg_ne); lcg_off) | (refine Mine.subA ?_ ?_ <;> lcg_off) | (apply List.subset_cons_of_subset; lcg_off) | (apply List.subset_append_of_subset_left; lcg_off) | (apply List.subset_append_of_subset_right; lcg_off)
  trivial
theorem ne_ints_same {prog : Program} {w : World} {A : Around} {E : Value → Shared → Prop} {s : Shared} {a b : Addr} {xs ys : List Value} {ns : List Int} {Q : Value → Shared → Prop} (ha : s.heap.IsList a xs.toArray) (hb : s.heap.IsList b ys.toArray) (hi : IntsAre xs ns) (hj : IntsAre ys ns) (hu : A.units + 64 < cLine) (h : Q (.bool false) s) :
    wpAny (model prog w) A (compareOp .NotEq (.ref a) (.ref b)) Q E s := ke_ne_ints ha hb hi hj hu (by simpa using h)
theorem ne_opt {prog : Program} {w : World} {A : Around} {E : Value → Shared → Prop} {s : Shared} {v v' : Value} {c : Option Int} {Q : Value → Shared → Prop} (a : IsOpt v c) (b : IsOpt v' c) (h : Q (.bool false) s) :
    wpAny (model prog w) A (compareOp .NotEq v v') Q E s := by
  cases a with
  | none => cases b with
    | none =>
      walk1
      exact h
  | some i t => cases b with
    | some _ t' =>
      walk1
      rw [show (i != i) = false by simp]
      exact h
theorem ne_bool {prog : Program} {w : World} {A : Around} {E : Value → Shared → Prop} {s : Shared} {b : Bool} {Q : Value → Shared → Prop} (h : Q (.bool false) s) : wpAny (model prog w) A (compareOp .NotEq (.bool b) (.bool b)) Q E s := by
  walk1
  rw [show (b != b) = false by simp]
  exact h
theorem kwLaw52 : True := by
  k_with "k_room" => ((try simp only [depth_mark, depth_under_make, depth_under_kw, depth_in1, depth_deeper]); first | assumption | (show _ < 1000; (try dsimp only); omega))
  k_with "k_ne" => ((refine neN ?_); (try dsimp only); first | assumption | exact Ne.symm (by assumption))
  k_with "compareOp In int ref" => (k_here; k_dflt (first | (refine' in_C (by k_asm) (by k_mem) (by k_asm) (by k_asm) (by k_asm) ?_) | (refine' in_I (by k_asm) (by k_mem) (by k_asm) (by k_asm) (by k_asm) ?_) | (refine' in_B (by k_asm) (by k_mem) (by k_asm) (by k_asm) (by k_asm) ?_)))
  k_with "compareOp NotIn int ref" => (k_here; k_dflt ( (refine' notin_C (by k_asm) (by k_mem) (by k_asm) (by k_asm) (by k_asm) ?_)))
  k_with "call builtin:dict.get" => (k_here; k_dflt (first | (refine' get_I (by k_asm) (by k_mem) (by k_asm) (by k_asm) (by k_asm) ?_; refine ⟨fun _ _ _ => ?_, fun _ => ?_⟩) | (refine' get_B (by k_asm) (by k_mem) (by k_asm) (by k_asm) (by k_asm) ?_; (try simp only [Bool.or_false]))))
  k_with "getMethod ref" => (k_here; (with_reducible show wpAny _ _ (getMethod (Value.ref _) (Str.ofString "get") _) _ _ _); k_dflt (refine' kdg_method (knd := PySem.intKind _ _) (by k_asm) (by k_mem) (by k_asm) ?_))
  k_with "subscriptTail" => (k_here; (with_reducible show wpAny _ _ (subscriptTail _ _ (Value.ref _) (Value.int _ _)) _ _ _); k_dflt (refine' item_C (by k_asm) (by k_mem) (by k_asm) (by k_asm) (by k_asm) ?_ (by with_unfolding_all rfl); intro _ _ _ _))
  k_with "setItem ref int" => (k_here; k_dflt (refine' kda_set (knd := PySem.intKind _ _) (by k_asm) (by k_asm) (by k_updF) (by k_asm) (intKind_is _ _ _ _) (by exact KOK.line (by k_asm) (by k_asm)) ?_; intro hz9 oz9 Fz9 Nz9 hdz9; (try dsimp only at Nz9); (try k_sweep); revert hz9 oz9 Fz9 Nz9 hdz9; intro _ _ _ _ _))
  trivial
variable {prog : Program} {w : World} {p : Program} {loose : List Str} {mean : ExcName → Option Value} {mg mb : Str → Option Value}
theorem kwLaw53 : True := by
  k_with "eval ListComp" => (k_here; k_dflt (refine LCt.ListComp_T (F₀ := by k_asm) (by with_unfolding_all rfl) (by decide) (by rfl) (by decide) (by rfl) ?_))
  k_with "CompSrcT" => (k_here; k_dflt (first | (refine' LCt.CompSrcT.ledger rfl (by k_asm) (by k_asm) (by k_mem) (by k_asm) ?_) | (refine' LCt.CompSrcT.base rfl (by k_asm) (by k_asm) (by k_asm) (by k_asm) ?_)); intro _; k_dflt (refine' flt_rest (by k_asm) (by k_asm) (by first | exact .inl (by k_asm) | exact .inr ⟨_, by k_mem, rfl, _, rfl⟩) rfl rfl (by decide) (fun _ _ _ _ _ _ _ _ _ _ _ _ _ _ _ _ _ _ _ => ?_) (fun _ _ => ?_)); (all_goals (try (simp only [LCg.Off3, and_true] at off'))))
  k_with "FltT" => (k_here; k_dflt (refine' flt_t (by k_asm) (by k_asm) (by intro pz9 hpz9; first | exact hpz9 | exact .tail _ hpz9 | exact .tail _ (.tail _ hpz9) | exact .tail _ (.tail _ (.tail _ hpz9))) ?_); (try rfl))
  k_with "call type:list" => (k_here; k_dflt (refine' list_D rfl (by k_asm) (by k_asm) (by k_mem) (by k_asm) (by k_asm) (by k_asm) ?_); intro Bz9 cz9 hz9 tkz9 vsz9 Fz9 Nz9 l1z9 hiz9 h64z9 hszz9; (try k_lt l1z9); (try k_sweep); revert Bz9 cz9 hz9 tkz9 vsz9 Fz9 Nz9 l1z9 hiz9 h64z9 hszz9; intro _ _ _ _ _ _ _ _ _ _ _)
  k_with "call builtin:sorted" => (k_here; k_dflt (refine' sorted_L (by k_asm) (by k_asm) (by k_mem) (by k_asm) (by k_asm) ?_); intro Bz9 vsz9 nsz9 cz9 hz9 Fz9 Nz9 l1z9 hiz9 hpmz9 h64z9 hszz9; (try k_lt l1z9); (try k_sweep); revert Bz9 vsz9 nsz9 cz9 hz9 Fz9 Nz9 l1z9 hiz9 hpmz9 h64z9 hszz9; intro _ _ _ _ _ _ _ _ _ _ _ _)
  k_with "call builtin:dict.pop" => (k_here; k_dflt (refine' pop_C (by k_asm) (by k_asm) (by k_updF) (by k_asm) (by k_asm) (by k_asm) ?_); intro hz9 oz9 vz9 Fz9 Nz9 hdz9; (try dsimp only at Nz9); (try k_sweep); revert hz9 oz9 vz9 Fz9 Nz9 hdz9; intro _ _ _ _ _ _)
  k_with "getMethod ref" => (k_here; (with_reducible show wpAny _ _ (getMethod (Value.ref _) (Str.ofString "pop") _) _ _ _); k_dflt (refine' popm_D (by k_asm) (by k_mem) (by k_asm) ?_))
  k_with "eval Name" => (k_here; k_dflt (refine' nameX_L (by k_asm) (by first | exact rfl | assumption) ?_ (by rfl) (by rfl); k_whole))
  k_with "k_ne" => ((refine neN ?_); (try dsimp only); first | assumption | exact Ne.symm (by assumption) | omega)
  k_with "k_units" => (first | exact Nat.le_of_ble_eq_true rfl | (simp only [ktrTop, units_deeper, units_in1, cLine_is]; omega) | ((try dsimp only [ktrTop, Around.deeper, Around.in1, Around.under]); rw [cLine_is]; omega))
  k_with "compareOp In int ref" => (k_here; k_dflt (first | (refine' in_list_ints (by first | exact led_list (by k_asm) (by k_mem) | exact base_list (by k_asm) (by k_asm)) (by first | k_asm | exact .cons _ _ .nil | exact .nil) ?_; k_whole) | (refine' in_E (by k_asm) (by k_asm) (by k_asm) (by k_asm) ?_)))
  k_with "compareOp NotEq ref ref" => (k_here; k_dflt (refine' ne_E (by k_asm) (by k_mem) (by k_mem) (by k_asm) (by k_asm) (by k_asm) (by k_asm) (by k_units) ?_))
  k_with "binaryOp Add ref ref" => (k_here; k_dflt (refine' add_L (by k_asm) (by k_asm) (by first | exact led_list (by k_asm) (by k_mem) | exact base_list (by k_asm) (by k_asm)) (by first | exact led_list (by k_asm) (by k_mem) | exact base_list (by k_asm) (by k_asm)) (by first | k_asm | exact .cons _ _ .nil | exact .nil) (by first | k_asm | exact .cons _ _ .nil | exact .nil) (by first | k_asm | (simp only [List.length_cons, List.length_nil, sizeLine_eq]; omega)) ?_); intro hz9 Dz9 Fz9 Nz9 l1z9 hiz9; (try k_lt l1z9); (try k_sweep); revert hz9 Dz9 Fz9 Nz9 l1z9 hiz9; intro _ _ _ _ _ _)
  k_with "call builtin:dict.get" => (k_here; k_dflt (first | (refine' get_V (by k_asm) (by k_mem) (by k_asm) (by k_asm) (by first | k_asm | exact vaSame _ _ _) ?_) | (refine' get_N (by k_asm) (by k_mem) (by k_asm) (by k_asm) (by k_asm) ?_)))
  k_with "call type:list" => (k_here; k_dflt (refine' copy_L (by k_asm) (by k_asm) (by k_mem) (by k_asm) ?_); intro Bz9 cz9 hz9 tkz9 Fz9 Nz9 l1z9; (try k_lt l1z9); (try k_sweep); revert Bz9 cz9 hz9 tkz9 Fz9 Nz9 l1z9; intro _ _ _ _ _ _ _)
  k_with "call builtin:list.extend" => (k_here; k_dflt (refine' ext_L (by k_asm) (by k_asm) (by k_updF) (by k_mem) (by first | k_asm | exact .cons _ _ .nil | exact .nil) (by first | k_asm | exact .cons _ _ .nil | exact .nil) (by first | k_asm | (simp only [List.length_cons, List.length_nil, sizeLine_eq]; omega)) ?_); intro hz9 nz9 Fz9 Nz9 hiz9; (try dsimp only at Nz9); (try k_sweep); revert hz9 nz9 Fz9 Nz9 hiz9; intro _ _ _ _ _)
  k_with "k_all" => with_reducible assumption
  k_with "subscriptTail" => (k_here; (with_reducible show wpAny _ _ (subscriptTail _ _ (Value.ref _) (Value.int _ _)) _ _ _); k_dflt (refine' item_V (by k_asm) (by k_mem) (by k_asm) (by k_asm) ?_ (by with_unfolding_all rfl)))
  k_with "compareOp Eq ref ref" => (k_here; k_dflt (refine' ke_eq_ints (by first | exact led_list (by k_asm) (by k_mem) | exact base_list (by k_asm) (by k_asm)) (by first | exact led_list (by k_asm) (by k_mem) | exact base_list (by k_asm) (by k_asm)) (by first | k_asm | exact .cons _ _ .nil | exact .nil) (by first | k_asm | exact .cons _ _ .nil | exact .nil) (by k_units) ?_))
  k_with "k_mem" => (with_reducible refine memOf ?_; with_reducible assumption)
  k_with "subscriptTail" => (k_here; (with_reducible show wpAny _ _ (subscriptTail _ _ (Value.ref _) (Value.str _ _)) _ _ _); k_dflt (refine' item_S (by k_asm) (by k_mem) (by k_asm) (by rfl) ?_ (by with_unfolding_all rfl)))
  k_with "compareOp NotEq ref ref" => (k_here; k_dflt (refine' ne_ints_same (by exact led_list (by k_asm) (by k_mem)) (by exact led_list (by k_asm) (by k_mem)) (by k_asm) (by k_asm) (by k_units) ?_))
  trivial
variable {dp un : Nat} {gd : Option (List Code)} {cn : Str} {fa : Addr} {A₀ : Around} {base g : Heap} {L : Addr} {m : Str → Option Value} {s : Shared} {Q : Flow → Shared → Prop} {E : Value → Shared → Prop}
theorem s_words {q : LS} {TB SS DK RC : Addr} {fy D R X : List (Addr × Obj)} {r : RecSt} (ok : q.Ok) (hc6 : (L + 6, q.oRows) ∈ fy) (hc5 : (L + 5, q.oHooks) ∈ fy) (B' : Below A₀ base [] g) (X' : (hd.heap_1 w.params).In g) (T' : Top p loose mean mg mb g) (hdp : dp + 30 < 1000) (hu : un + 800 < 8000)
    (F : Fr g L s.heap m) (kp : Keep q DK RC TB SS m) (N : News g L s.heap (fy ++ (D ++ (R ++ X)))) (oR : Own (Rec prog w RC r) R) (oX : Own (XC prog w q TB SS r) X) (sp : Sep fy D R X) (hrow : RowsOk r.rows) (hev : ∀ w ns, r.every w = some ns → ns.length < 60)
    (hk : ∀ h' tk' m' R' X', Fr g L h' m' → Keep q DK RC TB SS m' → News g L h' (fy ++ (D ++ (R' ++ X'))) → Own (Rec prog w RC r) R' → Own (XC prog w q TB SS r) X' → Sep fy D R' X' → Q .next { s with heap := h', toks := tk' }) :
    wpAny (model prog w) (ktrTop dp un gd cn lawScope L fa (.ref 465) (lawCl L) []) (exec (stmtAt lap2 5) (envX cn lawScope L fa (.ref 465) (lawCl L))) Q E s := by
  refine hideG fun GG hGG => ?_
  suffices kk : ∀ sc, lawScope = sc → GG by exact kk _ rfl
  intro sc hsc
  refine hGG ?_; clear hGG GG
  refine hideG fun GG hGG => ?_
  suffices kk : ∀ st, stmtAt lap2 5 = st → GG by exact kk _ rfl
  intro st hst
  refine hGG ?_; clear hGG GG
  rw [hsc, hst]
  conv at hsc => lhs; whnf
  conv at hst => lhs; whnf
  subst hsc hst
  have hd6 := ok.rows
  have hd5 := ok.hooks
  refine wpAny_For ?_
  repeat' (k_extra "W1")
  (with_reducible rename News _ _ _ _ => N0)
  (with_reducible rename Fr _ _ _ _ => F0)
  (with_reducible rename ∀ (p : Addr × Obj), p ∈ fy ++ (D ++ (R ++ X)) → @LT.lt Nat _ p.1 _ => lt0)
  rename_i DT _
  refine hideG fun GG hGG => ?_
  suffices kk : ∀ vsT, vsT.length = 6 → IntsAre vsT [0, 1, 2, 3, 7, 8] → News g L _ ((DT, tupOf vsT 0) :: (fy ++ (D ++ (R ++ X)))) → GG by exact kk _ rfl (.cons _ _ (.cons _ _ (.cons _ _ (.cons _ _ (.cons _ _ (.cons _ _ .nil)))))) N0
  intro vsT hvsT ivT N0
  refine hGG ?_; clear hGG GG
  refine Iter_tup (g := g) (L := L) (items := vsT.toArray) rfl F0 (nw₀ := (DT, tupOf vsT 0) :: (fy ++ (D ++ (R ++ X)))) N0
    (fun i m' nw => ∃ R X, Keep q DK RC TB SS m' ∧ nw = (DT, tupOf vsT 0) :: (fy ++ (D ++ (R ++ X))) ∧ Own (Rec prog w RC r) R ∧ Own (XC prog w q TB SS r) X ∧ Sep ((DT, tupOf vsT 0) :: fy) D R X) ?_ ?_ ?_ ?_
  · rintro i m' nw h ⟨R, X, kp, rfl, _⟩ F N
    exact ⟨_, (N _ (.head _)).1, rfl, _, rfl⟩
  · exact ⟨R, X, kp, rfl, oR, oX, sp.add fun p hp => Nat.ne_of_lt (lt0 p (List.mem_append_right _ hp))⟩
  · clear kp oR oX sp lt0
    rintro i v it oi h tk m' nw hx ⟨R, X, kp, rfl, oR, oX, sp⟩ offi F N
    obtain ⟨wd, tw, rfl, hwd⟩ := IntsAre.at ivT i v (by simpa using hx)
    have hw09 : 0 ≤ wd ∧ wd < 9 := by
      exact (by decide : ∀ wd ∈ ([0, 1, 2, 3, 7, 8] : List Int), 0 ≤ wd ∧ wd < 9) wd (List.mem_of_getElem? hwd)
    refine hideG fun GG hGG => ?_
    obtain ⟨hw0, hw9⟩ := hw09
    obtain ⟨kp1, kp2, kp3, kp4, kp5⟩ := id kp
    have spi : Sep ((it, oi) :: (DT, tupOf vsT 0) :: fy) D R X := sp.add fun p hp => offi p (.tail _ (List.mem_append_right _ hp))
    suffices kk : ∀ rest, rest = fy ++ (D ++ (R ++ X)) → GG by exact kk _ rfl
    intro rest hrest
    refine hGG ?_; clear hGG GG
    rw [← hrest] at N
    have mc6 : (L + 6, q.oRows) ∈ rest := by rw [hrest]; exact List.mem_append_left _ hc6
    have mc5 : (L + 5, q.oHooks) ∈ rest := by rw [hrest]; exact List.mem_append_left _ hc5
    dsimp only
    repeat' (k_extra "W1")
    (with_reducible rename News _ _ _ _ => N1)
    (with_reducible rename Fr _ _ _ _ => F1)
    rw [hrest] at N1
    change wpAny _ (ktrTop dp un gd cn _ L fa _ (lawCl L) []) _ _ _ _
    refine call_X (f := (it, oi) :: (DT, tupOf vsT 0) :: fy) (functions_of_x (prog := prog) (w := w) (p := p) (loose := loose) (mean := mean) (mg := mg) (mb := mb) (q := q) (TB := TB) (SS := SS) (r := r) hrow hev) (fun v => Star.good xc_good listV_good) B' X' T' rfl (by omega) (by omega) F1 N1 oX spi (fun q hq => nomatch hq) ?_
    intro v2 h2 tk2 X2 F2 N2 O2 sp2
    refine hideG fun GG hGG => ?_
    obtain ⟨X3, wa, rfl, oX3, Oa, disA⟩ := own_star xc_good listV_good (fun p hp => (N2 p (List.mem_append_right _ (List.mem_append_right _ (List.mem_append_right _ hp)))).1) O2
    obtain ⟨DA, va, ca, rfl, rfl, iva⟩ := own_listV Oa (fun p hp => (N2 p (List.mem_append_right _ (List.mem_append_right _ (List.mem_append_right _ (List.mem_append_right _ hp))))).1)
    have sp3 : Sep ((it, oi) :: (DT, tupOf vsT 0) :: fy) D R X3 := ⟨sp2.fD, sp2.fR, fun p hp z => sp2.fX p hp (by rw [List.map_append]; exact List.mem_append_left _ z), sp2.DR, fun p hp z => sp2.DX p hp (by rw [List.map_append]; exact List.mem_append_left _ z), fun p hp z => sp2.RX p hp (by rw [List.map_append]; exact List.mem_append_left _ z)⟩
    suffices kk : ∀ nsA, nsA = lawCalled (r.every wd) (r.rows wd) → GG by exact kk _ rfl
    intro nsA hnsA
    refine hGG ?_; clear hGG GG
    rw [← hnsA] at iva
    have N3 : News g L h2 (((DA, listOf va.toArray ca) :: (it, oi) :: (DT, tupOf vsT 0) :: fy) ++ (D ++ (R ++ X3))) := fun p hp => N2 p (by
      refine subOf ?_ hp; lcg_off)
    have spA : Sep ((DA, listOf va.toArray ca) :: (it, oi) :: (DT, tupOf vsT 0) :: fy) D R X3 := by
      refine sp3.add fun p hp e => ?_
      rcases List.mem_append.mp hp with h | h
      · exact sp2.DX p h (by simp [e])
      · rcases List.mem_append.mp h with h | h
        · exact sp2.RX p h (by simp [e])
        · exact disA p h (by simp [e])
    clear N2 O2 Oa sp2
    dsimp only
    repeat' (k_extra "W1")
    change wpAny _ (ktrTop dp un gd cn _ L fa _ (lawCl L) []) _ _ _ _
    refine call_R (f := (DA, listOf va.toArray ca) :: (it, oi) :: (DT, tupOf vsT 0) :: fy) (Spec.toS (law_called_s (prog := prog) (w := w) (p := p) (loose := loose) (mean := mean) (mg := mg) (mb := mb) (RC := RC) (r := r) (rowsOk_small hrow wd) (hev wd))) (St := []) (fun v => Star.good rec_good listV_good) B' X' T' rfl (by omega) (by omega) F2 N3 oR spA (fun q hq => nomatch hq) ?_
    intro v4 h4 tk4 R4 F4 N4 O4 sp4
    refine hideG fun GG hGG => ?_
    obtain ⟨R5, wb, rfl, oR5, Ob, disB⟩ := own_star rec_good listV_good (fun p hp => (N4 p (List.mem_append_right _ (List.mem_append_right _ (List.mem_append_left _ hp)))).1) O4
    obtain ⟨DB, vb, cb, rfl, rfl, ivb⟩ := own_listV Ob (fun p hp => (N4 p (List.mem_append_right _ (List.mem_append_right _ (List.mem_append_left _ (List.mem_append_right _ hp))))).1)
    rw [← hnsA] at ivb
    have sp5 : Sep ((DA, listOf va.toArray ca) :: (it, oi) :: (DT, tupOf vsT 0) :: fy) D R5 X3 := ⟨sp4.fD, fun p hp z => sp4.fR p hp (by rw [List.map_append]; exact List.mem_append_left _ z), sp4.fX, fun p hp z => sp4.DR p hp (by rw [List.map_append]; exact List.mem_append_left _ z), sp4.DX, fun p hp => sp4.RX p (List.mem_append_left _ hp)⟩
    suffices kk : ∀ rest2, rest2 = fy ++ (D ++ (R5 ++ X3)) → GG by exact kk _ rfl
    intro rest2 hrest2
    refine hGG ?_; clear hGG GG
    have N5 : News g L h4 ((DB, listOf vb.toArray cb) :: (DA, listOf va.toArray ca) :: (it, oi) :: (DT, tupOf vsT 0) :: rest2) := fun p hp => N4 p (by
      rw [hrest2] at hp
      refine subOf ?_ hp; lcg_off)
    clear N4 O4 Ob sp4
    dsimp only
    repeat' (k_extra "W1")
    (with_reducible rename News _ _ _ _ => N6)
    (with_reducible rename Fr _ _ _ _ => F6)
    refine LedEnd.mk (nw' := (DT, tupOf vsT 0) :: (fy ++ (D ++ (R5 ++ X3)))) F6 (fun p hp => N6 p (by
      rw [hrest2]
      refine subOf ?_ hp; lcg_off)) (fun p hp => ?_) ⟨R5, X3, ⟨kp1, kp2, kp3, kp4, kp5⟩, rfl, oR5, oX3, sp5.sub fun p hp => ⟨p, .tail _ (.tail _ hp), rfl⟩⟩
    rcases List.mem_cons.mp hp with rfl | hp
    · exact offi (DT, _) (.head _)
    · rcases List.mem_append.mp hp with h | h
      · exact offi p (.tail _ (List.mem_append_left _ h))
      · rcases List.mem_append.mp h with h | h
        · exact fun e => sp5.fD (it, oi) (.tail _ (.head _)) (List.mem_map.mpr ⟨p, h, e⟩)
        · rcases List.mem_append.mp h with h | h
          · exact fun e => sp5.fR (it, oi) (.tail _ (.head _)) (List.mem_map.mpr ⟨p, h, e⟩)
          · exact fun e => sp5.fX (it, oi) (.tail _ (.head _)) (List.mem_map.mpr ⟨p, h, e⟩)
  · rintro h tk m' nw ⟨R, X, kp, rfl, oR, oX, sp⟩ F N
    dsimp only
    repeat' (k_extra "W1")
    exact hk _ _ _ R X F kp (fun p hp => N p (.tail _ hp)) oR oX (sp.sub fun p hp => ⟨p, .tail _ hp, rfl⟩)
end
section
theorem wtLaw6 : True := by
  w_top off
  trivial
theorem kwLaw61 : True := by
  k_with_none
  k_with "W1" => ((fail_if_success (with_reducible show wpAny _ _ (PySem.call (Value.ref _) _ _) _ _ _)); (fail_if_success (with_reducible show wpAny _ _ (pyIter _) _ _ _)); (fail_if_success (with_reducible show wpAny _ _ (PySem.exec (Stmt.For _ _ _ _ _) _) _ _ _)); first | (k_unfold; (try dsimp only)) | walk1 | (dsimp only; walk1) | fail "no step")
  k_with "k_enter" => (first | (refine' code_def (by k_asm) (by k_asm) (by k_asm) (by k_asm) (by k_asm) rfl rfl (by first | exact rfl | assumption) (by k_is) (by k_is) (by k_room) (by first | exact BindsTo.of_eq rfl | exact binds_K (by k_in) rfl (by k_is) rfl rfl rfl) (by exact locs rfl) ?_ (by exact rfl) (by exact rfl) (by exact rfl) (by decide); k_whole; intro _ _ _ _ _ _ Bz9 _ _; (try dsimp only); (try k_lift Bz9); (try k_fold)) | (refine' code_defC (by k_asm) (by k_asm) (by k_asm) (by k_asm) (by k_asm) rfl rfl (by first | exact rfl | assumption) (by k_is) (by k_is) (by k_room) (by first | exact BindsTo.of_eq rfl | exact binds_K (by k_in) rfl (by k_is) rfl rfl rfl) (by exact rfl) (by decide +kernel) ?_ (by exact rfl) (by exact rfl) (by exact rfl); k_whole; intro _ _ _ _ _ _ _ Nz9 Yz9 Bz9 _ _ lz9; (try k_lt lz9); k_cells Yz9; (try simp only [List.cons_append, List.nil_append] at Nz9); (try dsimp only); (try k_lift Bz9); (try k_fold)) | fail)
  k_with "execs cons" => (k_fold; (first | show wpAny _ AB (PySem.execs _ eB) _ _ _ | (show (let eB := _; let AB := _; wpAny _ AB (PySem.execs _ eB) _ _ _); intro eB AB)); refine wpAny_execs_cons ?_)
  k_with "omega" => first | exact Nat.le_of_ble_eq_true rfl | with_reducible assumption | exact Mine.o1 (by with_reducible assumption) (by exact rfl) | exact Mine.o3 (by with_reducible assumption) (by exact rfl) | exact Mine.o2 (by with_reducible assumption) (by exact rfl) | exact Mine.o4 (by with_reducible assumption) (by exact rfl) | exact Mine.o5 (by with_reducible assumption) (by exact rfl) | exact Mine.o6 (by with_reducible assumption) (by exact rfl) | exact Mine.o7 (by with_reducible assumption) (by exact rfl) | exact Mine.o8 (by with_reducible assumption) (by exact rfl) | exact Mine.o9 (by with_reducible assumption) (by exact rfl) | exact Mine.o10 (by with_reducible assumption) (by exact rfl) | exact Mine.o11 (by with_reducible assumption) (by exact rfl) | exact Mine.o12 (by with_reducible assumption) (by exact rfl) | exact Mine.o13 (by with_reducible assumption) (by exact rfl) | exact Nat.ne_of_lt (by with_reducible assumption) | exact Nat.ne_of_gt (by with_reducible assumption) | exact Nat.le_of_lt (by with_reducible assumption) | fail
  k_with "k_room" => ((try simp only [depth_mark, depth_under_make, depth_under_kw, depth_in1, depth_deeper]); first | assumption | (show _ < 1000; (try dsimp only); omega))
  k_with "k_ne" => ((refine neN ?_); (try dsimp only); first | assumption | exact Ne.symm (by assumption))
  k_with "compareOp In int ref" => (k_here; k_dflt (first | (refine' in_C (by k_asm) (by k_mem) (by k_asm) (by k_asm) (by k_asm) ?_) | (refine' in_I (by k_asm) (by k_mem) (by k_asm) (by k_asm) (by k_asm) ?_) | (refine' in_B (by k_asm) (by k_mem) (by k_asm) (by k_asm) (by k_asm) ?_)))
  k_with "compareOp NotIn int ref" => (k_here; k_dflt ( (refine' notin_C (by k_asm) (by k_mem) (by k_asm) (by k_asm) (by k_asm) ?_)))
  k_with "call builtin:dict.get" => (k_here; k_dflt (first | (refine' get_I (by k_asm) (by k_mem) (by k_asm) (by k_asm) (by k_asm) ?_; refine ⟨fun _ _ _ => ?_, fun _ => ?_⟩) | (refine' get_B (by k_asm) (by k_mem) (by k_asm) (by k_asm) (by k_asm) ?_; (try simp only [Bool.or_false]))))
  k_with "getMethod ref" => (k_here; (with_reducible show wpAny _ _ (getMethod (Value.ref _) (Str.ofString "get") _) _ _ _); k_dflt (refine' kdg_method (knd := PySem.intKind _ _) (by k_asm) (by k_mem) (by k_asm) ?_))
  k_with "subscriptTail" => (k_here; (with_reducible show wpAny _ _ (subscriptTail _ _ (Value.ref _) (Value.int _ _)) _ _ _); k_dflt (refine' item_C (by k_asm) (by k_mem) (by k_asm) (by k_asm) (by k_asm) ?_ (by with_unfolding_all rfl); intro _ _ _ _))
  k_with "setItem ref int" => (k_here; k_dflt (refine' kda_set (knd := PySem.intKind _ _) (by k_asm) (by k_asm) (by k_updF) (by k_asm) (intKind_is _ _ _ _) (by exact KOK.line (by k_asm) (by k_asm)) ?_; intro hz9 oz9 Fz9 Nz9 hdz9; (try dsimp only at Nz9); (try k_sweep); revert hz9 oz9 Fz9 Nz9 hdz9; intro _ _ _ _ _))
  trivial
variable {prog : Program} {w : World} {p : Program} {loose : List Str} {mean : ExcName → Option Value} {mg mb : Str → Option Value}
theorem kwLaw62 : True := by
  k_with "eval ListComp" => (k_here; k_dflt (refine LCt.ListComp_T (F₀ := by k_asm) (by with_unfolding_all rfl) (by decide) (by rfl) (by decide) (by rfl) ?_))
  k_with "CompSrcT" => (k_here; k_dflt (first | (refine' LCt.CompSrcT.ledger rfl (by k_asm) (by k_asm) (by k_mem) (by k_asm) ?_) | (refine' LCt.CompSrcT.base rfl (by k_asm) (by k_asm) (by k_asm) (by k_asm) ?_)); intro _; k_dflt (refine' flt_rest (by k_asm) (by k_asm) (by first | exact .inl (by k_asm) | exact .inr ⟨_, by k_mem, rfl, _, rfl⟩) rfl rfl (by decide) (fun _ _ _ _ _ _ _ _ _ _ _ _ _ _ _ _ _ _ _ => ?_) (fun _ _ => ?_)); (all_goals (try (simp only [LCg.Off3, and_true] at off'))))
  k_with "FltT" => (k_here; k_dflt (refine' flt_t (by k_asm) (by k_asm) (by intro pz9 hpz9; first | exact hpz9 | exact .tail _ hpz9 | exact .tail _ (.tail _ hpz9) | exact .tail _ (.tail _ (.tail _ hpz9))) ?_); (try rfl))
  k_with "call type:list" => (k_here; k_dflt (refine' list_D rfl (by k_asm) (by k_asm) (by k_mem) (by k_asm) (by k_asm) (by k_asm) ?_); intro Bz9 cz9 hz9 tkz9 vsz9 Fz9 Nz9 l1z9 hiz9 h64z9 hszz9; (try k_lt l1z9); (try k_sweep); revert Bz9 cz9 hz9 tkz9 vsz9 Fz9 Nz9 l1z9 hiz9 h64z9 hszz9; intro _ _ _ _ _ _ _ _ _ _ _)
  k_with "call builtin:sorted" => (k_here; k_dflt (refine' sorted_L (by k_asm) (by k_asm) (by k_mem) (by k_asm) (by k_asm) ?_); intro Bz9 vsz9 nsz9 cz9 hz9 Fz9 Nz9 l1z9 hiz9 hpmz9 h64z9 hszz9; (try k_lt l1z9); (try k_sweep); revert Bz9 vsz9 nsz9 cz9 hz9 Fz9 Nz9 l1z9 hiz9 hpmz9 h64z9 hszz9; intro _ _ _ _ _ _ _ _ _ _ _ _)
  k_with "call builtin:dict.pop" => (k_here; k_dflt (refine' pop_C (by k_asm) (by k_asm) (by k_updF) (by k_asm) (by k_asm) (by k_asm) ?_); intro hz9 oz9 vz9 Fz9 Nz9 hdz9; (try dsimp only at Nz9); (try k_sweep); revert hz9 oz9 vz9 Fz9 Nz9 hdz9; intro _ _ _ _ _ _)
  k_with "getMethod ref" => (k_here; (with_reducible show wpAny _ _ (getMethod (Value.ref _) (Str.ofString "pop") _) _ _ _); k_dflt (refine' popm_D (by k_asm) (by k_mem) (by k_asm) ?_))
  k_with "eval Name" => (k_here; k_dflt (refine' nameX_L (by k_asm) (by first | exact rfl | assumption) ?_ (by rfl) (by rfl); k_whole))
  k_with "k_ne" => ((refine neN ?_); (try dsimp only); first | assumption | exact Ne.symm (by assumption) | omega)
  k_with "k_units" => (first | exact Nat.le_of_ble_eq_true rfl | (simp only [ktrTop, units_deeper, units_in1, cLine_is]; omega) | ((try dsimp only [ktrTop, Around.deeper, Around.in1, Around.under]); rw [cLine_is]; omega))
  k_with "compareOp In int ref" => (k_here; k_dflt (first | (refine' in_list_ints (by first | exact led_list (by k_asm) (by k_mem) | exact base_list (by k_asm) (by k_asm)) (by first | k_asm | exact .cons _ _ .nil | exact .nil) ?_; k_whole) | (refine' in_E (by k_asm) (by k_asm) (by k_asm) (by k_asm) ?_)))
  k_with "compareOp NotEq ref ref" => (k_here; k_dflt (refine' ne_E (by k_asm) (by k_mem) (by k_mem) (by k_asm) (by k_asm) (by k_asm) (by k_asm) (by k_units) ?_))
  k_with "binaryOp Add ref ref" => (k_here; k_dflt (refine' add_L (by k_asm) (by k_asm) (by first | exact led_list (by k_asm) (by k_mem) | exact base_list (by k_asm) (by k_asm)) (by first | exact led_list (by k_asm) (by k_mem) | exact base_list (by k_asm) (by k_asm)) (by first | k_asm | exact .cons _ _ .nil | exact .nil) (by first | k_asm | exact .cons _ _ .nil | exact .nil) (by first | k_asm | (simp only [List.length_cons, List.length_nil, sizeLine_eq]; omega)) ?_); intro hz9 Dz9 Fz9 Nz9 l1z9 hiz9; (try k_lt l1z9); (try k_sweep); revert hz9 Dz9 Fz9 Nz9 l1z9 hiz9; intro _ _ _ _ _ _)
  k_with "call builtin:dict.get" => (k_here; k_dflt (first | (refine' get_V (by k_asm) (by k_mem) (by k_asm) (by k_asm) (by first | k_asm | exact vaSame _ _ _) ?_) | (refine' get_N (by k_asm) (by k_mem) (by k_asm) (by k_asm) (by k_asm) ?_)))
  k_with "call type:list" => (k_here; k_dflt (refine' copy_L (by k_asm) (by k_asm) (by k_mem) (by k_asm) ?_); intro Bz9 cz9 hz9 tkz9 Fz9 Nz9 l1z9; (try k_lt l1z9); (try k_sweep); revert Bz9 cz9 hz9 tkz9 Fz9 Nz9 l1z9; intro _ _ _ _ _ _ _)
  k_with "call builtin:list.extend" => (k_here; k_dflt (refine' ext_L (by k_asm) (by k_asm) (by k_updF) (by k_mem) (by first | k_asm | exact .cons _ _ .nil | exact .nil) (by first | k_asm | exact .cons _ _ .nil | exact .nil) (by first | k_asm | (simp only [List.length_cons, List.length_nil, sizeLine_eq]; omega)) ?_); intro hz9 nz9 Fz9 Nz9 hiz9; (try dsimp only at Nz9); (try k_sweep); revert hz9 nz9 Fz9 Nz9 hiz9; intro _ _ _ _ _)
  k_with "k_all" => with_reducible assumption
  k_with "subscriptTail" => (k_here; (with_reducible show wpAny _ _ (subscriptTail _ _ (Value.ref _) (Value.int _ _)) _ _ _); k_dflt (refine' item_V (by k_asm) (by k_mem) (by k_asm) (by k_asm) ?_ (by with_unfolding_all rfl)))
  k_with "compareOp Eq ref ref" => (k_here; k_dflt (refine' ke_eq_ints (by first | exact led_list (by k_asm) (by k_mem) | exact base_list (by k_asm) (by k_asm)) (by first | exact led_list (by k_asm) (by k_mem) | exact base_list (by k_asm) (by k_asm)) (by first | k_asm | exact .cons _ _ .nil | exact .nil) (by first | k_asm | exact .cons _ _ .nil | exact .nil) (by k_units) ?_))
  k_with "k_mem" => (with_reducible refine memOf ?_; with_reducible assumption)
  k_with "subscriptTail" => (k_here; (with_reducible show wpAny _ _ (subscriptTail _ _ (Value.ref _) (Value.str _ _)) _ _ _); k_dflt (refine' item_S (by k_asm) (by k_mem) (by k_asm) (by rfl) ?_ (by with_unfolding_all rfl)))
  trivial
variable {dp un : Nat} {gd : Option (List Code)} {cn : Str} {fa : Addr} {A₀ : Around} {base g : Heap} {L : Addr} {m : Str → Option Value} {s : Shared} {Q : Flow → Shared → Prop} {E : Value → Shared → Prop}
theorem s_symbols {q : LS} {TB SS DK RC : Addr} {fy D R X : List (Addr × Obj)} {oS : Obj} {v0 : Option Value} {r : RecSt} (ok : q.Ok) (hc8 : (L + 8, q.oVar) ∈ fy) (hc3 : (L + 3, q.oHere) ∈ fy) (hfyL : ∀ p ∈ fy, p.1 ≠ L + 1) (B' : Below A₀ base [] g) (X' : (hd.heap_1 w.params).In g) (T' : Top p loose mean mg mb g) (hdp : dp + 30 < 1000) (hu : un + 800 < 8000)
    (F : Fr g L s.heap m) (kp : Keep q DK RC TB SS m) (N : News g L s.heap (((L + 1, oS) :: fy) ++ (D ++ (R ++ X)))) (dS : oS.data = .cell v0) (oR : Own (Rec prog w RC r) R) (oX : Own (XC prog w q TB SS r) X) (sp : Sep ((L + 1, oS) :: fy) D R X)
    (hk : ∀ h' tk' m' oS' v' R' X', Fr g L h' m' → Keep q DK RC TB SS m' → News g L h' (((L + 1, oS') :: fy) ++ (D ++ (R' ++ X'))) → oS'.data = .cell v' → Own (Rec prog w RC r) R' → Own (XC prog w q TB SS r) X' → Sep ((L + 1, oS') :: fy) D R' X' → Q .next { s with heap := h', toks := tk' }) :
    wpAny (model prog w) (ktrTop dp un gd cn lawScope L fa (.ref 465) (lawCl L) []) (exec (stmtAt lap2 4) (envX cn lawScope L fa (.ref 465) (lawCl L))) Q E s := by
  refine hideG fun GG hGG => ?_
  suffices kk : ∀ sc, lawScope = sc → GG by exact kk _ rfl
  intro sc hsc
  refine hGG ?_; clear hGG GG
  refine hideG fun GG hGG => ?_
  suffices kk : ∀ st, stmtAt lap2 4 = st → GG by exact kk _ rfl
  intro st hst
  refine hGG ?_; clear hGG GG
  rw [hsc, hst]
  conv at hsc => lhs; whnf
  conv at hst => lhs; whnf
  subst hsc hst
  have hd8 := ok.var
  have hd3 := ok.here
  refine wpAny_For ?_
  repeat' (k_extra "W1")
  (with_reducible rename News _ _ _ _ => N0)
  (with_reducible rename Fr _ _ _ _ => F0)
  (with_reducible rename IsRange _ _ _ _ _ _ _ _ => rg)
  refine Iter_range (g := g) (L := L) (n := 6) rfl rg (by decide) (by decide) F0 (nw₀ := ((L + 1, oS) :: fy) ++ (D ++ (R ++ X))) (fun p hp => N0 p (by first | exact hp | exact .tail _ hp))
    (fun i m' nw => ∃ oS v0 R X, Keep q DK RC TB SS m' ∧ nw = ((L + 1, oS) :: fy) ++ (D ++ (R ++ X)) ∧ oS.data = .cell v0 ∧ Own (Rec prog w RC r) R ∧ Own (XC prog w q TB SS r) X ∧ Sep ((L + 1, oS) :: fy) D R X) ?_ ?_ ?_ (fun _ _ => rfl)
  · exact ⟨oS, v0, R, X, kp, rfl, dS, oR, oX, sp⟩
  · clear kp dS oR oX sp
    rintro i it oi h tk m' nw t' hi ⟨oS, v0, R, X, kp, rfl, dS, oR, oX, sp⟩ offi F N
    rw [Int.zero_add]
    obtain ⟨kp1, kp2, kp3, kp4, kp5⟩ := id kp
    have hiL : @Ne Nat it (L + 1) := Ne.symm (offi (L + 1, oS) (.head _))
    have hrL : ∀ p ∈ fy ++ (D ++ (R ++ X)), p.1 ≠ L + 1 := fun p hp e => by
      rcases List.mem_append.mp hp with h | h
      · exact hfyL p h e
      · rcases List.mem_append.mp h with h | h
        · exact sp.fD (L + 1, oS) (.head _) (List.mem_map.mpr ⟨p, h, e⟩)
        · rcases List.mem_append.mp h with h | h
          · exact sp.fR (L + 1, oS) (.head _) (List.mem_map.mpr ⟨p, h, e⟩)
          · exact sp.fX (L + 1, oS) (.head _) (List.mem_map.mpr ⟨p, h, e⟩)
    refine hideG fun GG hGG => ?_
    suffices kk : ∀ rest, rest = fy ++ (D ++ (R ++ X)) → GG by exact kk _ rfl
    intro rest hrest
    refine hGG ?_; clear hGG GG
    simp only [List.cons_append] at N offi
    rw [← hrest] at N hrL offi
    have hri : ∀ p ∈ rest, p.1 ≠ it := fun p hp => offi p (.tail _ hp)
    have hfyI : ∀ p ∈ fy, p.1 ≠ it := fun p hp => hri p (by rw [hrest]; exact List.mem_append_left _ hp)
    have mc8 : (L + 8, q.oVar) ∈ rest := by rw [hrest]; exact List.mem_append_left _ hc8
    have mc3 : (L + 3, q.oHere) ∈ rest := by rw [hrest]; exact List.mem_append_left _ hc3
    have spi : Sep ((it, oi) :: (L + 1, oS) :: fy) D R X := sp.add fun p hp => hri p (by rw [hrest]; exact List.mem_append_right _ hp)
    dsimp only
    repeat' (k_extra "W1")
    (with_reducible rename News _ _ _ _ => N1)
    (with_reducible rename Fr _ _ _ _ => F1)
    (with_reducible rename Obj.data _ = Data.cell (some (Value.int _ _)) => dS9)
    refine hideG fun GG hGG => ?_
    suffices kk : ∀ oS9, Obj.data oS9 = Data.cell (some (Value.int (i : Int) t')) → News g L _ ((it, oi) :: (L + 1, oS9) :: rest) → GG by exact kk _ dS9 N1
    intro oS9 dS9 N1
    refine hGG ?_; clear hGG GG
    have sp1 : Sep ((it, oi) :: (L + 1, oS9) :: fy) D R X := spi.sub fun p hp => by
      rcases List.mem_cons.mp hp with rfl | hp
      · exact ⟨_, .head _, rfl⟩
      · rcases List.mem_cons.mp hp with rfl | hp
        · exact ⟨_, .tail _ (.head _), rfl⟩
        · exact ⟨p, .tail _ (.tail _ hp), rfl⟩
    rw [hrest] at N1
    change wpAny _ (ktrTop dp un gd cn _ L fa _ (lawCl L) []) _ _ _ _
    refine call_X (f := (it, oi) :: (L + 1, oS9) :: fy) (value_in_x (prog := prog) (w := w) (p := p) (loose := loose) (mean := mean) (mg := mg) (mb := mb) (q := q) (TB := TB) (SS := SS) (r := r)) (fun v => and_good xc_good) B' X' T' rfl (by omega) (by omega) F1 N1 oX sp1 (fun q hq => nomatch hq) ?_
    intro v2 h2 tk2 X2 F2 N2 O2 sp2
    obtain ⟨oX2, iv2⟩ := own_and O2 (fun p hp => (N2 p (List.mem_append_right _ (List.mem_append_right _ (List.mem_append_right _ hp)))).1)
    clear O2 hrest mc8 mc3 hrL
    dsimp only
    repeat' (k_extra "W1")
    change wpAny _ (ktrTop dp un gd cn _ L fa _ (lawCl L) []) _ _ _ _
    refine call_R (f := (it, oi) :: (L + 1, oS9) :: fy) (Spec.toS (law_value_s (prog := prog) (w := w) (p := p) (loose := loose) (mean := mean) (mg := mg) (mb := mb) (RC := RC) (r := r))) (St := []) (fun v => and_good rec_good) B' X' T' rfl (by omega) (by omega) F2 N2 oR sp2 (fun q hq => nomatch hq) ?_
    intro v3 h3 tk3 R3 F3 N3 O3 sp3
    obtain ⟨oR3, iv3⟩ := own_and O3 (fun p hp => (N3 p (List.mem_append_right _ (List.mem_append_right _ (List.mem_append_left _ hp)))).1)
    clear O3
    dsimp only
    repeat' ((fail_if_success (with_reducible show wpAny _ _ (compareOp CmpOp.NotEq _ _) _ _ _)); (fail_if_success (with_reducible show wpAny _ _ (PySem.call (Value.ref _) _ _) _ _ _)); (fail_if_success (with_reducible show wpAny _ _ (pyIter _) _ _ _)); (fail_if_success (with_reducible show wpAny _ _ (PySem.exec (Stmt.For _ _ _ _ _) _) _ _ _)); first | (k_unfold; (try dsimp only)) | walk1 | (dsimp only; walk1) | fail "no step")
    refine ne_opt iv2 iv3 ?_
    refine hideG fun GG hGG => ?_
    refine xc_vars oX2 (fun p hp => (N3 p (List.mem_append_right _ (List.mem_append_right _ (List.mem_append_right _ hp)))).1) fun Vd df au pe Hd va k1 k2 k3 t1 t2 t3 n1 k4 t4 n2 mv1 mv2 mv3 mv4 => ?_
    suffices kk : ∀ rest3, rest3 = fy ++ (D ++ (R3 ++ X2)) → GG by exact kk _ rfl
    intro rest3 hrest3
    refine hGG ?_; clear hGG GG
    simp only [List.cons_append] at N3
    rw [← hrest3] at N3
    have upX : ∀ p ∈ X2, p ∈ rest3 := fun p hp => by rw [hrest3]; exact List.mem_append_right _ (List.mem_append_right _ (List.mem_append_right _ hp))
    have nv3 := upX _ mv3
    have nv4 := upX _ mv4
    have mc3 : (L + 3, q.oHere) ∈ rest3 := by rw [hrest3]; exact List.mem_append_left _ hc3
    clear mv1 mv2 mv3 mv4
    try dsimp only
    repeat' (k_extra "W1")
    (with_reducible rename News _ _ _ _ => N4)
    (with_reducible rename Fr _ _ _ _ => F4)
    rw [hrest3] at N4
    change wpAny _ (ktrTop dp un gd cn _ L fa _ (lawCl L) []) _ _ _ _
    refine call_X (f := (it, oi) :: (L + 1, oS9) :: fy) (is_local_x (prog := prog) (w := w) (p := p) (loose := loose) (mean := mean) (mg := mg) (mb := mb) (q := q) (TB := TB) (SS := SS) (r := r)) (fun v => and_good xc_good) B' X' T' rfl (by omega) (by omega) F4 N4 oX2 sp3 (fun q hq => nomatch hq) ?_
    intro v5 h5 tk5 X5 F5 N5 O5 sp5
    refine hideG fun GG hGG => ?_
    obtain ⟨oX5, rfl⟩ := own_and O5 (fun p hp => (N5 p (List.mem_append_right _ (List.mem_append_right _ (List.mem_append_right _ hp)))).1)
    obtain ⟨⟨dD, dO, dA, dK, dE, dR, lO, lT, oRC, oD, oO, oA, oK, oE, oR, kD, kO, kA, kK, cO, cT, tm, von, EL, WL, TT⟩, rfl, l⟩ := own_rec oR3 (fun p hp => (N5 p (List.mem_append_right _ (List.mem_append_right _ (List.mem_append_left _ hp)))).1)
    obtain ⟨nd, dRC, lRC, lD, lO', lA, lK, lE, lR, iD, iO, iA, iK, iE, iR, xD, xO, xA, xK, kE, kR, fE, fR, vE, vR, ivon, tt⟩ := id l
    dsimp only at dRC iO xO lO'
    suffices kk : ∀ nw5, nw5 = ((it, oi) :: (L + 1, oS9) :: fy) ++ (D ++ (RecP.objs RC ⟨dD, dO, dA, dK, dE, dR, lO, lT, oRC, oD, oO, oA, oK, oE, oR, kD, kO, kA, kK, cO, cT, tm, von, EL, WL, TT⟩ ++ X5)) → GG by exact kk _ rfl
    intro nw5 hnw5
    refine hGG ?_; clear hGG GG
    rw [← hnw5] at N5
    have mRC : (RC, oRC) ∈ nw5 := by rw [hnw5]; exact List.mem_append_right _ (List.mem_append_right _ (List.mem_append_left _ (.head _)))
    have mdO : (dO, oO) ∈ nw5 := by rw [hnw5]; exact List.mem_append_right _ (List.mem_append_right _ (List.mem_append_left _ (.tail _ (.tail _ (.head _)))))
    have mcl : (L + 1, oS9) ∈ nw5 := by rw [hnw5]; exact .tail _ (.head _)
    clear O5 N4 F4
    dsimp only
    repeat' ((fail_if_success (with_reducible show wpAny _ _ (compareOp CmpOp.NotEq _ _) _ _ _)); (fail_if_success (with_reducible show wpAny _ _ (PySem.call (Value.ref _) _ _) _ _ _)); (fail_if_success (with_reducible show wpAny _ _ (pyIter _) _ _ _)); (fail_if_success (with_reducible show wpAny _ _ (PySem.exec (Stmt.For _ _ _ _ _) _) _ _ _)); first | (k_unfold; (try dsimp only)) | walk1 | (dsimp only; walk1) | fail "no step")
    refine ne_bool ?_
    try dsimp only
    repeat' (k_extra "W1")
    (with_reducible rename News _ _ _ _ => N6)
    (with_reducible rename Fr _ _ _ _ => F6)
    rw [hnw5] at N6
    refine LedEnd.mk (nw' := ((L + 1, oS9) :: fy) ++ (D ++ (RecP.objs RC ⟨dD, dO, dA, dK, dE, dR, lO, lT, oRC, oD, oO, oA, oK, oE, oR, kD, kO, kA, kK, cO, cT, tm, von, EL, WL, TT⟩ ++ X5))) F6 N6 (fun p hp => ?_) ⟨oS9, _, _, X5, ⟨kp1, kp2, kp3, kp4, kp5⟩, rfl, dS9, oR3, oX5, sp5.sub fun p hp => ⟨p, .tail _ hp, rfl⟩⟩
    rcases List.mem_append.mp hp with h | h
    · rcases List.mem_cons.mp h with rfl | h
      · exact Ne.symm hiL
      · exact fun e => absurd (show p.1 = it from e) (hfyI p h)
    · rcases List.mem_append.mp h with h | h
      · exact fun e => sp5.fD (it, oi) (.head _) (List.mem_map.mpr ⟨p, h, e⟩)
      · rcases List.mem_append.mp h with h | h
        · exact fun e => sp5.fR (it, oi) (.head _) (List.mem_map.mpr ⟨p, h, e⟩)
        · exact fun e => sp5.fX (it, oi) (.head _) (List.mem_map.mpr ⟨p, h, e⟩)
  · rintro h tk m' nw ⟨oS, v0, R, X, kp, rfl, dS, oR, oX, sp⟩ F N
    dsimp only
    repeat' (k_extra "W1")
    exact hk _ _ _ oS v0 R X F kp N dS oR oX sp
end
section
theorem wtLaw7 : True := by
  w_top off
  trivial
theorem kwLaw71 : True := by
  k_with_none
  k_with "W1" => ((fail_if_success (with_reducible show wpAny _ _ (PySem.call (Value.ref _) _ _) _ _ _)); (fail_if_success (with_reducible show wpAny _ _ (pyIter _) _ _ _)); (fail_if_success (with_reducible show wpAny _ _ (PySem.exec (Stmt.For _ _ _ _ _) _) _ _ _)); first | (k_unfold; (try dsimp only)) | walk1 | (dsimp only; walk1) | fail "no step")
  k_with "k_enter" => (first | (refine' code_def (by k_asm) (by k_asm) (by k_asm) (by k_asm) (by k_asm) rfl rfl (by first | exact rfl | assumption) (by k_is) (by k_is) (by k_room) (by first | exact BindsTo.of_eq rfl | exact binds_K (by k_in) rfl (by k_is) rfl rfl rfl) (by exact locs rfl) ?_ (by exact rfl) (by exact rfl) (by exact rfl) (by decide); k_whole; intro _ _ _ _ _ _ Bz9 _ _; (try dsimp only); (try k_lift Bz9); (try k_fold)) | (refine' code_defC (by k_asm) (by k_asm) (by k_asm) (by k_asm) (by k_asm) rfl rfl (by first | exact rfl | assumption) (by k_is) (by k_is) (by k_room) (by first | exact BindsTo.of_eq rfl | exact binds_K (by k_in) rfl (by k_is) rfl rfl rfl) (by exact rfl) (by decide +kernel) ?_ (by exact rfl) (by exact rfl) (by exact rfl); k_whole; intro _ _ _ _ _ _ _ Nz9 Yz9 Bz9 _ _ lz9; (try k_lt lz9); k_cells Yz9; (try simp only [List.cons_append, List.nil_append] at Nz9); (try dsimp only); (try k_lift Bz9); (try k_fold)) | fail)
  k_with "execs cons" => (k_fold; (first | show wpAny _ AB (PySem.execs _ eB) _ _ _ | (show (let eB := _; let AB := _; wpAny _ AB (PySem.execs _ eB) _ _ _); intro eB AB)); refine wpAny_execs_cons ?_)
  k_with "omega" => first | exact Nat.le_of_ble_eq_true rfl | with_reducible assumption | exact Mine.o1 (by with_reducible assumption) (by exact rfl) | exact Mine.o3 (by with_reducible assumption) (by exact rfl) | exact Mine.o2 (by with_reducible assumption) (by exact rfl) | exact Mine.o4 (by with_reducible assumption) (by exact rfl) | exact Mine.o5 (by with_reducible assumption) (by exact rfl) | exact Mine.o6 (by with_reducible assumption) (by exact rfl) | exact Mine.o7 (by with_reducible assumption) (by exact rfl) | exact Mine.o8 (by with_reducible assumption) (by exact rfl) | exact Mine.o9 (by with_reducible assumption) (by exact rfl) | exact Mine.o10 (by with_reducible assumption) (by exact rfl) | exact Mine.o11 (by with_reducible assumption) (by exact rfl) | exact Mine.o12 (by with_reducible assumption) (by exact rfl) | exact Mine.o13 (by with_reducible assumption) (by exact rfl) | exact Nat.ne_of_lt (by with_reducible assumption) | exact Nat.ne_of_gt (by with_reducible assumption) | exact Nat.le_of_lt (by with_reducible assumption) | fail
  k_with "tlg_ne" => first | exact List.Mem.head _ | (apply List.Mem.tail; tlg_ne) | (apply List.mem_append_left; tlg_ne) | (apply List.mem_append_right; tlg_ne)
  k_with "lcg_off" => first | exact List.Subset.refl _ | exact List.nil_subset _ | (refine List.Sublist.subset ?_; (repeat first | exact List.Sublist.refl _ | apply List.Sublist.cons_cons | apply List.Sublist.cons); done) | (refine Mine.subC ?_ ?_; (focus tlg_ne); lcg_off) | (refine Mine.subA ?_ ?_ <;> lcg_off) | (apply List.subset_cons_of_subset; lcg_off) | (apply List.subset_append_of_subset_left; lcg_off) | (apply List.subset_append_of_subset_right; lcg_off)
  trivial
theorem switched_rows {r : RecSt} {k : Int} (h0 : 0 ≤ k) (h9 : k < 4) (h : RowsOk r.rows) : RowsOk (switchedR r k).rows := by
  rw [← steps_switched h0 h9, foldS_rows]
  exact foldS_ok h fun p hp => (stepsK_vals h0 h9 p hp).1
theorem switched_every {r : RecSt} {k : Int} (h0 : 0 ≤ k) (h9 : k < 4) : (switchedR r k).every = r.every := by
  rw [← steps_switched h0 h9, foldS_every]
theorem switched_on {r : RecSt} {k : Int} (h0 : 0 ≤ k) (h9 : k < 4) : (switchedR r k).on.length ≤ r.on.length := by
  rw [← steps_switched h0 h9]
  exact foldS_on
theorem switched_told {r : RecSt} {k : Int} (h0 : 0 ≤ k) (h9 : k < 4) (h : RowsOk r.rows) (hev : ∀ w ns, r.every w = some ns → ns.length < 60) : (switchedR r k).told.length ≤ r.told.length + 1430 := by
  rw [← steps_switched h0 h9]
  have h1 := foldS_told (l := stepsK k) h hev fun p hp => (stepsK_vals h0 h9 p hp).1
  have h2 := stepsK_len h0 h9
  omega
theorem pw_told {prog : Program} {w : World} {q : LS} {r : RecSt} {ws : List (Addr × Obj)} {h : Heap} (O : Own (PW prog w q r) ws) (hh : Holds h ws) : ∃ c TT rest, ws = (q.T, listOf (refs TT).toArray c) :: (TT ++ rest) ∧ EvsAre r.told TT := by
  refine hideG fun GG hGG => ?_
  obtain ⟨wP, wH, rfl, OP, OH, dis⟩ := own_star pt_good hh_good hh O
  obtain ⟨w1, w2, rfl, O1, O2, dis2⟩ := own_star told_good vars_good (fun p hp => hh p (List.mem_append_left _ hp)) OP
  obtain ⟨c, TT, rfl, nd, ev⟩ := own_told O1 (fun p hp => hh p (List.mem_append_left _ (List.mem_append_left _ hp)))
  refine hGG ?_; clear hGG GG
  exact ⟨c, TT, w2 ++ wH, by simp, ev⟩
theorem small_six {n : Int} (h0 : 0 ≤ n) (h9 : n < 5) : Builtin.Range.small 0 (1 + n) 1 = true := small_seven (by omega) (by omega)
set_option maxHeartbeats 4000000
theorem kwLaw72 : True := by
  k_with "k_room" => ((try simp only [depth_mark, depth_under_make, depth_under_kw, depth_in1, depth_deeper]); first | assumption | (show _ < 1000; (try dsimp only); omega))
  k_with "k_ne" => ((refine neN ?_); (try dsimp only); first | assumption | exact Ne.symm (by assumption))
  k_with "compareOp In int ref" => (k_here; k_dflt (first | (refine' in_C (by k_asm) (by k_mem) (by k_asm) (by k_asm) (by k_asm) ?_) | (refine' in_I (by k_asm) (by k_mem) (by k_asm) (by k_asm) (by k_asm) ?_) | (refine' in_B (by k_asm) (by k_mem) (by k_asm) (by k_asm) (by k_asm) ?_)))
  k_with "compareOp NotIn int ref" => (k_here; k_dflt ( (refine' notin_C (by k_asm) (by k_mem) (by k_asm) (by k_asm) (by k_asm) ?_)))
  k_with "call builtin:dict.get" => (k_here; k_dflt (first | (refine' get_I (by k_asm) (by k_mem) (by k_asm) (by k_asm) (by k_asm) ?_; refine ⟨fun _ _ _ => ?_, fun _ => ?_⟩) | (refine' get_B (by k_asm) (by k_mem) (by k_asm) (by k_asm) (by k_asm) ?_; (try simp only [Bool.or_false]))))
  k_with "getMethod ref" => (k_here; (with_reducible show wpAny _ _ (getMethod (Value.ref _) (Str.ofString "get") _) _ _ _); k_dflt (refine' kdg_method (knd := PySem.intKind _ _) (by k_asm) (by k_mem) (by k_asm) ?_))
  k_with "subscriptTail" => (k_here; (with_reducible show wpAny _ _ (subscriptTail _ _ (Value.ref _) (Value.int _ _)) _ _ _); k_dflt (refine' item_C (by k_asm) (by k_mem) (by k_asm) (by k_asm) (by k_asm) ?_ (by with_unfolding_all rfl); intro _ _ _ _))
  k_with "setItem ref int" => (k_here; k_dflt (refine' kda_set (knd := PySem.intKind _ _) (by k_asm) (by k_asm) (by k_updF) (by k_asm) (intKind_is _ _ _ _) (by exact KOK.line (by k_asm) (by k_asm)) ?_; intro hz9 oz9 Fz9 Nz9 hdz9; (try dsimp only at Nz9); (try k_sweep); revert hz9 oz9 Fz9 Nz9 hdz9; intro _ _ _ _ _))
  trivial
variable {prog : Program} {w : World} {p : Program} {loose : List Str} {mean : ExcName → Option Value} {mg mb : Str → Option Value}
theorem kwLaw73 : True := by
  k_with "eval ListComp" => (k_here; k_dflt (refine LCt.ListComp_T (F₀ := by k_asm) (by with_unfolding_all rfl) (by decide) (by rfl) (by decide) (by rfl) ?_))
  k_with "CompSrcT" => (k_here; k_dflt (first | (refine' LCt.CompSrcT.ledger rfl (by k_asm) (by k_asm) (by k_mem) (by k_asm) ?_) | (refine' LCt.CompSrcT.base rfl (by k_asm) (by k_asm) (by k_asm) (by k_asm) ?_)); intro _; k_dflt (refine' flt_rest (by k_asm) (by k_asm) (by first | exact .inl (by k_asm) | exact .inr ⟨_, by k_mem, rfl, _, rfl⟩) rfl rfl (by decide) (fun _ _ _ _ _ _ _ _ _ _ _ _ _ _ _ _ _ _ _ => ?_) (fun _ _ => ?_)); (all_goals (try (simp only [LCg.Off3, and_true] at off'))))
  k_with "FltT" => (k_here; k_dflt (refine' flt_t (by k_asm) (by k_asm) (by intro pz9 hpz9; first | exact hpz9 | exact .tail _ hpz9 | exact .tail _ (.tail _ hpz9) | exact .tail _ (.tail _ (.tail _ hpz9))) ?_); (try rfl))
  k_with "call type:list" => (k_here; k_dflt (refine' list_D rfl (by k_asm) (by k_asm) (by k_mem) (by k_asm) (by k_asm) (by k_asm) ?_); intro Bz9 cz9 hz9 tkz9 vsz9 Fz9 Nz9 l1z9 hiz9 h64z9 hszz9; (try k_lt l1z9); (try k_sweep); revert Bz9 cz9 hz9 tkz9 vsz9 Fz9 Nz9 l1z9 hiz9 h64z9 hszz9; intro _ _ _ _ _ _ _ _ _ _ _)
  k_with "call builtin:sorted" => (k_here; k_dflt (refine' sorted_L (by k_asm) (by k_asm) (by k_mem) (by k_asm) (by k_asm) ?_); intro Bz9 vsz9 nsz9 cz9 hz9 Fz9 Nz9 l1z9 hiz9 hpmz9 h64z9 hszz9; (try k_lt l1z9); (try k_sweep); revert Bz9 vsz9 nsz9 cz9 hz9 Fz9 Nz9 l1z9 hiz9 hpmz9 h64z9 hszz9; intro _ _ _ _ _ _ _ _ _ _ _ _)
  k_with "call builtin:dict.pop" => (k_here; k_dflt (refine' pop_C (by k_asm) (by k_asm) (by k_updF) (by k_asm) (by k_asm) (by k_asm) ?_); intro hz9 oz9 vz9 Fz9 Nz9 hdz9; (try dsimp only at Nz9); (try k_sweep); revert hz9 oz9 vz9 Fz9 Nz9 hdz9; intro _ _ _ _ _ _)
  k_with "getMethod ref" => (k_here; (with_reducible show wpAny _ _ (getMethod (Value.ref _) (Str.ofString "pop") _) _ _ _); k_dflt (refine' popm_D (by k_asm) (by k_mem) (by k_asm) ?_))
  k_with "eval Name" => (k_here; k_dflt (refine' nameX_L (by k_asm) (by first | exact rfl | assumption) ?_ (by rfl) (by rfl); k_whole))
  k_with "k_ne" => ((refine neN ?_); (try dsimp only); first | assumption | exact Ne.symm (by assumption) | omega)
  k_with "k_units" => (first | exact Nat.le_of_ble_eq_true rfl | (simp only [ktrTop, units_deeper, units_in1, cLine_is]; omega) | ((try dsimp only [ktrTop, Around.deeper, Around.in1, Around.under]); rw [cLine_is]; omega))
  k_with "compareOp In int ref" => (k_here; k_dflt (first | (refine' in_list_ints (by first | exact led_list (by k_asm) (by k_mem) | exact base_list (by k_asm) (by k_asm)) (by first | k_asm | exact .cons _ _ .nil | exact .nil) ?_; k_whole) | (refine' in_E (by k_asm) (by k_asm) (by k_asm) (by k_asm) ?_)))
  k_with "compareOp NotEq ref ref" => (k_here; k_dflt (refine' ne_E (by k_asm) (by k_mem) (by k_mem) (by k_asm) (by k_asm) (by k_asm) (by k_asm) (by k_units) ?_))
  k_with "binaryOp Add ref ref" => (k_here; k_dflt (refine' add_L (by k_asm) (by k_asm) (by first | exact led_list (by k_asm) (by k_mem) | exact base_list (by k_asm) (by k_asm)) (by first | exact led_list (by k_asm) (by k_mem) | exact base_list (by k_asm) (by k_asm)) (by first | k_asm | exact .cons _ _ .nil | exact .nil) (by first | k_asm | exact .cons _ _ .nil | exact .nil) (by first | k_asm | (simp only [List.length_cons, List.length_nil, sizeLine_eq]; omega)) ?_); intro hz9 Dz9 Fz9 Nz9 l1z9 hiz9; (try k_lt l1z9); (try k_sweep); revert hz9 Dz9 Fz9 Nz9 l1z9 hiz9; intro _ _ _ _ _ _)
  k_with "call builtin:dict.get" => (k_here; k_dflt (first | (refine' get_V (by k_asm) (by k_mem) (by k_asm) (by k_asm) (by first | k_asm | exact vaSame _ _ _) ?_) | (refine' get_N (by k_asm) (by k_mem) (by k_asm) (by k_asm) (by k_asm) ?_)))
  k_with "call type:list" => (k_here; k_dflt (refine' copy_L (by k_asm) (by k_asm) (by k_mem) (by k_asm) ?_); intro Bz9 cz9 hz9 tkz9 Fz9 Nz9 l1z9; (try k_lt l1z9); (try k_sweep); revert Bz9 cz9 hz9 tkz9 Fz9 Nz9 l1z9; intro _ _ _ _ _ _ _)
  k_with "call builtin:list.extend" => (k_here; k_dflt (refine' ext_L (by k_asm) (by k_asm) (by k_updF) (by k_mem) (by first | k_asm | exact .cons _ _ .nil | exact .nil) (by first | k_asm | exact .cons _ _ .nil | exact .nil) (by first | k_asm | (simp only [List.length_cons, List.length_nil, sizeLine_eq]; omega)) ?_); intro hz9 nz9 Fz9 Nz9 hiz9; (try dsimp only at Nz9); (try k_sweep); revert hz9 nz9 Fz9 Nz9 hiz9; intro _ _ _ _ _)
  k_with "k_all" => with_reducible assumption
  k_with "subscriptTail" => (k_here; (with_reducible show wpAny _ _ (subscriptTail _ _ (Value.ref _) (Value.int _ _)) _ _ _); k_dflt (refine' item_V (by k_asm) (by k_mem) (by k_asm) (by k_asm) ?_ (by with_unfolding_all rfl)))
  k_with "compareOp Eq ref ref" => (k_here; k_dflt (refine' ke_eq_ints (by first | exact led_list (by k_asm) (by k_mem) | exact base_list (by k_asm) (by k_asm)) (by first | exact led_list (by k_asm) (by k_mem) | exact base_list (by k_asm) (by k_asm)) (by first | k_asm | exact .cons _ _ .nil | exact .nil) (by first | k_asm | exact .cons _ _ .nil | exact .nil) (by k_units) ?_))
  k_with "k_mem" => (with_reducible refine memOf ?_; with_reducible assumption)
  k_with "subscriptTail" => (k_here; (with_reducible show wpAny _ _ (subscriptTail _ _ (Value.ref _) (Value.str _ _)) _ _ _); k_dflt (refine' item_S (by k_asm) (by k_mem) (by k_asm) (by rfl) ?_ (by with_unfolding_all rfl)))
  trivial
variable {dp un : Nat} {gd : Option (List Code)} {cn : Str} {fa : Addr} {A₀ : Around} {base g : Heap} {L : Addr} {m : Str → Option Value} {s : Shared} {Q : Flow → Shared → Prop} {E : Value → Shared → Prop}
theorem law_lap2 {q : LS} {TB SS DK RC : Addr} {fx : List (Addr × Obj)} {nw : List (Addr × Obj)} (ok : q.Ok) (hq : Cells q L) (hfx : ∀ p ∈ q.st3, p ∈ fx) (B' : Below A₀ base [] g) (X' : (hd.heap_1 w.params).In g) (T' : Top p loose mean mg mb g) (hdp : dp + 30 < 1000) (hu : un + 800 < 8000)
    (F : Fr g L s.heap m) (N : News g L s.heap nw) (I : LawI prog w q DK RC TB SS L fx 10 10 0 m nw) (hfxL : ∀ p ∈ fx, p.1 ≠ L + 1)
    (hk : ∀ h' tk' m', Fr g L h' m' → News g L h' fx → Q .next { s with heap := h', toks := tk' }) :
    wpAny (model prog w) (ktrTop dp un gd cn lawScope L fa (.ref 465) (lawCl L) []) (exec (stmtAt lawBody 9) (envX cn lawScope L fa (.ref 465) (lawCl L))) Q E s := by
  refine hideG fun GG hGG => ?_
  suffices kk : ∀ sc, lawScope = sc → GG by exact kk _ rfl
  intro sc hsc
  refine hGG ?_; clear hGG GG
  refine hideG fun GG hGG => ?_
  suffices kk : ∀ st, stmtAt lawBody 9 = st → GG by exact kk _ rfl
  intro st hst
  refine hGG ?_; clear hGG GG
  rw [hsc, hst]
  conv at hsc => lhs; whnf
  conv at hst => lhs; whnf
  subst hsc hst
  have hc8 : (L + 8, q.oVar) ∈ fx := by rw [← hq.var]; exact hfx _ (mI 10 rfl)
  have hc7 : (L + 7, q.oTold) ∈ fx := by rw [← hq.told]; exact hfx _ (mI 11 rfl)
  have hc6 : (L + 6, q.oRows) ∈ fx := by rw [← hq.rows]; exact hfx _ (mI 5 rfl)
  have hc5 : (L + 5, q.oHooks) ∈ fx := by rw [← hq.hooks]; exact hfx _ (mI 6 rfl)
  have hc3 : (L + 3, q.oHere) ∈ fx := by rw [← hq.here]; exact hfx _ (mI 12 rfl)
  have hd8 := ok.var
  have hd7 := ok.told
  have hd6 := ok.rows
  have hd5 := ok.hooks
  have hd3 := ok.here
  refine hideG fun GG hGG => ?_
  obtain ⟨oS, v0, D, R, X, ns, r, kp, rfl, lp⟩ := I
  obtain ⟨dS, oD, oR, oX, sp, hns, hrow, hev, hon, htold⟩ := lp
  obtain ⟨kp1, kp2, kp3, kp4, kp5⟩ := id kp
  refine hGG ?_; clear hGG GG
  refine wpAny_For ?_
  repeat' ((fail_if_success (with_reducible show wpAny _ _ (PySem.exec (Stmt.Assign [PySem.Expr.Subscript _ _ _] _ _) _) _ _ _)); (fail_if_success (with_reducible show wpAny _ _ (PySem.exec (Stmt.Assign [PySem.Expr.Attribute _ _ _] _ _) _) _ _ _)); (fail_if_success (with_reducible show wpAny _ _ (PySem.execs (Stmt.Assign [PySem.Expr.Name (Str.ofString "own") _] _ _ :: _) _) _ _ _)); (fail_if_success (with_reducible show wpAny _ _ (PySem.call (Value.ref _) _ _) _ _ _)); (fail_if_success (with_reducible show wpAny _ _ (pyIter _) _ _ _)); (fail_if_success (with_reducible show wpAny _ _ (PySem.exec (Stmt.For _ _ _ _ _) _) _ _ _)); first | (k_unfold; (try dsimp only)) | walk1 | (dsimp only; walk1) | fail "no step")
  change wpAny _ (ktrTop dp un gd cn _ L fa _ (lawCl L) []) _ _ _ _
  refine call_D (draw_d (prog := prog) (w := w) (p := p) (loose := loose) (mean := mean) (mg := mg) (mb := mb) (DK := DK) (ns := ns) (k := 5) (by decide) (by omega)) (fun v => and_good deck_good) B' X' T' rfl (by omega) (by omega) F N oD sp (fun q hq => nomatch hq) ?_
  intro v1 h1 tk1 D1 F1 N1 O1 sp1
  obtain ⟨oD1, t1, rfl⟩ := own_and O1 (fun p hp => (N1 p (List.mem_append_right _ (List.mem_append_left _ hp))).1)
  obtain ⟨b0, b7⟩ := drawD_lt (ns := ns) (k := 5) (by decide)
  generalize drawD ns 5 = n5 at b0 b7
  clear N F O1 sp
  dsimp only
  repeat' ((fail_if_success (with_reducible show wpAny _ _ (PySem.exec (Stmt.Assign [PySem.Expr.Subscript _ _ _] _ _) _) _ _ _)); (fail_if_success (with_reducible show wpAny _ _ (PySem.exec (Stmt.Assign [PySem.Expr.Attribute _ _ _] _ _) _) _ _ _)); (fail_if_success (with_reducible show wpAny _ _ (PySem.execs (Stmt.Assign [PySem.Expr.Name (Str.ofString "own") _] _ _ :: _) _) _ _ _)); (fail_if_success (with_reducible show wpAny _ _ (PySem.call (Value.ref _) _ _) _ _ _)); (fail_if_success (with_reducible show wpAny _ _ (pyIter _) _ _ _)); (fail_if_success (with_reducible show wpAny _ _ (PySem.exec (Stmt.For _ _ _ _ _) _) _ _ _)); first | (k_unfold; (try dsimp only)) | walk1 | (dsimp only; walk1) | fail "no step")
  (with_reducible rename Fr _ _ _ _ => F2)
  (with_reducible rename News _ _ _ _ => N2)
  (with_reducible rename IsRange _ _ _ _ _ _ _ _ => rg)
  have hn5 : ((1 + n5).toNat : Int) = 1 + n5 := Int.toNat_of_nonneg (by omega)
  refine Iter_range (g := g) (L := L) (n := (1 + n5).toNat) rfl rg (small_six b0 b7) (size_seven (by omega)) F2 N2 (fun i m' nw => LawI prog w q DK RC TB SS L fx 10 10 (i * 1500) m' nw) ?_ ?_ ?_ (fun _ _ => rfl)
  · exact ⟨oS, v0, D1, R, X, ns.tail, r, kp, rfl, dS, oD1, oR, oX, sp1, by rw [List.length_tail]; omega, hrow, hev, hon, by omega⟩
  · clear kp kp1 kp2 kp3 kp4 kp5 dS oD1 oR oX sp1 hns hrow hev hon htold rg F2 N2
    rintro i it oi h tk m' nw t' hi ⟨oS, v0, D, R, X, ns, r, kp, rfl, ⟨dS, oD, oR, oX, sp, hns, hrow, hev, hon, htold⟩⟩ offi F N
    obtain ⟨kp1, kp2, kp3, kp4, kp5⟩ := id kp
    have hi5 : i < 5 := by omega
    have hevS : ∀ w ns, r.every w = some ns → ns.length < 60 := fun w l hl => by have := hev w l hl; omega
    have spi : Sep ((it, oi) :: (L + 1, oS) :: fx) D R X := sp.add fun p hp => offi p (List.mem_append_right _ hp)
    have hfxI : ∀ p ∈ (L + 1, oS) :: fx, p.1 ≠ it := fun p hp => offi p (List.mem_append_left _ hp)
    dsimp only
    repeat' ((fail_if_success (with_reducible show wpAny _ _ (PySem.exec (Stmt.Assign [PySem.Expr.Subscript _ _ _] _ _) _) _ _ _)); (fail_if_success (with_reducible show wpAny _ _ (PySem.exec (Stmt.Assign [PySem.Expr.Attribute _ _ _] _ _) _) _ _ _)); (fail_if_success (with_reducible show wpAny _ _ (PySem.execs (Stmt.Assign [PySem.Expr.Name (Str.ofString "own") _] _ _ :: _) _) _ _ _)); (fail_if_success (with_reducible show wpAny _ _ (PySem.call (Value.ref _) _ _) _ _ _)); (fail_if_success (with_reducible show wpAny _ _ (pyIter _) _ _ _)); (fail_if_success (with_reducible show wpAny _ _ (PySem.exec (Stmt.For _ _ _ _ _) _) _ _ _)); first | (k_unfold; (try dsimp only)) | walk1 | (dsimp only; walk1) | fail "no step")
    (with_reducible rename Fr _ _ _ _ => F0)
    (with_reducible rename News _ _ _ _ => N0)
    change wpAny _ (ktrTop dp un gd cn _ L fa _ (lawCl L) []) _ _ _ _
    refine call_D (f := (it, oi) :: (L + 1, oS) :: fx) (draw_d (prog := prog) (w := w) (p := p) (loose := loose) (mean := mean) (mg := mg) (mb := mb) (DK := DK) (ns := ns) (k := 4) (by decide) (by omega)) (fun v => and_good deck_good) B' X' T' rfl (by omega) (by omega) F0 N0 oD spi (fun q hq => nomatch hq) ?_
    intro v2 h2 tk2 D2 F2 N2 O2 sp2
    obtain ⟨oD2, tmd, rfl⟩ := own_and O2 (fun p hp => (N2 p (List.mem_append_right _ (List.mem_append_left _ hp))).1)
    obtain ⟨md0, md4⟩ := drawD_lt (ns := ns) (k := 4) (by decide)
    generalize drawD ns 4 = md at md0 md4
    clear O2
    dsimp only
    repeat' ((fail_if_success (with_reducible show wpAny _ _ (PySem.exec (Stmt.If _ _ _ _) _) _ _ _)); (fail_if_success (with_reducible show wpAny _ _ (PySem.call (Value.ref _) _ _) _ _ _)); (fail_if_success (with_reducible show wpAny _ _ (pyIter _) _ _ _)); (fail_if_success (with_reducible show wpAny _ _ (PySem.exec (Stmt.For _ _ _ _ _) _) _ _ _)); first | (k_unfold; (try dsimp only)) | walk1 | (dsimp only; walk1) | fail "no step")
    (with_reducible rename Fr _ _ _ _ => F3)
    (with_reducible rename News _ _ _ _ => N3)
    (with_reducible rename Obj.IsDictOf _ _ _ => d40)
    (with_reducible rename (_ == sysModules) = false => lo40)
    (with_reducible rename ∀ (p : Addr × Obj), _ → p.1 ≠ _ => ap40)
    change wpAny _ (ktrTop dp un gd cn _ L fa _ (lawCl L) []) _ _ _ _
    refine call_X (f := (_, _) :: (it, oi) :: (L + 1, oS) :: fx) (switch_x (prog := prog) (w := w) (p := p) (loose := loose) (mean := mean) (mg := mg) (mb := mb) ok (q := q) (TB := TB) (SS := SS) (r := r) (b40 := true) md0 md4 d40 lo40 hrow hevS (by omega) (by omega)) (fun v => xc_good) B' X' T' rfl (by omega) (by omega) F3 N3 oX (sp2.add fun p hp => ap40 p (List.mem_append_right _ hp)) (fun q hq => .inr (by
      rcases List.mem_cons.mp hq with rfl | hq
      · exact .head _
      · exact .tail _ (.tail _ (.tail _ (hfx _ hq))))) ?_
    intro v4 h4 tk4 X4 F4 N4 oX4 sp4
    have N4' : News g L h4 (((it, oi) :: (L + 1, oS) :: fx) ++ (D2 ++ (R ++ X4))) := fun p hp => N4 p (.tail _ hp)
    have sp4' : Sep ((it, oi) :: (L + 1, oS) :: fx) D2 R X4 := sp4.sub fun p hp => ⟨p, .tail _ hp, rfl⟩
    clear N4 sp4 N3 F3 d40 lo40 ap40
    dsimp only
    repeat' ((fail_if_success (with_reducible show wpAny _ _ (PySem.exec (Stmt.If _ _ _ _) _) _ _ _)); (fail_if_success (with_reducible show wpAny _ _ (PySem.call (Value.ref _) _ _) _ _ _)); (fail_if_success (with_reducible show wpAny _ _ (pyIter _) _ _ _)); (fail_if_success (with_reducible show wpAny _ _ (PySem.exec (Stmt.For _ _ _ _ _) _) _ _ _)); first | (k_unfold; (try dsimp only)) | walk1 | (dsimp only; walk1) | fail "no step")
    change wpAny _ (ktrTop dp un gd cn _ L fa _ (lawCl L) []) _ _ _ _
    refine call_R (f := (it, oi) :: (L + 1, oS) :: fx) (Spec.toS (law_switched_s (prog := prog) (w := w) (p := p) (loose := loose) (mean := mean) (mg := mg) (mb := mb) (RC := RC) (r := r) md0 md4 (by omega) (rowsOk_small hrow) hevS (by omega))) (St := []) (fun v => rec_good) B' X' T' rfl (by omega) (by omega) F4 N4' oR sp4' (fun q hq => nomatch hq) ?_
    intro v5 h5 tk5 R5 F5 N5 oR5 sp5
    have hrow5 := switched_rows md0 md4 hrow
    have hev5 : ∀ w ns, (switchedR r md).every w = some ns → ns.length ≤ 10 := by rw [switched_every md0 md4]; exact hev
    have hon5 := switched_on (r := r) md0 md4
    have htold5 := switched_told md0 md4 hrow hevS
    generalize switchedR r md = r5 at *
    clear N4' sp4'
    dsimp only
    repeat' ((fail_if_success (with_reducible show wpAny _ _ (PySem.exec (Stmt.If _ _ _ _) _) _ _ _)); (fail_if_success (with_reducible show wpAny _ _ (PySem.call (Value.ref _) _ _) _ _ _)); (fail_if_success (with_reducible show wpAny _ _ (pyIter _) _ _ _)); (fail_if_success (with_reducible show wpAny _ _ (PySem.exec (Stmt.For _ _ _ _ _) _) _ _ _)); first | (k_unfold; (try dsimp only)) | walk1 | (dsimp only; walk1) | fail "no step")
    refine hideG fun GG hGG => ?_
    obtain ⟨xT, xY, rfl, oxT, oxY, dxT⟩ := own_star table_good (Star.good modeS_good pw_good) (fun p hp => (N5 p (List.mem_append_right _ (List.mem_append_right _ (List.mem_append_right _ hp)))).1) oX4
    obtain ⟨xS, xP, rfl, oxS, oxP, dxS⟩ := own_star modeS_good pw_good (fun p hp => (N5 p (List.mem_append_right _ (List.mem_append_right _ (List.mem_append_right _ (List.mem_append_right _ hp))))).1) oxY
    obtain ⟨dd, ll, ks1, ks2, ts1, ts2, tsm, cS, vS, hxS, ndS, ivS⟩ := own_modeS oxS (fun p hp => (N5 p (List.mem_append_right _ (List.mem_append_right _ (List.mem_append_right _ (List.mem_append_right _ (List.mem_append_left _ hp)))))).1)
    obtain ⟨cT1, T1, restT, hxP, evT1⟩ := pw_told oxP (fun p hp => (N5 p (List.mem_append_right _ (List.mem_append_right _ (List.mem_append_right _ (List.mem_append_right _ (List.mem_append_right _ hp)))))).1)
    obtain ⟨⟨dD, dO, dA, dK, dE, dR, lO, lT, oRC, oD', oO, oA, oK, oE, oR', kD, kO, kA, kK, cO, cT, tm, von, EL, WL, TT⟩, hR5, l⟩ := own_rec oR5 (fun p hp => (N5 p (List.mem_append_right _ (List.mem_append_right _ (List.mem_append_left _ hp)))).1)
    refine hGG ?_; clear hGG GG
    have lrc := l.dRC
    have lvon := l.von
    have ltt := l.tt
    dsimp only at lrc lvon ltt
    have upR : ∀ p ∈ R5, p ∈ ((it, oi) :: (L + 1, oS) :: fx) ++ (D2 ++ (R5 ++ (xT ++ (xS ++ xP)))) := fun p hp => List.mem_append_right _ (List.mem_append_right _ (List.mem_append_left _ hp))
    have upS : ∀ p ∈ xS, p ∈ ((it, oi) :: (L + 1, oS) :: fx) ++ (D2 ++ (R5 ++ (xT ++ (xS ++ xP)))) := fun p hp => List.mem_append_right _ (List.mem_append_right _ (List.mem_append_right _ (List.mem_append_right _ (List.mem_append_left _ hp))))
    have upP : ∀ p ∈ xP, p ∈ ((it, oi) :: (L + 1, oS) :: fx) ++ (D2 ++ (R5 ++ (xT ++ (xS ++ xP)))) := fun p hp => List.mem_append_right _ (List.mem_append_right _ (List.mem_append_right _ (List.mem_append_right _ (List.mem_append_right _ hp))))
    refine s_cmp (q := q) (SS := SS) (RC := RC) (r := r5) (T1 := T1) (T2 := TT) (c2 := cT) (c4 := cO) (vS := vS) (von := von) ok B' X' T' hdp (by omega) F5 kp2 kp4 N5 (List.mem_append_left _ (.tail _ (.tail _ hc7))) (upP _ (by rw [hxP]; exact .head _)) (fun p hp => upP p (by rw [hxP]; exact .tail _ (List.mem_append_left _ hp))) evT1
      (upR _ (by rw [hR5]; exact .head _)) lrc (upR _ (by rw [hR5]; exact mI 8 rfl)) (fun p hp => upR p (by rw [hR5]; exact List.mem_append_right [_, _, _, _, _, _, _, _, _] (List.mem_append_right _ (List.mem_append_right _ hp)))) ltt
      (upS _ (by rw [hxS]; exact .head _)) (upS _ (by rw [hxS]; exact .tail _ (.head _))) (upS _ (by rw [hxS]; exact .tail _ (.tail _ (.head _)))) ivS (upR _ (by rw [hR5]; exact mI 7 rfl)) lvon ?_
    intro h6 tk6 F6 N6
    clear N5 hxS hxP hR5 l lrc lvon ltt upR upS upP ivS
    dsimp only
    repeat' ((fail_if_success (with_reducible show wpAny _ _ (PySem.exec (Stmt.If _ _ _ _) _) _ _ _)); (fail_if_success (with_reducible show wpAny _ _ (PySem.call (Value.ref _) _ _) _ _ _)); (fail_if_success (with_reducible show wpAny _ _ (pyIter _) _ _ _)); (fail_if_success (with_reducible show wpAny _ _ (PySem.exec (Stmt.For _ _ _ _ _) _) _ _ _)); first | (k_unfold; (try dsimp only)) | walk1 | (dsimp only; walk1) | fail "no step")
    have sp6 : Sep ((L + 1, oS) :: (it, oi) :: fx) D2 R5 (xT ++ (xS ++ xP)) := sp5.sub fun p hp => by
      rcases List.mem_cons.mp hp with rfl | hp
      · exact ⟨_, .tail _ (.head _), rfl⟩
      · rcases List.mem_cons.mp hp with rfl | hp
        · exact ⟨_, .head _, rfl⟩
        · exact ⟨p, .tail _ (.tail _ hp), rfl⟩
    refine s_symbols (q := q) (TB := TB) (SS := SS) (DK := DK) (RC := RC) (fy := (it, oi) :: fx) (D := D2) (R := R5) (X := xT ++ (xS ++ xP)) (r := r5) ok (.tail _ hc8) (.tail _ hc3) (fun p hp => by
      rcases List.mem_cons.mp hp with rfl | hp
      · exact Ne.symm (hfxI (L + 1, oS) (.head _))
      · exact hfxL p hp) B' X' T' hdp (by omega) F6 ⟨kp1, kp2, kp3, kp4, kp5⟩ (fun p hp => N6 p (by
      refine subOf ?_ hp; lcg_off)) dS oR5 oX4 sp6 ?_
    intro h7 tk7 m7 oS7 v7 R7 X7 F7 kp7 N7 dS7 oR7 oX7 sp7
    clear N6
    dsimp only
    repeat' ((fail_if_success (with_reducible show wpAny _ _ (PySem.exec (Stmt.If _ _ _ _) _) _ _ _)); (fail_if_success (with_reducible show wpAny _ _ (PySem.call (Value.ref _) _ _) _ _ _)); (fail_if_success (with_reducible show wpAny _ _ (pyIter _) _ _ _)); (fail_if_success (with_reducible show wpAny _ _ (PySem.exec (Stmt.For _ _ _ _ _) _) _ _ _)); first | (k_unfold; (try dsimp only)) | walk1 | (dsimp only; walk1) | fail "no step")
    refine s_words (q := q) (TB := TB) (SS := SS) (DK := DK) (RC := RC) (fy := (L + 1, oS7) :: (it, oi) :: fx) (D := D2) (R := R7) (X := X7) (r := r5) ok (.tail _ (.tail _ hc6)) (.tail _ (.tail _ hc5)) B' X' T' hdp (by omega) F7 kp7 N7 oR7 oX7 sp7 hrow5 (fun w l hl => by have := hev5 w l hl; omega) ?_
    intro h8 tk8 m8 R8 X8 F8 kp8 N8 oR8 oX8 sp8
    clear N7
    dsimp only
    repeat' ((fail_if_success (with_reducible show wpAny _ _ (PySem.exec (Stmt.If _ _ _ _) _) _ _ _)); (fail_if_success (with_reducible show wpAny _ _ (PySem.call (Value.ref _) _ _) _ _ _)); (fail_if_success (with_reducible show wpAny _ _ (pyIter _) _ _ _)); (fail_if_success (with_reducible show wpAny _ _ (PySem.exec (Stmt.For _ _ _ _ _) _) _ _ _)); first | (k_unfold; (try dsimp only)) | walk1 | (dsimp only; walk1) | fail "no step")
    refine LedEnd.mk (nw' := ((L + 1, oS7) :: fx) ++ (D2 ++ (R8 ++ X8))) F8 (fun p hp => N8 p (by
      refine subOf ?_ hp; lcg_off)) (fun p hp => ?_) (LawI.mk (oS := oS7) (D := D2) (R := R8) (X := X8) kp8 ⟨dS7, oD2, oR8, oX8, sp8.sub fun p hp => ?_, by rw [List.length_tail]; omega, hrow5, hev5, by omega, by omega⟩)
    · rcases List.mem_append.mp hp with h | h
      · rcases List.mem_cons.mp h with rfl | h
        · exact hfxI (L + 1, oS) (.head _)
        · exact hfxI p (.tail _ h)
      · rcases List.mem_append.mp h with h | h
        · exact fun e => sp8.fD (it, oi) (.tail _ (.head _)) (List.mem_map.mpr ⟨p, h, e⟩)
        · rcases List.mem_append.mp h with h | h
          · exact fun e => sp8.fR (it, oi) (.tail _ (.head _)) (List.mem_map.mpr ⟨p, h, e⟩)
          · exact fun e => sp8.fX (it, oi) (.tail _ (.head _)) (List.mem_map.mpr ⟨p, h, e⟩)
    · rcases List.mem_cons.mp hp with rfl | hp
      · exact ⟨_, .head _, rfl⟩
      · exact ⟨p, .tail _ (.tail _ hp), rfl⟩
  · rintro h tk m' nw ⟨oS, v0, D, R, X, ns, r, kp, rfl, lp⟩ F N
    dsimp only
    repeat' ((fail_if_success (with_reducible show wpAny _ _ (PySem.exec (Stmt.Assign [PySem.Expr.Subscript _ _ _] _ _) _) _ _ _)); (fail_if_success (with_reducible show wpAny _ _ (PySem.exec (Stmt.Assign [PySem.Expr.Attribute _ _ _] _ _) _) _ _ _)); (fail_if_success (with_reducible show wpAny _ _ (PySem.execs (Stmt.Assign [PySem.Expr.Name (Str.ofString "own") _] _ _ :: _) _) _ _ _)); (fail_if_success (with_reducible show wpAny _ _ (PySem.call (Value.ref _) _ _) _ _ _)); (fail_if_success (with_reducible show wpAny _ _ (pyIter _) _ _ _)); (fail_if_success (with_reducible show wpAny _ _ (PySem.exec (Stmt.For _ _ _ _ _) _) _ _ _)); first | (k_unfold; (try dsimp only)) | walk1 | (dsimp only; walk1) | fail "no step")
    exact hk _ _ _ F (fun p hp => N p (List.mem_append_left _ (.tail _ hp)))
end
section
theorem wtLaw8 : True := by
  w_top off
  trivial
abbrev cellsL (L : Addr) : List Addr := [463, L + 2, L + 4, L + 1, L + 3, L + 5, L + 6, L + 7, L + 8]
def r00 : RecSt := ⟨⟨fun _ => none, fun _ => none, fun _ => false, fun _ => false⟩, fun _ => none, fun _ => none, [], [], 0⟩
set_option maxHeartbeats 4000000
variable {prog : Program} {w : World} {p : Program} {loose : List Str} {mean : ExcName → Option Value} {mg mb : Str → Option Value}
theorem kwLaw83 : True := by
  k_with "setItem ref str" => (k_here; k_dflt (refine' kda_set (knd := PySem.strKind _ _) (by k_asm) (by k_asm) (by k_updF) (by k_asm) (strKind_is _ _ _ _) (by exact Nat.le_of_ble_eq_true rfl) ?_; intro hz9 oz9 Fz9 Nz9 hdz9; (try dsimp only at Nz9); (try k_sweep); revert hz9 oz9 Fz9 Nz9 hdz9; intro _ _ _ _ _))
  k_with "eval Dict nil nil" => (k_here; (with_reducible refine newDict_K (by assumption) (by assumption) (Top.nolimit (by assumption)) ?_); intro dz9 hz9 oz9 Fz9 Nz9 l1z9 loz9 hsz9 fsz9 hiz9 fiz9; (try k_lt l1z9); (try k_sweep); revert dz9 hz9 oz9 Fz9 Nz9 l1z9 loz9 hsz9 fsz9 hiz9 fiz9; intro _ _ _ _ _ _ _ _ _ _ _)
  trivial
theorem nd_split {a b : List (Addr × Obj)} (h : ((a ++ b).map (·.1)).Nodup) : (a.map (·.1)).Nodup ∧ (b.map (·.1)).Nodup ∧ ∀ p ∈ a, p.1 ∉ b.map (·.1) := by
  rw [List.map_append] at h
  obtain ⟨h1, h2, h3⟩ := List.nodup_append.mp h
  exact ⟨h1, h2, fun p hp z => h3 p.1 (List.mem_map_of_mem hp) p.1 z rfl⟩
theorem nd_app9 {a b : List (Addr × Obj)} (h1 : (a.map (·.1)).Nodup) (h2 : (b.map (·.1)).Nodup) (h3 : ∀ p ∈ a, p.1 ∉ b.map (·.1)) : ((a ++ b).map (·.1)).Nodup := by
  rw [List.map_append]
  refine List.nodup_append.mpr ⟨h1, h2, fun x hx y hy e => ?_⟩
  obtain ⟨p, hp, rfl⟩ := List.mem_map.mp hx
  exact h3 p hp (e ▸ hy)
theorem nd_perm {a b : List (Addr × Obj)} (h : a.Perm b) (n : (a.map (·.1)).Nodup) : (b.map (·.1)).Nodup := (h.map _).nodup n
theorem perm1 {c3 c6 D R S T : List (Addr × Obj)} : (R ++ (((c3 ++ c6) ++ (D ++ S)) ++ T)).Perm (c3 ++ (c6 ++ (D ++ (R ++ (T ++ S))))) := by
  refine List.perm_append_comm.trans ?_
  simp only [List.append_assoc]
  refine .append_left _ (.append_left _ (.append_left _ ?_))
  rw [← List.append_assoc]
  exact List.perm_append_comm.trans (.append_left _ List.perm_append_comm)
theorem sep_of_nd {f D R X : List (Addr × Obj)} (n : ((f ++ (D ++ (R ++ X))).map (·.1)).Nodup) : Sep f D R X :=
  have a := nd_split n
  have b := nd_split a.2.1
  have c := nd_split b.2.1
  ⟨fun p hp z => a.2.2 p hp (List.map_subset _ (List.subset_append_left _ _) z), fun p hp z => a.2.2 p hp (List.map_subset _ (List.subset_append_of_subset_right _ (List.subset_append_left _ _)) z), fun p hp z => a.2.2 p hp (List.map_subset _ (List.subset_append_of_subset_right _ (List.subset_append_right _ _)) z),
    fun p hp z => b.2.2 p hp (List.map_subset _ (List.subset_append_left _ _) z), fun p hp z => b.2.2 p hp (List.map_subset _ (List.subset_append_right _ _) z), c.2.2⟩
theorem kwLaw89 : True := by
  k_with "k_lt0" => skip
  k_with "nd9" => ((try dsimp only [List.map]); first | with_reducible assumption | exact Mine.SD.all (by with_reducible assumption) | exact Mine.nd_ne (by dsimp only [Mine.NeAll]; with_reducible assumption) (Mine.SD.all (by with_reducible assumption)) | exact List.nodup_cons.mpr ⟨List.not_mem_nil, List.nodup_nil⟩ | exact Mine.nd_cells8 (by with_reducible assumption))
  trivial
theorem kwLaw8s : True := by
  k_with "k_updF" => (refine' Mine.updF_nd (by repeat (first | exact Mine.UpdG.head | apply Mine.UpdG.tail)) (by ((try dsimp only [List.map]); first | with_reducible assumption | exact Mine.SD.all (by with_reducible assumption) | exact Mine.nd_ne (by dsimp only [Mine.NeAll]; with_reducible assumption) (Mine.SD.all (by with_reducible assumption)) | exact List.nodup_cons.mpr ⟨List.not_mem_nil, List.nodup_nil⟩ | exact Mine.nd_cells8 (by with_reducible assumption))))
  k_with "k_upd" => (refine' Mine.upd_nd (by repeat (first | exact Mine.UpdH.head | apply Mine.UpdH.tail)) (by ((try dsimp only [List.map]); first | with_reducible assumption | exact Mine.SD.all (by with_reducible assumption) | exact Mine.nd_ne (by dsimp only [Mine.NeAll]; with_reducible assumption) (Mine.SD.all (by with_reducible assumption)) | exact List.nodup_cons.mpr ⟨List.not_mem_nil, List.nodup_nil⟩ | exact Mine.nd_cells8 (by with_reducible assumption))))
  trivial
variable {dp un : Nat} {gd : Option (List Code)} {cn : Str} {fa : Addr} {A₀ : Around} {base g : Heap} {L : Addr} {m : Str → Option Value} {s : Shared} {Q : Flow → Shared → Prop} {E : Value → Shared → Prop}
theorem law_rest {TB SS DK T V H HK R : Addr} {o1 o2 o3 o4 o5 o6 o7 o8 : Obj} {v1 v2 v4 : Option Value} {ns : List Int} {D wT wS wP : List (Addr × Obj)} (B' : Below A₀ base [] g) (X' : (hd.heap_1 w.params).In g) (T' : Top p loose mean mg mb g) (C : CodeHd g 465 463) (hdp : dp + 30 < 1000) (hu : un + 800 < 8000) (hPL : @LT.lt Nat _ 463 L)
    (F : Fr g L s.heap m) (hdk : m (Str.ofString "deck") = some (.ref DK)) (htb : m (Str.ofString "table") = some (.ref TB)) (hss : m (Str.ofString "state") = some (.ref SS))
    (d1 : o1.data = .cell v1) (d2 : o2.data = .cell v2) (d3 : o3.data = .cell (some (.ref H))) (d4 : o4.data = .cell v4) (d5 : o5.data = .cell (some (.ref HK))) (d6 : o6.data = .cell (some (.ref R))) (d7 : o7.data = .cell (some (.ref T))) (d8 : o8.data = .cell (some (.ref V)))
    (N : News g L s.heap ([(463, tabObj #[]), (L + 2, o2), (L + 4, o4), (L + 1, o1), (L + 3, o3), (L + 5, o5), (L + 6, o6), (L + 7, o7), (L + 8, o8)] ++ ((D ++ (wS ++ wP)) ++ wT))) (hns : ns.length < 60)
    (oD : Own (Deck DK ns) D) (oT : Own (TableC prog w TB 0) wT) (oS : Own (ModeS SS 0 []) wS) (oP : Own (Star (Star (Told T []) (Vars prog w V H r00.x)) (Star (Hook prog w HK (fun _ => none)) (Hook prog w R (fun _ => none)))) wP)
    (nd : (([(463, tabObj #[]), (L + 2, o2), (L + 4, o4), (L + 1, o1), (L + 3, o3), (L + 5, o5), (L + 6, o6), (L + 7, o7), (L + 8, o8)] ++ ((D ++ (wS ++ wP)) ++ wT)).map (·.1)).Nodup)
    (hk : ∀ h' tk' m' ps, Fr g L h' m' → News g L h' [(463, tabObj ps)] → Q (.ret (.bool true)) { s with heap := h', toks := tk' }) :
    wpAny (model prog w) (ktrTop dp un gd cn lawScope L fa (.ref 465) (lawCl L) []) (execs (lawBody.drop 2) (envX cn lawScope L fa (.ref 465) (lawCl L))) Q E s := by
  refine hideG fun GG hGG => ?_
  suffices kk : ∀ sc, lawScope = sc → GG by exact kk _ rfl
  intro sc hsc
  refine hGG ?_; clear hGG GG
  refine hideG fun GG hGG => ?_
  suffices kk : ∀ st, lawBody.drop 2 = st → GG by exact kk _ rfl
  intro st hst
  refine hGG ?_; clear hGG GG
  rw [hsc, hst]
  conv at hsc => lhs; whnf
  conv at hst => lhs; whnf
  subst hsc hst
  refine hideG fun GG hGG => ?_
  suffices kk : ∀ rest0, rest0 = [(463, tabObj #[]), (L + 2, o2), (L + 4, o4), (L + 1, o1), (L + 3, o3), (L + 5, o5), (L + 6, o6), (L + 7, o7), (L + 8, o8)] ++ (D ++ (wS ++ wP)) → GG by exact kk _ rfl
  intro rest0 hrest0
  refine hGG ?_; clear hGG GG
  have n0 := nd_split (a := rest0) (b := wT) (by rw [hrest0, List.append_assoc]; exact nd)
  have N0 : News g L s.heap (rest0 ++ wT) := fun p hp => N p (by
    rw [hrest0] at hp
    refine subOf ?_ hp; lcg_off)
  clear N
  refine wpAny_execs_cons ?_
  refine law_table (TB := TB) (fx := rest0) (ws := wT) B' X' T' hdp (by omega) F htb N0 oT n0.2.2 ?_
  intro u1 h1 tk1 wT1 F1 N1 oT1 off1
  have hdk1 : (fun y => if y = Str.ofString "mode" then u1 else m y) (Str.ofString "deck") = some (.ref DK) := hdk
  have htb1 : (fun y => if y = Str.ofString "mode" then u1 else m y) (Str.ofString "table") = some (.ref TB) := htb
  have hss1 : (fun y => if y = Str.ofString "mode" then u1 else m y) (Str.ofString "state") = some (.ref SS) := hss
  generalize (fun y => if y = Str.ofString "mode" then u1 else m y) = m1 at F1 hdk1 htb1 hss1
  have ndr := nd_app9 n0.1 (table_good.nodup (oT1 _ fun p hp => (N1 p (List.mem_append_right _ hp)).1)) off1
  obtain ⟨rest, hrest⟩ : ∃ rest, rest = rest0 ++ wT1 := ⟨_, rfl⟩
  rw [← hrest] at N1 ndr
  clear N0 F n0 nd
  try dsimp only
  repeat' ((fail_if_success (with_reducible show wpAny _ _ (PySem.exec (Stmt.FunctionDef _ _ _ _ _ _ _ _ _ _) _) _ _ _)); (fail_if_success (with_reducible show wpAny _ _ (PySem.call (Value.ref _) _ _) _ _ _)); (fail_if_success (with_reducible show wpAny _ _ (pyIter _) _ _ _)); (fail_if_success (with_reducible show wpAny _ _ (PySem.exec (Stmt.For _ _ _ _ _) _) _ _ _)); first | (k_unfold; (try dsimp only)) | walk1 | (dsimp only; walk1) | fail "no step")
  (with_reducible rename News _ _ _ _ => NN0)
  (with_reducible rename Fr _ _ _ _ => FF0)
  (with_reducible rename Obj.IsDictOf (PySem.strKind _ _) _ (stored _ _ _) => dR0)
  (with_reducible rename SD _ _ => sd0)
  (with_reducible rename Heap => hh9)
  refine hideG fun GG hGG => ?_
  suffices kk : ∀ RC dD dO dA dK dE dR lO lT oRC oD' oO oA oK oE oR' tm, Fr g L hh9 (fun y => if y = Str.ofString "record" then some (.ref RC) else m1 y) → News g L hh9 ((lT, listOf #[] 0) :: (lO, listOf #[] 0) :: (dR, oR') :: (dE, oE) :: (dK, oK) :: (dA, oA) :: (dO, oO) :: (dD, oD') :: (RC, oRC) :: rest) → Obj.IsDictOf (PySem.strKind prog w) oRC (recKvs dD dO dA dK dE dR lO lT 0 tm) → (Obj.IsDictOf (PySem.intKind prog w) oD' [] ∧ Obj.IsDictOf (PySem.intKind prog w) oO [] ∧ Obj.IsDictOf (PySem.intKind prog w) oA [] ∧ Obj.IsDictOf (PySem.intKind prog w) oK [] ∧ Obj.IsDictOf (PySem.intKind prog w) oE [] ∧ Obj.IsDictOf (PySem.intKind prog w) oR' []) → ((RC == sysModules) = false ∧ (dD == sysModules) = false ∧ (dO == sysModules) = false ∧ (dA == sysModules) = false ∧ (dK == sysModules) = false ∧ (dE == sysModules) = false ∧ (dR == sysModules) = false) → (lT :: lO :: dR :: dE :: dK :: dA :: dO :: dD :: RC :: rest.map (·.1) : List Nat).Nodup → GG by exact kk _ _ _ _ _ _ _ _ _ _ _ _ _ _ _ _ _ FF0 NN0 dR0 ⟨by assumption, by assumption, by assumption, by assumption, by assumption, by assumption⟩ ⟨by assumption, by assumption, by assumption, by assumption, by assumption, by assumption, by assumption⟩ (SD.all sd0)
  intro RC dD dO dA dK dE dR lO lT oRC oD' oO oA oK oE oR' tm FF NN dRC ids los lts
  refine hGG ?_; clear hGG GG
  refine hideG fun GG hGG => ?_
  obtain ⟨iD, iO, iA, iK, iE, iR⟩ := ids
  obtain ⟨lRC, lD, lO', lA, lK, lE, lR⟩ := los
  clear NN0 FF0 dR0 sd0
  suffices kk : ∀ P0 : RecP, P0 = ⟨dD, dO, dA, dK, dE, dR, lO, lT, oRC, oD', oO, oA, oK, oE, oR', [], [], [], [], 0, 0, tm, [], [], [], []⟩ → GG by exact kk _ rfl
  intro P0 hP0
  refine hGG ?_; clear hGG GG
  have hobj : P0.objs RC = [(RC, oRC), (dD, oD'), (dO, oO), (dA, oA), (dK, oK), (dE, oE), (dR, oR'), (lO, listOf #[] 0), (lT, listOf #[] 0)] := by rw [hP0]; rfl
  have l0 : RecL prog w RC P0 r00 := by
    rw [hP0]
    refine ⟨?_, dRC, lRC, lD, lO', lA, lK, lE, lR, iD, iO, iA, iK, iE, iR, ⟨fun p hp => (nomatch hp), fun k => ?_⟩, ⟨fun p hp => (nomatch hp), fun k => ?_⟩, ⟨fun p hp => (nomatch hp), fun k => ?_⟩, ⟨fun p hp => (nomatch hp), fun k => ?_⟩, fun p hp => (nomatch hp), fun p hp => (nomatch hp), fun k => rfl, fun k => rfl, fun q hq => (nomatch hq), fun q hq => (nomatch hq), .nil, .nil⟩
    · exact (List.reverse_perm [lT, lO, dR, dE, dK, dA, dO, dD, RC]).symm.nodup (List.nodup_append.mp (show ([lT, lO, dR, dE, dK, dA, dO, dD, RC] ++ rest.map (·.1) : List Nat).Nodup from lts)).1
    · exact .none
    · exact .none
    · first | exact .none | rfl
    · first | exact .none | rfl
  have nd2 : ((P0.objs RC ++ rest).map (·.1)).Nodup := by
    rw [hobj]
    exact List.Perm.nodup (List.Perm.append_right _ (List.reverse_perm [lT, lO, dR, dE, dK, dA, dO, dD, RC]).symm) lts
  have N2 : News g L _ (P0.objs RC ++ rest) := fun p hp => NN p (by
    rw [hobj] at hp
    refine subOf ?_ hp; lcg_off)
  refine hideG fun GG hGG => ?_
  suffices kk : ∀ r9, r9 = [(L + 1, o1), (L + 3, o3), (L + 5, o5), (L + 6, o6), (L + 7, o7), (L + 8, o8)] ++ (D ++ (P0.objs RC ++ (wT1 ++ (wS ++ wP)))) → GG by exact kk _ rfl
  intro r9 hr9
  refine hGG ?_; clear hGG GG
  have pm : (P0.objs RC ++ rest).Perm ((463, tabObj #[]) :: (L + 2, o2) :: (L + 4, o4) :: r9) := by
    rw [hrest, hrest0, hr9]
    exact perm1 (c3 := [(463, tabObj #[]), (L + 2, o2), (L + 4, o4)]) (c6 := [(L + 1, o1), (L + 3, o3), (L + 5, o5), (L + 6, o6), (L + 7, o7), (L + 8, o8)])
  have N3 : News g L _ ((463, tabObj #[]) :: (L + 2, o2) :: (L + 4, o4) :: r9) := fun p hp => N2 p (pm.mem_iff.mpr hp)
  have nd3 : (463 :: (L + 2) :: (L + 4) :: r9.map (·.1) : List Nat).Nodup := nd_perm pm nd2
  clear nd2 pm
  obtain ⟨m2, F2, k2⟩ : ∃ m2, Fr g L _ m2 ∧ m2 (Str.ofString "deck") = some (.ref DK) ∧ m2 (Str.ofString "record") = some (.ref RC) ∧ m2 (Str.ofString "table") = some (.ref TB) ∧ m2 (Str.ofString "state") = some (.ref SS) := ⟨_, FF, hdk1, rfl, htb1, hss1⟩
  clear N2 NN FF
  repeat' (k_extra "W1")
  (with_reducible rename News _ _ _ _ => NN9)
  (with_reducible rename SD _ _ => sd9)
  (with_reducible rename Fr _ _ _ _ => FF9)
  refine hideG fun GG hGG => ?_
  suffices kk : ∀ (q : LS) (ps : Array Value), q.Ok → Cells q L → (T = q.T ∧ V = q.V ∧ H = q.H ∧ HK = q.HK ∧ R = q.R ∧ o8 = q.oVar ∧ o7 = q.oTold ∧ o6 = q.oRows ∧ o5 = q.oHooks ∧ o3 = q.oHere) → (q.fD :: q.kD :: q.fH :: q.kH :: q.fC :: q.kC :: 463 :: (L + 2) :: (L + 4) :: r9.map (·.1) : List Nat).Nodup → Fr g L _ (fun y => if y = Str.ofString "do" then some (.ref q.fD) else m2 y) → News g L _ ((q.fD, q.do) :: (q.kD, q.xD) :: (q.fH, q.hooked) :: (q.kH, q.xH) :: (q.fC, q.called) :: (q.kC, q.xC) :: (463, tabObj ps) :: (L + 2, q.oCalled) :: (L + 4, q.oHooked) :: r9) → GG by exact kk ⟨T, V, H, HK, R, L + 8, L + 7, L + 6, L + 5, L + 4, L + 3, L + 2, o8, o7, o6, o5, _, o3, _, _, _, _, _, _, _, _, _, _, _, _, _, _, _, _, _, _, _, _, _, _⟩ _ ⟨d8, d7, d6, d5, by assumption, d3, by assumption, ⟨_, _, by assumption, by assumption⟩, ⟨_, _, by assumption, by assumption⟩, ⟨_, _, by assumption, by assumption⟩⟩ ⟨rfl, rfl, rfl, rfl, rfl, rfl, rfl⟩ ⟨rfl, rfl, rfl, rfl, rfl, rfl, rfl, rfl, rfl, rfl⟩ (SD.all sd9) FF9 NN9
  intro q ps ok hq hqa lts F5 N5
  refine hGG ?_; clear hGG GG
  refine hideG fun GG hGG => ?_
  obtain ⟨rfl, rfl, rfl, rfl, rfl, rfl, rfl, rfl, rfl, rfl⟩ := hqa
  refine hGG ?_; clear hGG GG
  clear NN9 FF9 sd9
  refine hideG fun GG hGG => ?_
  suffices kk : ∀ fx, fx = [(q.fD, q.do), (q.kD, q.xD), (q.fH, q.hooked), (q.kH, q.xH), (q.fC, q.called), (q.kC, q.xC), (463, tabObj ps), (L + 2, q.oCalled), (L + 4, q.oHooked), (L + 3, q.oHere), (L + 5, q.oHooks), (L + 6, q.oRows), (L + 7, q.oTold), (L + 8, q.oVar)] → GG by exact kk _ rfl
  intro fx hfx
  refine hGG ?_; clear hGG GG
  have pm2 : ((q.fD, q.do) :: (q.kD, q.xD) :: (q.fH, q.hooked) :: (q.kH, q.xH) :: (q.fC, q.called) :: (q.kC, q.xC) :: (463, tabObj ps) :: (L + 2, q.oCalled) :: (L + 4, q.oHooked) :: r9).Perm (((L + 1, o1) :: fx) ++ (D ++ (P0.objs RC ++ (wT1 ++ (wS ++ wP))))) := by
    rw [hr9, hfx]
    exact List.perm_middle (l₁ := [(q.fD, q.do), (q.kD, q.xD), (q.fH, q.hooked), (q.kH, q.xH), (q.fC, q.called), (q.kC, q.xC), (463, tabObj ps), (L + 2, q.oCalled), (L + 4, q.oHooked)])
  have nd6 := nd_perm pm2 lts
  have N6 : News g L _ (((L + 1, o1) :: fx) ++ (D ++ (P0.objs RC ++ (wT1 ++ (wS ++ wP))))) := fun p hp => N5 p (pm2.mem_iff.mpr hp)
  have t3 := nd_split (nd_split (nd_split nd6).2.1).2.1
  have t4 := nd_split t3.2.1
  have sp := sep_of_nd nd6
  have oX : Own (XC prog w q TB SS r00) (wT1 ++ (wS ++ wP)) := star_own oT1 (star_own (C := ModeS SS 0 []) (D := PW prog w q r00) oS oP (nd_split t4.2.1).2.2) t4.2.2
  have hfxq : ∀ p ∈ q.st3, p ∈ fx := fun p hp => by
    rw [hfx]
    simp only [LS.st3, LS.st2, LS.st1, hq.var, hq.told, hq.rows, hq.hooks, hq.hooked, hq.here, hq.called] at hp
    refine subOf ?_ hp; lcg_off
  have hfxL : ∀ p ∈ fx, p.1 ≠ L + 1 := fun p hp => nd_head nd6 p (List.mem_append_left _ hp)
  obtain ⟨e1, e2, e3, e4⟩ := k2
  have I0 : LawI prog w q DK RC TB SS L fx 0 0 0 (fun y => if y = Str.ofString "do" then some (.ref q.fD) else m2 y) (((L + 1, o1) :: fx) ++ (D ++ (P0.objs RC ++ (wT1 ++ (wS ++ wP))))) :=
    LawI.mk (oS := o1) (D := D) (R := P0.objs RC) (X := wT1 ++ (wS ++ wP)) ⟨e1, e2, e3, e4, rfl⟩ ⟨d1, oD, rec_own l0, oX, sp, hns, fun w l e => (nomatch e), fun w l e => (nomatch e), Nat.le_refl _, Nat.le_refl _⟩
  have hps : (463, tabObj ps) ∈ fx := by rw [hfx]; exact mI 6 rfl
  clear N5 oX sp t3 t4 nd6 pm2 lts
  refine law_lap1 (q := q) (TB := TB) (SS := SS) (DK := DK) (RC := RC) (fx := fx) ok hq hfxq B' X' T' hdp (by omega) F5 N6 I0 hfxL ?_
  intro h7 tk7 m7 nw7 F7 N7 I7
  clear N6 F5 I0
  dsimp only
  repeat' (k_extra "W1")
  refine law_lap2 (q := q) (TB := TB) (SS := SS) (DK := DK) (RC := RC) (fx := fx) ok hq hfxq B' X' T' hdp (by omega) F7 N7 I7 hfxL ?_
  intro h8 tk8 m8 F8 N8
  clear N7 F7 I7
  dsimp only
  repeat' (first | (k_unfold; (try dsimp only)) | walk1 | (dsimp only; walk1) | fail "no step")
  exact hk _ _ _ ps F8 (fun p hp => N8 p (by rw [List.mem_singleton.mp hp]; exact hps))
end
section
set_option maxHeartbeats 4000000
section
theorem wtLawJ : True := by
  w_top off
  trivial
theorem vars_own {prog : Program} {w : World} {V H Vd df au pe Hd va : Addr} {oV oH odf oau ope ova : Obj} {kdf kau kpe kva : List (Int × Value)} {x : VarSt} (l : VarsL prog w V H Vd df au pe Hd va oV oH odf oau ope ova kdf kau kpe kva x) : Own (Vars prog w V H x) [(V, instObj 344 Vd), (Vd, oV), (df, odf), (au, oau), (pe, ope), (H, instObj 398 Hd), (Hd, oH), (va, ova)] :=
  fun _ hh => ⟨Vd, df, au, pe, Hd, va, oV, oH, odf, oau, ope, ova, kdf, kau, kpe, kva, rfl, l, hh⟩
theorem fold_led {G : Prop} {g : Heap} {L : Addr} {h : Heap} {a b c : List (Addr × Obj)} (N : News g L h (a ++ (b ++ c))) (n : ((a ++ (b ++ c)).map (·.1)).Nodup) (k : ∀ r, r = a ++ c → News g L h (b ++ r) → ((b ++ r).map (·.1)).Nodup → G) : G := by
  refine k _ rfl (fun p hp => N p ?_) ?_
  · rcases List.mem_append.mp hp with x | x
    · exact List.mem_append_right _ (List.mem_append_left _ x)
    · rcases List.mem_append.mp x with x | x
      · exact List.mem_append_left _ x
      · exact List.mem_append_right _ (List.mem_append_right _ x)
  · refine List.Perm.nodup (List.Perm.map _ ?_) n
    rw [← List.append_assoc, ← List.append_assoc]
    exact List.Perm.append_right _ List.perm_append_comm
section
variable {prog : Program} {w : World} {p : Program} {loose : List Str} {mean : ExcName → Option Value} {mg mb : Str → Option Value} {dp un : Nat} {gd : Option (List Code)} {cn : Str} {fa : Addr} {A₀ : Around} {base g : Heap} {L : Addr} {m : Str → Option Value} {s : Shared} {Q : Flow → Shared → Prop} {E : Value → Shared → Prop}
theorem law_join0 {DK Vd V df au pe Hd H va HKd HK hr Rd R rr dT TB mj mi od dS SS lOn T DT1 DT2 D0 : Addr} {oT1 oT2 oD0 oOd oMi oMj orr ohr ova ope oau odf o1 o2 o3 o4 o5 o6 o7 o8 : Obj} {v1 v2 v4 : Option Value} {ys : List Value} {ns : List Int} {cK nV : Nat}
    {ka kb kc kd ke kf kg kh ki kj kk : Int} {ta tb tc td te tf tg th ti tj tk tm : Tok}
    (F : Fr g L s.heap m) (N : News g L s.heap [(DT2, oT2), (T, listOf #[] 0), (lOn, listOf #[] 0), (SS, instObj 163 dS), (dS, dictOf [⟨ka, .str "major" ta, .int 0 tm⟩, ⟨kb, .str "on" tb, .ref lOn⟩] 2), (L + 8, o8), (L + 7, o7), (L + 6, o6), (L + 5, o5), (L + 4, o4), (L + 3, o3), (L + 2, o2), (L + 1, o1), (463, tabObj #[]), (od, oOd), (mi, oMi), (mj, oMj), (TB, instObj 135 dT), (dT, dictOf [⟨kc, .str "majors" tc, .ref mj⟩, ⟨kd, .str "minors" td, .ref mi⟩, ⟨ke, .str "order" te, .ref od⟩] 3), (DT1, oT1), (rr, orr), (R, instObj 248 Rd), (Rd, dictOf [⟨kf, .str "rows" tf, .ref rr⟩] 1), (hr, ohr), (HK, instObj 248 HKd), (HKd, dictOf [⟨kg, .str "rows" tg, .ref hr⟩] 1), (va, ova), (H, instObj 398 Hd), (Hd, dictOf [⟨kh, .str "values" th, .ref va⟩] 1), (pe, ope), (au, oau), (df, odf), (V, instObj 344 Vd), (Vd, dictOf [⟨ki, .str "defaults" ti, .ref df⟩, ⟨kj, .str "automatic" tj, .ref au⟩, ⟨kk, .str "permanent" tk, .ref pe⟩] nV), (DK, listOf ys.toArray cK), (D0, oD0)])
    (B' : Below A₀ base [] g) (X' : (hd.heap_1 w.params).In g) (T' : Top p loose mean mg mb g) (C : CodeHd g 465 463) (hdp : dp + 30 < 1000) (hu : un + 800 < 8000) (hPL : @LT.lt Nat _ 463 L)
    (hdk : m (Str.ofString "deck") = some (.ref DK)) (htb : m (Str.ofString "table") = some (.ref TB)) (hss : m (Str.ofString "state") = some (.ref SS)) (iy : IntsAre ys ns) (hns : ns.length < 60)
    (d1 : o1.data = .cell v1) (d2 : o2.data = .cell v2) (d3 : o3.data = .cell (some (.ref H))) (d4 : o4.data = .cell v4) (d5 : o5.data = .cell (some (.ref HK))) (d6 : o6.data = .cell (some (.ref R))) (d7 : o7.data = .cell (some (.ref T))) (d8 : o8.data = .cell (some (.ref V)))
    (idf : odf.IsDictOf (PySem.intKind prog w) []) (iau : oau.IsDictOf (PySem.intKind prog w) []) (ipe : ope.IsDictOf (PySem.intKind prog w) []) (iva : ova.IsDictOf (PySem.intKind prog w) []) (ihr : ohr.IsDictOf (PySem.intKind prog w) []) (irr : orr.IsDictOf (PySem.intKind prog w) []) (imj : oMj.IsDictOf (PySem.intKind prog w) [])
    (ldf : (df == sysModules) = false) (lau : (au == sysModules) = false) (lpe : (pe == sysModules) = false) (lva : (va == sysModules) = false) (lhr : (hr == sysModules) = false) (lrr : (rr == sysModules) = false) (lmj : (mj == sysModules) = false)
    (nd : List.Nodup [(DT2 : Nat), T, lOn, SS, dS, L + 8, L + 7, L + 6, L + 5, L + 4, L + 3, L + 2, L + 1, 463, od, mi, mj, TB, dT, DT1, rr, R, Rd, hr, HK, HKd, va, H, Hd, pe, au, df, V, Vd, DK, D0])
    (hk : ∀ h' tk' m' ps, Fr g L h' m' → News g L h' [(463, tabObj ps)] → Q (.ret (.bool true)) { s with heap := h', toks := tk' }) :
    wpAny (model prog w) (ktrTop dp un gd cn lawScope L fa (.ref 465) (lawCl L) []) (execs (lawBody.drop 2) (envX cn lawScope L fa (.ref 465) (lawCl L))) Q E s := by
  have s0 := nd_split (a := [(DK, listOf ys.toArray cK)] ++ ([(SS, instObj 163 dS), (dS, dictOf [⟨ka, .str "major" ta, .int 0 tm⟩, ⟨kb, .str "on" tb, .ref lOn⟩] 2), (lOn, listOf #[] 0)] ++ (([(T, listOf #[] 0)] ++ [(V, instObj 344 Vd), (Vd, dictOf [⟨ki, .str "defaults" ti, .ref df⟩, ⟨kj, .str "automatic" tj, .ref au⟩, ⟨kk, .str "permanent" tk, .ref pe⟩] nV), (df, odf), (au, oau), (pe, ope), (H, instObj 398 Hd), (Hd, dictOf [⟨kh, .str "values" th, .ref va⟩] 1), (va, ova)]) ++ ([(HK, instObj 248 HKd), (HKd, dictOf [⟨kg, .str "rows" tg, .ref hr⟩] 1), (hr, ohr)] ++ [(R, instObj 248 Rd), (Rd, dictOf [⟨kf, .str "rows" tf, .ref rr⟩] 1), (rr, orr)]))))
    (b := tabObjs TB dT mj (dictOf [⟨kc, .str "majors" tc, .ref mj⟩, ⟨kd, .str "minors" td, .ref mi⟩, ⟨ke, .str "order" te, .ref od⟩] 3) oMj [])
    (nd_idx 36 nd rfl [34, 3, 4, 2, 1, 32, 33, 31, 30, 29, 27, 28, 26, 24, 25, 23, 21, 22, 20, 17, 18, 16] (by decide) (by decide))
  have s1 := nd_split s0.1
  have s2 := nd_split s1.2.1
  have s3 := nd_split s2.2.1
  have s4 := nd_split s3.1
  have s5 := nd_split s3.2.1
  exact law_rest (D := [(DK, listOf ys.toArray cK)]) (wS := [(SS, instObj 163 dS), (dS, dictOf [⟨ka, .str "major" ta, .int 0 tm⟩, ⟨kb, .str "on" tb, .ref lOn⟩] 2), (lOn, listOf #[] 0)]) (wP := (([(T, listOf #[] 0)] ++ [(V, instObj 344 Vd), (Vd, dictOf [⟨ki, .str "defaults" ti, .ref df⟩, ⟨kj, .str "automatic" tj, .ref au⟩, ⟨kk, .str "permanent" tk, .ref pe⟩] nV), (df, odf), (au, oau), (pe, ope), (H, instObj 398 Hd), (Hd, dictOf [⟨kh, .str "values" th, .ref va⟩] 1), (va, ova)]) ++ ([(HK, instObj 248 HKd), (HKd, dictOf [⟨kg, .str "rows" tg, .ref hr⟩] 1), (hr, ohr)] ++ [(R, instObj 248 Rd), (Rd, dictOf [⟨kf, .str "rows" tf, .ref rr⟩] 1), (rr, orr)]))) (wT := tabObjs TB dT mj (dictOf [⟨kc, .str "majors" tc, .ref mj⟩, ⟨kd, .str "minors" td, .ref mi⟩, ⟨ke, .str "order" te, .ref od⟩] 3) oMj []) B' X' T' C hdp hu hPL F hdk htb hss d1 d2 d3 d4 d5 d6 d7 d8 (fun p hp => N p (sub_idx [13, 11, 9, 12, 10, 8, 7, 6, 5, 34, 3, 4, 2, 1, 32, 33, 31, 30, 29, 27, 28, 26, 24, 25, 23, 21, 22, 20, 17, 18, 16] p hp)) hns
    (fun h hh => ⟨rfl, ys, cK, hh _ (.head _), iy⟩)
    (table_own ⟨s0.2.1, ⟨_, _, _, _, _, _, _, _, rfl⟩, lmj, imj, rfl⟩)
    (modeS_own s2.1 .nil)
    (star_own (star_own (told_own (TT := []) s4.1 .nil) (vars_own ⟨s4.2.1, ⟨_, _, _, _, _, _, _, rfl⟩, ⟨_, _, _, rfl⟩, idf, iau, ipe, iva, ldf, lau, lpe, lva, ⟨fun p hp => (nomatch hp), fun k => .none⟩, ⟨fun p hp => (nomatch hp), fun k => .none⟩, ⟨fun p hp => (nomatch hp), fun k => .none⟩, ⟨fun p hp => (nomatch hp), fun k => .none⟩⟩) s4.2.2)
      (star_own (fun h hh => hook_empty s5.1 ⟨_, _, _, rfl⟩ lhr ihr hh) (fun h hh => hook_empty s5.2.1 ⟨_, _, _, rfl⟩ lrr irr hh) s5.2.2) s3.2.2)
    (by exact nd_idx 36 nd rfl [13, 11, 9, 12, 10, 8, 7, 6, 5, 34, 3, 4, 2, 1, 32, 33, 31, 30, 29, 27, 28, 26, 24, 25, 23, 21, 22, 20, 17, 18, 16] (by decide) (by decide)) hk
theorem law_join {r1 r2 r3 r4 r5 r6 : List (Addr × Obj)} {DK Vd V df au pe Hd H va HKd HK hr Rd R rr dT TB mj mi od dS SS lOn T DT1 DT2 D0 : Addr} {oT1 oT2 oD0 oOd oMi oMj orr ohr ova ope oau odf o1 o2 o3 o4 o5 o6 o7 o8 : Obj} {v1 v2 v4 : Option Value} {ys : List Value} {ns : List Int} {cK nV : Nat}
    {ka kb kc kd ke kf kg kh ki kj kk : Int} {ta tb tc td te tf tg th ti tj tk tm : Tok}
    (F : Fr g L s.heap m) (N : News g L s.heap ((DT2, oT2) :: (T, listOf #[] 0) :: (lOn, listOf #[] 0) :: (SS, instObj 163 dS) :: (dS, dictOf [⟨ka, .str "major" ta, .int 0 tm⟩, ⟨kb, .str "on" tb, .ref lOn⟩] 2) :: (L + 8, o8) :: (L + 7, o7) :: (L + 6, o6) :: (L + 5, o5) :: (L + 4, o4) :: (L + 3, o3) :: (L + 2, o2) :: (L + 1, o1) :: (463, tabObj #[]) :: r6))
    (h6 : r6 = [(od, oOd), (mi, oMi), (mj, oMj), (TB, instObj 135 dT), (dT, dictOf [⟨kc, .str "majors" tc, .ref mj⟩, ⟨kd, .str "minors" td, .ref mi⟩, ⟨ke, .str "order" te, .ref od⟩] 3)] ++ r5) (h5 : r5 = [(DT1, oT1), (rr, orr), (R, instObj 248 Rd), (Rd, dictOf [⟨kf, .str "rows" tf, .ref rr⟩] 1)] ++ r4) (h4 : r4 = [(hr, ohr), (HK, instObj 248 HKd), (HKd, dictOf [⟨kg, .str "rows" tg, .ref hr⟩] 1)] ++ r3) (h3 : r3 = [(va, ova), (H, instObj 398 Hd), (Hd, dictOf [⟨kh, .str "values" th, .ref va⟩] 1)] ++ r2) (h2 : r2 = [(pe, ope), (au, oau), (df, odf), (V, instObj 344 Vd), (Vd, dictOf [⟨ki, .str "defaults" ti, .ref df⟩, ⟨kj, .str "automatic" tj, .ref au⟩, ⟨kk, .str "permanent" tk, .ref pe⟩] nV)] ++ r1) (h1 : r1 = [(DK, listOf ys.toArray cK), (D0, oD0)] ++ ([] : List (Addr × Obj)))
    (B' : Below A₀ base [] g) (X' : (hd.heap_1 w.params).In g) (T' : Top p loose mean mg mb g) (C : CodeHd g 465 463) (hdp : dp + 30 < 1000) (hu : un + 800 < 8000) (hPL : @LT.lt Nat _ 463 L)
    (hdk : m (Str.ofString "deck") = some (.ref DK)) (htb : m (Str.ofString "table") = some (.ref TB)) (hss : m (Str.ofString "state") = some (.ref SS)) (iy : IntsAre ys ns) (hns : ns.length < 60)
    (d1 : o1.data = .cell v1) (d2 : o2.data = .cell v2) (d3 : o3.data = .cell (some (.ref H))) (d4 : o4.data = .cell v4) (d5 : o5.data = .cell (some (.ref HK))) (d6 : o6.data = .cell (some (.ref R))) (d7 : o7.data = .cell (some (.ref T))) (d8 : o8.data = .cell (some (.ref V)))
    (idf : odf.IsDictOf (PySem.intKind prog w) []) (iau : oau.IsDictOf (PySem.intKind prog w) []) (ipe : ope.IsDictOf (PySem.intKind prog w) []) (iva : ova.IsDictOf (PySem.intKind prog w) []) (ihr : ohr.IsDictOf (PySem.intKind prog w) []) (irr : orr.IsDictOf (PySem.intKind prog w) []) (imj : oMj.IsDictOf (PySem.intKind prog w) [])
    (ldf : (df == sysModules) = false) (lau : (au == sysModules) = false) (lpe : (pe == sysModules) = false) (lva : (va == sysModules) = false) (lhr : (hr == sysModules) = false) (lrr : (rr == sysModules) = false) (lmj : (mj == sysModules) = false)
    (nd : List.Nodup (DT2 :: T :: lOn :: SS :: dS :: (L + 8) :: (L + 7) :: (L + 6) :: (L + 5) :: (L + 4) :: (L + 3) :: (L + 2) :: (L + 1) :: 463 :: r6.map (·.1) : List Nat))
    (hk : ∀ h' tk' m' ps, Fr g L h' m' → News g L h' [(463, tabObj ps)] → Q (.ret (.bool true)) { s with heap := h', toks := tk' }) :
    wpAny (model prog w) (ktrTop dp un gd cn lawScope L fa (.ref 465) (lawCl L) []) (execs (lawBody.drop 2) (envX cn lawScope L fa (.ref 465) (lawCl L))) Q E s := by
  subst h6 h5 h4 h3 h2 h1
  exact law_join0 F N B' X' T' C hdp hu hPL hdk htb hss iy hns d1 d2 d3 d4 d5 d6 d7 d8 idf iau ipe iva ihr irr imj ldf lau lpe lva lhr lrr lmj nd hk
end
end
end
end
theorem last.tw10036213838678013359 : True := trivial
theorem last.tw10631363545974416819 : True := trivial
theorem last.tw10679459213224977485 : True := trivial
theorem last.tw1094190718071270203 : True := trivial
theorem last.tw11016047005285413347 : True := trivial
theorem last.tw11043612404523487044 : True := trivial
theorem last.tw1145992037419615363 : True := trivial
theorem last.tw1152089933672711470 : True := trivial
theorem last.tw11702763166585237873 : True := trivial
theorem last.tw1171595035623047615 : True := trivial
theorem last.tw11924653419597964938 : True := trivial
theorem last.tw11992556816843477234 : True := trivial
theorem last.tw12336769864405727494 : True := trivial
theorem last.tw12876431950021724259 : True := trivial
theorem last.tw12999093947552974618 : True := trivial
theorem last.tw13283179006050219827 : True := trivial
theorem last.tw13671237579712163722 : True := trivial
theorem last.tw14025694828441309732 : True := trivial
theorem last.tw14439579730067552879 : True := trivial
theorem last.tw14778393754442012273 : True := trivial
theorem last.tw15034061425823600160 : True := trivial
theorem last.tw15042790222634748998 : True := trivial
theorem last.tw15135699176215757502 : True := trivial
theorem last.tw15175467438380419727 : True := trivial
theorem last.tw154025651734801846 : True := trivial
theorem last.tw15578726392087692114 : True := trivial
theorem last.tw15905890222628331748 : True := trivial
theorem last.tw16221622002629782717 : True := trivial
theorem last.tw16341922759723915287 : True := trivial
theorem last.tw16454679927855208784 : True := trivial
theorem last.tw16469468603419325357 : True := trivial
theorem last.tw16639841969683853643 : True := trivial
theorem last.tw16772655747136340128 : True := trivial
theorem last.tw1704064304099463678 : True := trivial
theorem last.tw17095813544692029529 : True := trivial
theorem last.tw17456180755254613833 : True := trivial
theorem last.tw17926344223305783461 : True := trivial
theorem last.tw18078287044538499519 : True := trivial
theorem last.tw18090787411957541592 : True := trivial
theorem last.tw18327799548530707177 : True := trivial
theorem last.tw18370193591370769767 : True := trivial
theorem last.tw1870952410282292533 : True := trivial
theorem last.tw1874098583795739689 : True := trivial
theorem last.tw2081938353867878711 : True := trivial
theorem last.tw23081407857645265 : True := trivial
theorem last.tw2660410859677599824 : True := trivial
theorem last.tw274655733642614518 : True := trivial
theorem last.tw3159595319875107401 : True := trivial
theorem last.tw321738671351910166 : True := trivial
theorem last.tw3283927832560789276 : True := trivial
theorem last.tw3872729858753437498 : True := trivial
theorem last.tw4055019915741820758 : True := trivial
theorem last.tw4549596831892082843 : True := trivial
theorem last.tw4665830234813674808 : True := trivial
theorem last.tw529581954452839862 : True := trivial
theorem last.tw551272377417084603 : True := trivial
theorem last.tw5711070486618299646 : True := trivial
theorem last.tw5723518895799063779 : True := trivial
theorem last.tw5791191912647378322 : True := trivial
theorem last.tw5894396169400574349 : True := trivial
theorem last.tw5917051676816739237 : True := trivial
theorem last.tw6373156033057827698 : True := trivial
theorem last.tw6423415130334488556 : True := trivial
theorem last.tw6490091367666027746 : True := trivial
theorem last.tw6703995743864967868 : True := trivial
theorem last.tw676926054287962899 : True := trivial
theorem last.tw7102502908492211588 : True := trivial
theorem last.tw7206512338563680780 : True := trivial
theorem last.tw7435024820341785728 : True := trivial
theorem last.tw7569102661090316163 : True := trivial
theorem last.tw7677834612147438523 : True := trivial
theorem last.tw768460133952231279 : True := trivial
theorem last.tw7750382757028754281 : True := trivial
theorem last.tw7910016386579412318 : True := trivial
theorem last.tw8323716734498068969 : True := trivial
theorem last.tw842163824783303836 : True := trivial
theorem last.tw8431226282842735201 : True := trivial
theorem last.tw8614159640702707346 : True := trivial
theorem last.tw8770569147817646468 : True := trivial
theorem last.tw8788806777347303590 : True := trivial
theorem last.tw9514933490143626576 : True := trivial
theorem last.tw10049540362295309732 : True := trivial
theorem last.tw10117536899679713628 : True := trivial
theorem last.tw10219694654014636008 : True := trivial
theorem last.tw10235878646112008451 : True := trivial
theorem last.tw10381726916497216987 : True := trivial
theorem last.tw10401514254781416909 : True := trivial
theorem last.tw10464409878168084425 : True := trivial
theorem last.tw10472488738022451920 : True := trivial
theorem last.tw1055664892465749419 : True := trivial
theorem last.tw10574922997973916985 : True := trivial
theorem last.tw10751807176762323504 : True := trivial
theorem last.tw10754413340386528665 : True := trivial
theorem last.tw1082636312488409729 : True := trivial
theorem last.tw11023585240391856278 : True := trivial
theorem last.tw11043151417619952010 : True := trivial
theorem last.tw11079588468888394504 : True := trivial
theorem last.tw11241937290806639182 : True := trivial
theorem last.tw11331939609495943710 : True := trivial
theorem last.tw11339975457933402710 : True := trivial
theorem last.tw11416911231565820437 : True := trivial
theorem last.tw1149628671665379445 : True := trivial
theorem last.tw11531463789612604913 : True := trivial
theorem last.tw11671616901376824277 : True := trivial
theorem last.tw11806632084721962064 : True := trivial
theorem last.tw11848329299672374059 : True := trivial
theorem last.tw11868000327946228814 : True := trivial
theorem last.tw11920498307089448714 : True := trivial
theorem last.tw119655225840989875 : True := trivial
theorem last.tw12004558190712323559 : True := trivial
theorem last.tw12011781822702142409 : True := trivial
theorem last.tw12170417928370797771 : True := trivial
theorem last.tw123529866705478602 : True := trivial
theorem last.tw12357000687395616017 : True := trivial
theorem last.tw12387321227715365001 : True := trivial
theorem last.tw12409156610354949715 : True := trivial
theorem last.tw12434903278369279430 : True := trivial
theorem last.tw12483719300195982780 : True := trivial
theorem last.tw12486744124794355784 : True := trivial
theorem last.tw12487507602036965711 : True := trivial
theorem last.tw12501861227411782469 : True := trivial
theorem last.tw12570699196504947310 : True := trivial
theorem last.tw12576046470331166906 : True := trivial
theorem last.tw12654057440886062226 : True := trivial
theorem last.tw12746439749984235164 : True := trivial
theorem last.tw12746494404408685984 : True := trivial
theorem last.tw1276607286662316361 : True := trivial
theorem last.tw12786599654288322 : True := trivial
theorem last.tw12841665278468786251 : True := trivial
theorem last.tw12856131672449065292 : True := trivial
theorem last.tw12869319488368732684 : True := trivial
theorem last.tw12897467218873680808 : True := trivial
theorem last.tw129532386007965233 : True := trivial
theorem last.tw13001495363363932641 : True := trivial
theorem last.tw13051020634696901567 : True := trivial
theorem last.tw13082691577653477957 : True := trivial
theorem last.tw13115084039839839843 : True := trivial
theorem last.tw13124655565131906877 : True := trivial
theorem last.tw13130085122435717420 : True := trivial
theorem last.tw13133621163018995705 : True := trivial
theorem last.tw13138307915528667139 : True := trivial
theorem last.tw13171133504219887434 : True := trivial
theorem last.tw13198638941560342604 : True := trivial
theorem last.tw13273996203659798673 : True := trivial
theorem last.tw13274423731595823077 : True := trivial
theorem last.tw13314602455127384239 : True := trivial
theorem last.tw13330317320642422689 : True := trivial
theorem last.tw1335515535011246991 : True := trivial
theorem last.tw13358561272884701979 : True := trivial
theorem last.tw13389830087100160626 : True := trivial
theorem last.tw13521772686476016807 : True := trivial
theorem last.tw13684274207376111020 : True := trivial
theorem last.tw13685251730323808739 : True := trivial
theorem last.tw13734007743788925610 : True := trivial
theorem last.tw13749892457258309991 : True := trivial
theorem last.tw13754224540788417761 : True := trivial
theorem last.tw13825594833652693812 : True := trivial
theorem last.tw13902718323717708578 : True := trivial
theorem last.tw13950271230492438643 : True := trivial
theorem last.tw13967043286692568945 : True := trivial
theorem last.tw13991894941438344629 : True := trivial
theorem last.tw13997475677814153976 : True := trivial
theorem last.tw14038428957041900359 : True := trivial
theorem last.tw14048405928732915232 : True := trivial
theorem last.tw14056343435507404497 : True := trivial
theorem last.tw14114932320357401624 : True := trivial
theorem last.tw14235346643120684273 : True := trivial
theorem last.tw14286077422248870409 : True := trivial
theorem last.tw14327751753503991212 : True := trivial
theorem last.tw14329071726031790459 : True := trivial
theorem last.tw14350432469891877763 : True := trivial
theorem last.tw14387767130258179911 : True := trivial
theorem last.tw14397327610724063502 : True := trivial
theorem last.tw1439945519323873835 : True := trivial
theorem last.tw14647238879576648493 : True := trivial
theorem last.tw14666010391074928672 : True := trivial
theorem last.tw14671105484372105181 : True := trivial
theorem last.tw14720728527791197199 : True := trivial
theorem last.tw14745149495922153454 : True := trivial
theorem last.tw14754281193170142041 : True := trivial
theorem last.tw14771539749480405786 : True := trivial
theorem last.tw14772470482741377309 : True := trivial
theorem last.tw14790304936980319160 : True := trivial
theorem last.tw14820409984712600808 : True := trivial
theorem last.tw14880529525760195757 : True := trivial
theorem last.tw14903080187773928035 : True := trivial
theorem last.tw1493444377685119254 : True := trivial
theorem last.tw15064278891599888695 : True := trivial
theorem last.tw15154757385704553151 : True := trivial
theorem last.tw15291290184386352572 : True := trivial
theorem last.tw15364600845916371484 : True := trivial
theorem last.tw1538418651445523541 : True := trivial
theorem last.tw15429658314602171358 : True := trivial
theorem last.tw15520203649172918759 : True := trivial
theorem last.tw15525421225283253981 : True := trivial
theorem last.tw1556404782187060099 : True := trivial
theorem last.tw15604478672730125680 : True := trivial
theorem last.tw15615557874378484071 : True := trivial
theorem last.tw15648212715162435844 : True := trivial
theorem last.tw15663174843190288308 : True := trivial
theorem last.tw15685272908095733914 : True := trivial
theorem last.tw15737054446153920067 : True := trivial
theorem last.tw15783381633791083083 : True := trivial
theorem last.tw15802312652159173260 : True := trivial
theorem last.tw15862359022250397205 : True := trivial
theorem last.tw15877036200097864516 : True := trivial
theorem last.tw15886706560791326134 : True := trivial
theorem last.tw15900117908192359413 : True := trivial
theorem last.tw15934630214671366977 : True := trivial
theorem last.tw16003534883148804572 : True := trivial
theorem last.tw16075806352652550793 : True := trivial
theorem last.tw16154746991269529222 : True := trivial
theorem last.tw16185524462421727957 : True := trivial
theorem last.tw16216612767372720683 : True := trivial
theorem last.tw16237425901860796327 : True := trivial
theorem last.tw16264023839439705432 : True := trivial
theorem last.tw16277073790526562624 : True := trivial
theorem last.tw16418049474194368045 : True := trivial
theorem last.tw16421063382542117464 : True := trivial
theorem last.tw16471663448801344786 : True := trivial
theorem last.tw1650130374653822322 : True := trivial
theorem last.tw16525776644519291979 : True := trivial
theorem last.tw16529340369173639415 : True := trivial
theorem last.tw16687544082510498606 : True := trivial
theorem last.tw16743460562289956737 : True := trivial
theorem last.tw16800505203468938806 : True := trivial
theorem last.tw16819904596368451949 : True := trivial
theorem last.tw1683813502960098622 : True := trivial
theorem last.tw17050567147878981150 : True := trivial
theorem last.tw17151967411120996370 : True := trivial
theorem last.tw17214151275248838658 : True := trivial
theorem last.tw17224205245507428619 : True := trivial
theorem last.tw17497016161025822992 : True := trivial
theorem last.tw17570104814239230796 : True := trivial
theorem last.tw17579061258906159879 : True := trivial
theorem last.tw17609839957989435337 : True := trivial
theorem last.tw17661896625262201600 : True := trivial
theorem last.tw17791125489795934460 : True := trivial
theorem last.tw17796619739987388356 : True := trivial
theorem last.tw17956314331050296058 : True := trivial
theorem last.tw17969045605780327671 : True := trivial
theorem last.tw18012512386790586065 : True := trivial
theorem last.tw18030279353805403494 : True := trivial
theorem last.tw1811566187687178862 : True := trivial
theorem last.tw18166490263639295988 : True := trivial
theorem last.tw18226716553410523394 : True := trivial
theorem last.tw18290656407890446420 : True := trivial
theorem last.tw18299012551539574976 : True := trivial
theorem last.tw18328716769714585739 : True := trivial
theorem last.tw18334461306110397300 : True := trivial
theorem last.tw18337302238760953989 : True := trivial
theorem last.tw18385037418416272659 : True := trivial
theorem last.tw18393627857807093646 : True := trivial
theorem last.tw1882732765227575710 : True := trivial
theorem last.tw1908097669236867164 : True := trivial
theorem last.tw1941793344125931350 : True := trivial
theorem last.tw1979625517691235824 : True := trivial
theorem last.tw2013088027881054015 : True := trivial
theorem last.tw2020737122864069119 : True := trivial
theorem last.tw2043747555595480416 : True := trivial
theorem last.tw206313297382067807 : True := trivial
theorem last.tw2086446004497045444 : True := trivial
theorem last.tw2105541812228323351 : True := trivial
theorem last.tw2113994917940119356 : True := trivial
theorem last.tw2143231233321170909 : True := trivial
theorem last.tw2173629279987259319 : True := trivial
theorem last.tw2174007423228486729 : True := trivial
theorem last.tw2234623834923141959 : True := trivial
theorem last.tw2278069659366037579 : True := trivial
theorem last.tw2279313109605640804 : True := trivial
theorem last.tw2372717984251985466 : True := trivial
theorem last.tw2432903805903257143 : True := trivial
theorem last.tw2456660570177793374 : True := trivial
theorem last.tw2532329916004180977 : True := trivial
theorem last.tw2565904444421286011 : True := trivial
theorem last.tw2602124744087476535 : True := trivial
theorem last.tw2608247103525336130 : True := trivial
theorem last.tw2723262342485916564 : True := trivial
theorem last.tw2747632623502637511 : True := trivial
theorem last.tw2764509294994062840 : True := trivial
theorem last.tw2890338422019863821 : True := trivial
theorem last.tw2985196953531678098 : True := trivial
theorem last.tw2988443891360346987 : True := trivial
theorem last.tw3042889155176876963 : True := trivial
theorem last.tw3129818434282705566 : True := trivial
theorem last.tw3259919350160413785 : True := trivial
theorem last.tw3266476245091111833 : True := trivial
theorem last.tw3287737860961475330 : True := trivial
theorem last.tw3352669473419221136 : True := trivial
theorem last.tw3463078086654843916 : True := trivial
theorem last.tw3521009579746811052 : True := trivial
theorem last.tw3568590529810720171 : True := trivial
theorem last.tw3642146877424279724 : True := trivial
theorem last.tw370293420446227454 : True := trivial
theorem last.tw3720134573816871118 : True := trivial
theorem last.tw3753943079142717374 : True := trivial
theorem last.tw3773210507669116690 : True := trivial
theorem last.tw3808804766173103043 : True := trivial
theorem last.tw3811374795383566364 : True := trivial
theorem last.tw3815279006275133776 : True := trivial
theorem last.tw3852822523481245908 : True := trivial
theorem last.tw3884075511692762798 : True := trivial
theorem last.tw3916912713185794125 : True := trivial
theorem last.tw392186800250761748 : True := trivial
theorem last.tw3965615351614592584 : True := trivial
theorem last.tw3972788076185057113 : True := trivial
theorem last.tw3997622859499941364 : True := trivial
theorem last.tw4065699261675191273 : True := trivial
theorem last.tw411818212642816186 : True := trivial
theorem last.tw4212335981835010375 : True := trivial
theorem last.tw4231078687768760566 : True := trivial
theorem last.tw4275513446567537494 : True := trivial
theorem last.tw4330354009300067996 : True := trivial
theorem last.tw4382087585100251284 : True := trivial
theorem last.tw4489352310332661589 : True := trivial
theorem last.tw4527067458724910360 : True := trivial
theorem last.tw4548345346061211060 : True := trivial
theorem last.tw4613450751106642607 : True := trivial
theorem last.tw4622600468371530409 : True := trivial
theorem last.tw4652519663422326897 : True := trivial
theorem last.tw4744895783524843707 : True := trivial
theorem last.tw4757832930260003837 : True := trivial
theorem last.tw4759644671100168903 : True := trivial
theorem last.tw4774500528466893431 : True := trivial
theorem last.tw4775648110534309297 : True := trivial
theorem last.tw482859786049882620 : True := trivial
theorem last.tw486004223734884499 : True := trivial
theorem last.tw4861740457797309671 : True := trivial
theorem last.tw4907898213526839045 : True := trivial
theorem last.tw5184219747132975608 : True := trivial
theorem last.tw5199209674505628855 : True := trivial
theorem last.tw5278308409006462188 : True := trivial
theorem last.tw5333400592442765099 : True := trivial
theorem last.tw5343091459263445054 : True := trivial
theorem last.tw5385451667261043230 : True := trivial
theorem last.tw5403683335838434327 : True := trivial
theorem last.tw5425384072488922368 : True := trivial
theorem last.tw5530406944238510936 : True := trivial
theorem last.tw5609331490697025445 : True := trivial
theorem last.tw5694477398853684277 : True := trivial
theorem last.tw5725287709756559197 : True := trivial
theorem last.tw5742568100287426185 : True := trivial
theorem last.tw5839496084847975207 : True := trivial
theorem last.tw5894918470425236405 : True := trivial
theorem last.tw5926736210235335890 : True := trivial
theorem last.tw5937558520706737240 : True := trivial
theorem last.tw6067582666065259601 : True := trivial
theorem last.tw6193068715420883175 : True := trivial
theorem last.tw6300392285696104990 : True := trivial
theorem last.tw6357366562327059801 : True := trivial
theorem last.tw638584677652134651 : True := trivial
theorem last.tw6402651683661631325 : True := trivial
theorem last.tw6438550976138859957 : True := trivial
theorem last.tw6444475600280693636 : True := trivial
theorem last.tw644561668806717312 : True := trivial
theorem last.tw6452743999872295612 : True := trivial
theorem last.tw6504399552610319573 : True := trivial
theorem last.tw6510343413975923470 : True := trivial
theorem last.tw6663614290117239359 : True := trivial
theorem last.tw6672445491115935045 : True := trivial
theorem last.tw6715594467305019285 : True := trivial
theorem last.tw6792229261195423566 : True := trivial
theorem last.tw6831306113955643827 : True := trivial
theorem last.tw6906892187455378461 : True := trivial
theorem last.tw6936808017305970416 : True := trivial
theorem last.tw7004745991758839774 : True := trivial
theorem last.tw7032429484091546097 : True := trivial
theorem last.tw71087638378440292 : True := trivial
theorem last.tw7122741073828761301 : True := trivial
theorem last.tw7136090685723585848 : True := trivial
theorem last.tw716270746284104931 : True := trivial
theorem last.tw7218617756393847017 : True := trivial
theorem last.tw7451013743845143844 : True := trivial
theorem last.tw7495479113714852103 : True := trivial
theorem last.tw7500009262359249075 : True := trivial
theorem last.tw7608848404174853502 : True := trivial
theorem last.tw7646824199852514207 : True := trivial
theorem last.tw7672566583100824233 : True := trivial
theorem last.tw7674500570193836077 : True := trivial
theorem last.tw771147058122373684 : True := trivial
theorem last.tw7717091953664130596 : True := trivial
theorem last.tw7721277722394976020 : True := trivial
theorem last.tw7865008820425669374 : True := trivial
theorem last.tw7900609887659747780 : True := trivial
theorem last.tw7917452523313548185 : True := trivial
theorem last.tw7929813371879921803 : True := trivial
theorem last.tw7949868770774071567 : True := trivial
theorem last.tw8020923024066813184 : True := trivial
theorem last.tw806186546232654810 : True := trivial
theorem last.tw8072918055831811087 : True := trivial
theorem last.tw8100242246156594897 : True := trivial
theorem last.tw8116983448484602929 : True := trivial
theorem last.tw8179643291916979421 : True := trivial
theorem last.tw8213566372167003705 : True := trivial
theorem last.tw8236545094436185799 : True := trivial
theorem last.tw8322845650933900891 : True := trivial
theorem last.tw8341209100969983845 : True := trivial
theorem last.tw8342638533283432093 : True := trivial
theorem last.tw8437194870003878392 : True := trivial
theorem last.tw8470084104675506460 : True := trivial
theorem last.tw8492224814563689238 : True := trivial
theorem last.tw849341968575242291 : True := trivial
theorem last.tw8506156715240851187 : True := trivial
theorem last.tw8544852301096862424 : True := trivial
theorem last.tw8589991491463250614 : True := trivial
theorem last.tw8725584235303315985 : True := trivial
theorem last.tw8735426274623292709 : True := trivial
theorem last.tw8743816605715451828 : True := trivial
theorem last.tw8755088110534145453 : True := trivial
theorem last.tw8779137388799610097 : True := trivial
theorem last.tw8780857599125482397 : True := trivial
theorem last.tw881293745290852171 : True := trivial
theorem last.tw8818849804988446275 : True := trivial
theorem last.tw8824193592687915223 : True := trivial
theorem last.tw8848700977156393181 : True := trivial
theorem last.tw8942752187487623502 : True := trivial
theorem last.tw901965994326303587 : True := trivial
theorem last.tw9113940065345582952 : True := trivial
theorem last.tw9139127218840456999 : True := trivial
theorem last.tw9150935819152602319 : True := trivial
theorem last.tw9189684353907403674 : True := trivial
theorem last.tw9268643954350310968 : True := trivial
theorem last.tw929920880295355776 : True := trivial
theorem last.tw933177536629796587 : True := trivial
theorem last.tw933973016105513349 : True := trivial
theorem last.tw9382506655349747434 : True := trivial
theorem last.tw952037712343499867 : True := trivial
theorem last.tw9527770350571094675 : True := trivial
theorem last.tw9564576162993386496 : True := trivial
theorem last.tw9576433690032333941 : True := trivial
theorem last.tw9736257930838599554 : True := trivial
theorem last.tw9755285730956315117 : True := trivial
theorem last.tw9812708036469290079 : True := trivial
theorem last.tw9846957020989748425 : True := trivial
theorem last.tw9929307243222482580 : True := trivial
theorem last.tw14374325043358763698 : True := trivial
theorem last.tw14364793385576792824 : True := trivial
theorem last.tw2368527892694137696 : True := trivial
theorem last.tw10110043849684766642 : True := trivial
theorem last.tw2386780881361962483 : True := trivial
theorem last.tw821141287760084731 : True := trivial
theorem last.tw14082659384304107361 : True := trivial
theorem last.tw16090120013241838585 : True := trivial
theorem last.tw3247288618530077131 : True := trivial
theorem last.tw11788848310118352699 : True := trivial
theorem last.tw9807087744658564304 : True := trivial
theorem last.tw12862048085361865435 : True := trivial
theorem last.tw8377067652309620493 : True := trivial
theorem last.tw18344453789297297638 : True := trivial
theorem last.tw3471404346716756564 : True := trivial
theorem last.tw14412699480532031325 : True := trivial
theorem last.tw8326940854005059898 : True := trivial
theorem last.tw5923862056798008813 : True := trivial
theorem last.tw17691160309236699985 : True := trivial
theorem last.tw13343964577679436407 : True := trivial
theorem last.tw17119622794617984870 : True := trivial
theorem last.tw17868728402115742887 : True := trivial
theorem last.tw9706382859710513879 : True := trivial
theorem last.tw2357444279172408678 : True := trivial
theorem last.tw4857012375875476094 : True := trivial
theorem last.tw13582783067957832011 : True := trivial
theorem last.tw5318747976498570220 : True := trivial
theorem last.tw4579403493507170074 : True := trivial
theorem last.tw4274047373036748609 : True := trivial
theorem last.tw12749700546528644094 : True := trivial
theorem last.tw10501279942588096481 : True := trivial
theorem last.tw8179353310426384613 : True := trivial
theorem last.tw797321630700447069 : True := trivial
theorem last.tw9572597257264208301 : True := trivial
theorem last.tw9558739934217749035 : True := trivial
theorem last.tw16286561074155671207 : True := trivial
theorem last.tw6984425678791042302 : True := trivial
theorem last.tw17095254045102204799 : True := trivial
theorem last.tw12879404354523853263 : True := trivial
theorem last.tw482687673346738481 : True := trivial
theorem last.tw10792542408131684335 : True := trivial
theorem last.tw7723801398212525404 : True := trivial
theorem last.tw7317090234206586261 : True := trivial
theorem last.tw10880121769531294198 : True := trivial
theorem last.tw3399658132070893891 : True := trivial
theorem last.tw7409074990110511671 : True := trivial
theorem last.tw13664370479719496447 : True := trivial
theorem last.tw14722251495701143533 : True := trivial
theorem last.tw10994771534591457954 : True := trivial
theorem last.tw11698064438423848299 : True := trivial
theorem last.tw5160383126252970620 : True := trivial
theorem last.tw5991557255702980513 : True := trivial
theorem last.tw8920871248978507458 : True := trivial
theorem last.tw15667345088766844465 : True := trivial
theorem last.tw11892475500146522536 : True := trivial
theorem last.tw7369524293546568484 : True := trivial
theorem last.tw479339242167458305 : True := trivial
theorem kwMain11 : True := by
  k_with_none
  k_with "W1" => ((fail_if_success (with_reducible show wpAny _ _ (PySem.call (Value.ref _) _ _) _ _ _)); (fail_if_success (with_reducible show wpAny _ _ (pyIter _) _ _ _)); (fail_if_success (with_reducible show wpAny _ _ (PySem.exec (Stmt.For _ _ _ _ _) _) _ _ _)); first | (k_unfold; (try dsimp only)) | walk1 | (dsimp only; walk1) | fail "no step")
  k_with "omega" => first | exact Nat.le_of_ble_eq_true rfl | with_reducible assumption | exact Mine.o1 (by with_reducible assumption) (by exact rfl) | exact Mine.o3 (by with_reducible assumption) (by exact rfl) | exact Mine.o2 (by with_reducible assumption) (by exact rfl) | exact Mine.o4 (by with_reducible assumption) (by exact rfl) | exact Mine.o5 (by with_reducible assumption) (by exact rfl) | exact Mine.o6 (by with_reducible assumption) (by exact rfl) | exact Mine.o7 (by with_reducible assumption) (by exact rfl) | exact Mine.o8 (by with_reducible assumption) (by exact rfl) | exact Mine.o9 (by with_reducible assumption) (by exact rfl) | exact Mine.o10 (by with_reducible assumption) (by exact rfl) | exact Mine.o11 (by with_reducible assumption) (by exact rfl) | exact Mine.o12 (by with_reducible assumption) (by exact rfl) | exact Mine.o13 (by with_reducible assumption) (by exact rfl) | exact Nat.ne_of_lt (by with_reducible assumption) | exact Nat.ne_of_gt (by with_reducible assumption) | exact Nat.le_of_lt (by with_reducible assumption) | fail
  k_with "k_updF" => (refine' Mine.updF_nd (by repeat (first | exact Mine.UpdG.head | apply Mine.UpdG.tail)) (by ((try dsimp only [List.map]); first | with_reducible assumption | exact Mine.SD.all (by with_reducible assumption) | exact Mine.nd_ne (by dsimp only [Mine.NeAll]; with_reducible assumption) (Mine.SD.all (by with_reducible assumption)) | exact List.nodup_cons.mpr ⟨List.not_mem_nil, List.nodup_nil⟩ | exact Mine.nd_cells8 (by with_reducible assumption))))
  k_with "k_upd" => (refine' Mine.upd_nd (by repeat (first | exact Mine.UpdH.head | apply Mine.UpdH.tail)) (by ((try dsimp only [List.map]); first | with_reducible assumption | exact Mine.SD.all (by with_reducible assumption) | exact Mine.nd_ne (by dsimp only [Mine.NeAll]; with_reducible assumption) (Mine.SD.all (by with_reducible assumption)) | exact List.nodup_cons.mpr ⟨List.not_mem_nil, List.nodup_nil⟩ | exact Mine.nd_cells8 (by with_reducible assumption))))
  k_with "k_lt0" => skip
  k_with "nd9" => ((try dsimp only [List.map]); first | with_reducible assumption | exact Mine.SD.all (by with_reducible assumption) | exact Mine.nd_ne (by dsimp only [Mine.NeAll]; with_reducible assumption) (Mine.SD.all (by with_reducible assumption)) | exact List.nodup_cons.mpr ⟨List.not_mem_nil, List.nodup_nil⟩ | exact Mine.nd_cells8 (by with_reducible assumption))
  trivial
set_option maxRecDepth 100000 in
set_option maxHeartbeats 20000000 in
set_option Elab.async true in
theorem last : PySem.Challenge.rw_pq0278_01.Holds := by
  w_top off
  w_on; o_law; k_head; (case hw => w_witness2)
  k_go0
  all_goals try k_fold
  repeat' ((fail_if_success (with_reducible show wpAny _ _ (PySem.call (Value.ref _) _ _) _ _ _)); (fail_if_success (with_reducible show wpAny _ _ (PySem.execs (Stmt.For _ _ _ _ _ :: _) _) _ _ _)); first | (k_unfold; (try dsimp only)) | walk1 | (dsimp only; walk1) | (leave1; walk_say "STEP leave1"; try dsimp only) | fail "no step")
  (with_reducible rename News _ _ _ _ => NN)
  refine Mine.fold_led (a := [_, _]) (b := [_, _, _, _, _, _, _, _, _]) (c := []) NN (by dsimp only [List.map, List.cons_append, List.nil_append]; first | with_reducible assumption | exact Mine.SD.all (by with_reducible assumption) | exact Mine.nd_ne (by dsimp only [Mine.NeAll]; with_reducible assumption) (Mine.SD.all (by with_reducible assumption))) fun r1 hr1 N1 nd1 => ?_
  clear NN
  dsimp only [List.map, List.cons_append, List.nil_append] at N1 nd1
  refine Mine.mk_vars (by assumption) (by assumption) (by assumption) rfl (by decide) (by decide) (by assumption) N1 nd1 ?_
  intros; k_sweep
  (with_reducible rename News _ _ _ _ => NN9)
  (with_reducible rename Mine.SD _ _ => sd9)
  dsimp only [List.map, List.cons_append, List.nil_append] at NN9 sd9
  repeat' ((fail_if_success (with_reducible show wpAny _ _ (PySem.call (Value.ref _) _ _) _ _ _)); (fail_if_success (with_reducible show wpAny _ _ (PySem.execs (Stmt.For _ _ _ _ _ :: _) _) _ _ _)); first | (k_unfold; (try dsimp only)) | walk1 | (dsimp only; walk1) | (leave1; walk_say "STEP leave1"; try dsimp only) | fail "no step")
  (with_reducible rename News _ _ _ _ => NN)
  refine Mine.fold_led (a := [_, _, _, _, _]) (b := [_, _, _, _, _, _, _, _, _]) (c := r1) NN (by dsimp only [List.map, List.cons_append, List.nil_append]; first | with_reducible assumption | exact Mine.SD.all (by with_reducible assumption) | exact Mine.nd_ne (by dsimp only [Mine.NeAll]; with_reducible assumption) (Mine.SD.all (by with_reducible assumption))) fun r2 hr2 N2 nd2 => ?_
  clear NN
  dsimp only [List.map, List.cons_append, List.nil_append] at N2 nd2
  refine Mine.mk_locals (by assumption) (by assumption) (by assumption) rfl (by decide) (by decide) (by assumption) N2 nd2 ?_
  intros; k_sweep
  (with_reducible rename News _ _ _ _ => NN9)
  (with_reducible rename Mine.SD _ _ => sd9)
  dsimp only [List.map, List.cons_append, List.nil_append] at NN9 sd9
  repeat' ((fail_if_success (with_reducible show wpAny _ _ (PySem.call (Value.ref _) _ _) _ _ _)); (fail_if_success (with_reducible show wpAny _ _ (PySem.execs (Stmt.For _ _ _ _ _ :: _) _) _ _ _)); first | (k_unfold; (try dsimp only)) | walk1 | (dsimp only; walk1) | (leave1; walk_say "STEP leave1"; try dsimp only) | fail "no step")
  (with_reducible rename News _ _ _ _ => NN)
  refine Mine.fold_led (a := [_, _, _]) (b := [_, _, _, _, _, _, _, _, _]) (c := r2) NN (by dsimp only [List.map, List.cons_append, List.nil_append]; first | with_reducible assumption | exact Mine.SD.all (by with_reducible assumption) | exact Mine.nd_ne (by dsimp only [Mine.NeAll]; with_reducible assumption) (Mine.SD.all (by with_reducible assumption))) fun r3 hr3 N3 nd3 => ?_
  clear NN
  dsimp only [List.map, List.cons_append, List.nil_append] at N3 nd3
  refine Mine.mk_hooks (by assumption) (by assumption) (by assumption) rfl (by decide) (by decide) (by assumption) N3 nd3 ?_
  intros; k_sweep
  (with_reducible rename News _ _ _ _ => NN9)
  (with_reducible rename Mine.SD _ _ => sd9)
  dsimp only [List.map, List.cons_append, List.nil_append] at NN9 sd9
  repeat' ((fail_if_success (with_reducible show wpAny _ _ (PySem.call (Value.ref _) _ _) _ _ _)); (fail_if_success (with_reducible show wpAny _ _ (PySem.execs (Stmt.For _ _ _ _ _ :: _) _) _ _ _)); first | (k_unfold; (try dsimp only)) | walk1 | (dsimp only; walk1) | (leave1; walk_say "STEP leave1"; try dsimp only) | fail "no step")
  (with_reducible rename News _ _ _ _ => NN)
  refine Mine.fold_led (a := [_, _, _]) (b := [_, _, _, _, _, _, _, _, _]) (c := r3) NN (by dsimp only [List.map, List.cons_append, List.nil_append]; first | with_reducible assumption | exact Mine.SD.all (by with_reducible assumption) | exact Mine.nd_ne (by dsimp only [Mine.NeAll]; with_reducible assumption) (Mine.SD.all (by with_reducible assumption))) fun r4 hr4 N4 nd4 => ?_
  clear NN
  dsimp only [List.map, List.cons_append, List.nil_append] at N4 nd4
  refine Mine.mk_hooks (by assumption) (by assumption) (by assumption) rfl (by decide) (by decide) (by assumption) N4 nd4 ?_
  intros; k_sweep
  (with_reducible rename News _ _ _ _ => NN9)
  (with_reducible rename Mine.SD _ _ => sd9)
  dsimp only [List.map, List.cons_append, List.nil_append] at NN9 sd9
  repeat' ((fail_if_success (with_reducible show wpAny _ _ (PySem.call (Value.ref _) _ _) _ _ _)); (fail_if_success (with_reducible show wpAny _ _ (PySem.execs (Stmt.For _ _ _ _ _ :: _) _) _ _ _)); first | (k_unfold; (try dsimp only)) | walk1 | (dsimp only; walk1) | (leave1; walk_say "STEP leave1"; try dsimp only) | fail "no step")
  (with_reducible rename News _ _ _ _ => NN)
  refine Mine.fold_led (a := [_, _, _, _]) (b := [_, _, _, _, _, _, _, _, _]) (c := r4) NN (by dsimp only [List.map, List.cons_append, List.nil_append]; first | with_reducible assumption | exact Mine.SD.all (by with_reducible assumption) | exact Mine.nd_ne (by dsimp only [Mine.NeAll]; with_reducible assumption) (Mine.SD.all (by with_reducible assumption))) fun r5 hr5 N5 nd5 => ?_
  clear NN
  dsimp only [List.map, List.cons_append, List.nil_append] at N5 nd5
  refine Mine.mk_table (by assumption) (by assumption) (by assumption) rfl (by decide) (by decide) (by assumption) N5 nd5 ?_
  intros; k_sweep
  (with_reducible rename News _ _ _ _ => NN9)
  (with_reducible rename Mine.SD _ _ => sd9)
  dsimp only [List.map, List.cons_append, List.nil_append] at NN9 sd9
  repeat' ((fail_if_success (with_reducible show wpAny _ _ (PySem.call (Value.ref _) _ _) _ _ _)); (fail_if_success (with_reducible show wpAny _ _ (PySem.execs (Stmt.For _ _ _ _ _ :: _) _) _ _ _)); first | (k_unfold; (try dsimp only)) | walk1 | (dsimp only; walk1) | (leave1; walk_say "STEP leave1"; try dsimp only) | fail "no step")
  (with_reducible rename News _ _ _ _ => NN)
  refine Mine.fold_led (a := [_, _, _, _, _]) (b := [_, _, _, _, _, _, _, _, _]) (c := r5) NN (by dsimp only [List.map, List.cons_append, List.nil_append]; first | with_reducible assumption | exact Mine.SD.all (by with_reducible assumption) | exact Mine.nd_ne (by dsimp only [Mine.NeAll]; with_reducible assumption) (Mine.SD.all (by with_reducible assumption))) fun r6 hr6 N6 nd6 => ?_
  clear NN
  dsimp only [List.map, List.cons_append, List.nil_append] at N6 nd6
  refine Mine.mk_state (by assumption) (by assumption) (by assumption) rfl (by decide) (by decide) (by assumption) N6 nd6 ?_
  intros; k_sweep
  (with_reducible rename News _ _ _ _ => NN9)
  (with_reducible rename Mine.SD _ _ => sd9)
  dsimp only [List.map, List.cons_append, List.nil_append] at NN9 sd9
  repeat' ((fail_if_success (with_reducible show wpAny _ _ (PySem.execs (Stmt.For _ _ _ _ _ :: _) _) _ _ _)); first | (k_unfold; (try dsimp only)) | walk1 | (dsimp only; walk1) | (leave1; walk_say "STEP leave1"; try dsimp only) | fail "no step")
  (with_reducible rename Fr _ _ _ _ => FF)
  (with_reducible rename News _ _ _ _ => NN)
  refine law_join FF NN hr6 hr5 hr4 hr3 hr2 hr1 (by assumption) (by assumption) (by assumption) (by assumption) (by decide) (by decide) (Mine.SD.lt (l := [463]) (by with_reducible assumption) 463 (.head _)) rfl rfl rfl (by assumption) (by rw [List.length_map, List.length_take]; omega)
    (by assumption) (by assumption) (by assumption) (by assumption) (by assumption) (by assumption) (by assumption) (by assumption)
    (by assumption) (by assumption) (by assumption) (by assumption) (by assumption) (by assumption) (by assumption)
    (by assumption) (by assumption) (by assumption) (by assumption) (by assumption) (by assumption) (by assumption)
    (Mine.SD.all (by assumption)) ?_
  intro h' tk' m' ps F' N'
  repeat' (first | (k_unfold; (try dsimp only)) | (k_end; wrow_close) | walk1 | (dsimp only; walk1) | (leave1; walk_say "STEP leave1"; try dsimp only) | fail "no step")
end Mine
theorem PySem.Challenge.cw_pq0278_01_holds : PySem.Challenge.rw_pq0278_01.Holds :=
  Mine.last
