import PyProof.Rows.All
import Wide.All
import OpenK.AllK
import Wide.FinOn
import KE.KStateDown
import KE.KLam
import KE.SortKeyHeap
import HandS.ForExc
import HandS.ForMost
import HandS.Defaults
import HandS.ClsMeth
import HandS.IsInst
import HandS.NoneIn
import HandS.Zip
import HandS.Lambda
import HandS.Nested
import HandS.Flow
import HandS.More
import HandS.HeadHook4
import HandS.HeadWalk
import HandS.Head0
import HandS.Head1
import HandS.Head2
import HandS.HeadEnd
import HandS.SortKw
import PySem.Challenge.RW_wirehall_k55_whole_no_wire_twice
set_option Elab.async false
set_option linter.all false
set_option maxRecDepth 100000
/-! k55: the plain mathematics: plans, what rules tell, how a ringing is followed. No program in sight. -/
namespace K55
open PySem (Str)
abbrev Rows := List (List Nat × Int)
/-- the signs of a text -/
def sg (z : Str) : List Nat := z.cps.toList
theorem sg_inj {a b : Str} (h : sg a = sg b) : a = b := by
  cases a with | mk x => cases b with | mk y =>
    have e : x = y := Array.toList_inj.mp h
    rw [e]
/-! ### the longest beginning, size by size from above -/
def longN (rows : Rows) (z : List Nat) : Nat → Option (List Nat)
  | 0 => none
  | n + 1 => if (rows.lookup (z.take (n + 1))).isSome then some (z.take (n + 1)) else longN rows z n
def longest (rows : Rows) (z : List Nat) : Option (List Nat) := longN rows z z.length
def wireOf (rows : Rows) (z : List Nat) : Option Int := (longest rows z).bind fun f => rows.lookup f
theorem lookup_of_mem : ∀ {rows : Rows} {f : List Nat} {w : Int}, (rows.map (·.1)).Nodup → (f, w) ∈ rows → rows.lookup f = some w
  | [], _, _, _, h => by cases h
  | (g, v) :: r, f, w, nd, h => by
    have nd' : (g :: r.map (·.1)).Nodup := nd
    obtain ⟨h1, h2⟩ := List.nodup_cons.mp nd'
    rw [List.lookup_cons]
    rcases List.mem_cons.mp h with e | hm
    · injection e with e1 e2
      subst e1 e2
      have : (f == f) = true := beq_self_eq_true f
      simp only [this]
    · by_cases e : f = g
      · subst e
        exact absurd (List.mem_map.mpr ⟨(f, w), hm, rfl⟩ : f ∈ r.map (·.1)) h1
      · have : (f == g) = false := beq_eq_false_iff_ne.mpr e
        simp only [this]
        exact lookup_of_mem h2 hm
theorem mem_of_lookup : ∀ {rows : Rows} {f : List Nat} {w : Int}, rows.lookup f = some w → (f, w) ∈ rows
  | [], _, _, h => by cases h
  | (g, v) :: r, f, w, h => by
    rw [List.lookup_cons] at h
    cases e : (f == g) with
    | true =>
      rw [e] at h
      have e1 : f = g := eq_of_beq e
      have e2 : v = w := Option.some.inj h
      subst e1 e2
      exact List.mem_cons_self
    | false =>
      rw [e] at h
      exact List.mem_cons_of_mem _ (mem_of_lookup h)
/-- what longN finds -/
theorem longN_some {rows : Rows} {z : List Nat} : ∀ {n : Nat} {f : List Nat}, longN rows z n = some f → (∃ k, 0 < k ∧ k ≤ n ∧ f = z.take k ∧ (rows.lookup f).isSome = true) ∧
    ∀ k, 0 < k → k ≤ n → (rows.lookup (z.take k)).isSome = true → (z.take k).length ≤ f.length
  | 0, _, h => by cases h
  | n + 1, f, h => by
    unfold longN at h
    split at h
    · rename_i c
      have e : z.take (n + 1) = f := Option.some.inj h
      subst e
      refine ⟨⟨n + 1, by omega, Nat.le_refl _, rfl, c⟩, fun k _ hk _ => ?_⟩
      rw [List.length_take, List.length_take]
      omega
    · rename_i c
      obtain ⟨⟨k, h1, h2, h3, h4⟩, h5⟩ := longN_some h
      refine ⟨⟨k, h1, by omega, h3, h4⟩, fun j j0 j1 j2 => ?_⟩
      by_cases e : j = n + 1
      · subst e
        exact absurd j2 c
      · exact h5 j j0 (by omega) j2
theorem longN_none {rows : Rows} {z : List Nat} : ∀ {n : Nat}, longN rows z n = none → ∀ k, 0 < k → k ≤ n → (rows.lookup (z.take k)).isSome = false
  | 0, _, k, h1, h2 => by omega
  | n + 1, h, k, h1, h2 => by
    unfold longN at h
    split at h
    · cases h
    · rename_i c
      by_cases e : k = n + 1
      · subst e
        exact Bool.eq_false_iff.mpr c
      · exact longN_none h k h1 (by omega)
theorem take_of_pre {f z : List Nat} (h : f <+: z) : f = z.take f.length := List.prefix_iff_eq_take.mp h
/-- a beginning of z among the rows -/
structure Pre (rows : Rows) (z f : List Nat) (w : Int) : Prop where
  mem : (f, w) ∈ rows
  pre : f <+: z
structure Best (rows : Rows) (z f : List Nat) (w : Int) : Prop extends Pre rows z f w where
  max : ∀ g v, Pre rows z g v → g.length ≤ f.length
theorem wireOf_best {rows : Rows} {z f : List Nat} {w : Int} (nd : (rows.map (·.1)).Nodup) (ne : ∀ p ∈ rows, p.1 ≠ []) (b : Best rows z f w) : longest rows z = some f ∧ wireOf rows z = some w := by
  have hf := take_of_pre b.pre
  have hl := lookup_of_mem nd b.mem
  have h0 : 0 < f.length := List.length_pos_iff.mpr (ne _ b.mem)
  have hz : f.length ≤ z.length := b.pre.length_le
  cases e : longN rows z z.length with
  | none =>
    have q := longN_none e f.length h0 hz
    rw [← hf, hl] at q
    cases q
  | some g =>
    obtain ⟨⟨k, k0, k1, k2, k3⟩, k4⟩ := longN_some e
    have q := k4 f.length h0 hz (by rw [← hf, hl]; rfl)
    rw [← hf] at q
    obtain ⟨v, hv⟩ := Option.isSome_iff_exists.mp k3
    have gm := mem_of_lookup hv
    have gp : g <+: z := by rw [k2]; exact List.take_prefix _ _
    have r := b.max g v ⟨gm, gp⟩
    have eg : g = f := by
      rw [take_of_pre gp, hf]
      have : g.length = f.length := by omega
      rw [this, ← hf]
    subst eg
    exact ⟨e, by unfold wireOf longest; rw [e]; exact hl⟩
theorem wireOf_none {rows : Rows} {z : List Nat} (nd : (rows.map (·.1)).Nodup) (ne : ∀ p ∈ rows, p.1 ≠ []) (h : ∀ f w, ¬ Pre rows z f w) : longest rows z = none ∧ wireOf rows z = none := by
  cases e : longN rows z z.length with
  | none => exact ⟨e, by unfold wireOf longest; rw [e]; rfl⟩
  | some g =>
    obtain ⟨⟨k, k0, k1, k2, k3⟩, k4⟩ := longN_some e
    obtain ⟨v, hv⟩ := Option.isSome_iff_exists.mp k3
    exact absurd ⟨mem_of_lookup hv, by rw [k2]; exact List.take_prefix _ _⟩ (h g v)
/-! ### the last one of the rows by rising sizes -/
def lastPre (S : Rows) (z : List Nat) : Option Int := S.foldl (fun acc p => if p.1 <+: z then some p.2 else acc) none
theorem lastPre_snoc (S : Rows) (z : List Nat) (p : List Nat × Int) : lastPre (S ++ [p]) z = if p.1 <+: z then some p.2 else lastPre S z := by
  unfold lastPre
  rw [List.foldl_append]
  rfl
theorem lastPre_spec : ∀ (n : Nat) (S : Rows) (z : List Nat), S.length = n → S.Pairwise (fun p q => p.1.length ≤ q.1.length) → (lastPre S z = none ∧ ∀ f w, ¬ Pre S z f w) ∨ ∃ f w, lastPre S z = some w ∧ Best S z f w
  | 0, S, z, hn, _ => by
    have e : S = [] := List.length_eq_zero_iff.mp hn
    subst e
    exact .inl ⟨rfl, fun f w h => by cases h.mem⟩
  | n + 1, S, z, hn, hs => by
    have hne : S ≠ [] := by intro e; subst e; cases hn
    have e := List.dropLast_concat_getLast hne
    generalize S.getLast hne = p at e
    generalize S.dropLast = T at e
    subst e
    rw [List.length_append] at hn
    obtain ⟨h1, _, h3⟩ := List.pairwise_append.mp hs
    rw [lastPre_snoc]
    by_cases c : p.1 <+: z
    · refine .inr ⟨p.1, p.2, by rw [if_pos c], ⟨List.mem_append_right _ List.mem_cons_self, c⟩, fun g v h => ?_⟩
      rcases List.mem_append.mp h.mem with m | m
      · exact h3 (g, v) m p List.mem_cons_self
      · have e : (g, v) = p := List.mem_singleton.mp m
        rw [← e]
        exact Nat.le_refl _
    · rw [if_neg c]
      rcases lastPre_spec n T z (by simpa using hn) h1 with ⟨a, b⟩ | ⟨f, w, a, b⟩
      · refine .inl ⟨a, fun f w h => ?_⟩
        rcases List.mem_append.mp h.mem with m | m
        · exact b f w ⟨m, h.pre⟩
        · have e : (f, w) = p := List.mem_singleton.mp m
          rw [← e] at c
          exact c h.pre
      · refine .inr ⟨f, w, a, ⟨List.mem_append_left _ b.mem, b.pre⟩, fun g v h => ?_⟩
        rcases List.mem_append.mp h.mem with m | m
        · exact b.max g v ⟨m, h.pre⟩
        · have e : (g, v) = p := List.mem_singleton.mp m
          rw [← e] at c
          exact absurd h.pre c
/-- both readings of a plan agree -/
theorem lastPre_wire {rows S : Rows} {z : List Nat} (nd : (rows.map (·.1)).Nodup) (ne : ∀ p ∈ rows, p.1 ≠ []) (hp : S.Perm rows) (hs : S.Pairwise (fun p q => p.1.length ≤ q.1.length)) : lastPre S z = wireOf rows z := by
  rcases lastPre_spec _ S z rfl hs with ⟨a, b⟩ | ⟨f, w, a, b⟩
  · rw [a, (wireOf_none nd ne fun f w h => b f w ⟨hp.mem_iff.mpr h.mem, h.pre⟩).2]
  · rw [a, (wireOf_best nd ne (f := f) (w := w) ⟨⟨hp.mem_iff.mp b.mem, b.pre⟩, fun g v h => b.max g v ⟨hp.mem_iff.mpr h.mem, h.pre⟩⟩).2]
/-! ### what rules tell -/
inductive PT where
  | stays
  | always (z : Str)
  | busy (z : Str)
  | hours (b e : Int) (z : Str)
  | fromW (ws : List Int) (z : Str)
/-- the seconds of the day -/
def inHours (b e s : Int) : Bool := if e ≤ b then (decide (b ≤ s) || decide (s < e)) else (decide (b ≤ s) && decide (s < e))
def PT.to (p : PT) (asker : Int) (busy : Bool) (time : Int) : Option Str := match p with
  | .stays => none
  | .always z => some z
  | .busy z => if busy = true then some z else none
  | .hours b e z => if inHours b e (time % 86400) = true then some z else none
  | .fromW ws z => if asker ∈ ws then some z else none
inductive Told where
  | plain (p : PT)
  | first (ps : List PT)
def Told.to (t : Told) (asker : Int) (busy : Bool) (time : Int) : Option Str := match t with
  | .plain p => p.to asker busy time
  | .first ps => ps.findSome? fun p => p.to asker busy time
/-- figures as the law makes them -/
structure Fig (n : Nat) (z : Str) : Prop where
  lo : 1 ≤ z.length
  hi : z.length ≤ n
  dig : ∀ c ∈ sg z, c = 48 ∨ c = 49 ∨ c = 50 ∨ c = 51
theorem Fig.mono {m n : Nat} {z : Str} (h : Fig m z) (hn : m ≤ n) : Fig n z := ⟨h.lo, Nat.le_trans h.hi hn, h.dig⟩
/-- what the law makes of a house -/
def PT.Ok : PT → Prop
  | .stays => True
  | .always z => Fig 15 z
  | .busy z => Fig 15 z
  | .hours b e z => (0 ≤ b ∧ b ≤ 86399) ∧ (0 ≤ e ∧ e ≤ 86399) ∧ Fig 15 z
  | .fromW ws z => (1 ≤ ws.length ∧ ws.length ≤ 20) ∧ ws.Nodup ∧ (∀ w ∈ ws, 0 ≤ w ∧ w ≤ 63) ∧ Fig 15 z
def Told.Ok : Told → Prop
  | .plain p => p.Ok
  | .first ps => (1 ≤ ps.length ∧ ps.length ≤ 6) ∧ ∀ p ∈ ps, p.Ok
/-! ### how a ringing is followed -/
def follow (rows : Rows) (next : Int → Option Str) : List Int → Option Str → Option (Option Str)
  | [], n => some n
  | _ :: _, none => none
  | w :: ws, some z => if wireOf rows (sg z) = some w then follow rows next ws (next w) else none
theorem follow_snoc {rows : Rows} {next : Int → Option Str} {w : Int} {z : Str} (hw : wireOf rows (sg z) = some w) : ∀ {come : List Int} {n : Option Str}, follow rows next come n = some (some z) → follow rows next (come ++ [w]) n = some (next w)
  | [], n, h => by
    have e : n = some z := Option.some.inj h
    subst e
    show (if wireOf rows (sg z) = some w then follow rows next [] (next w) else none) = _
    rw [if_pos hw]
    rfl
  | v :: r, none, h => by cases h
  | v :: r, some y, h => by
    have h' : (if wireOf rows (sg y) = some v then follow rows next r (next v) else none) = some (some z) := h
    show (if wireOf rows (sg y) = some v then follow rows next (r ++ [w]) (next v) else none) = _
    split at h'
    · rename_i c
      rw [if_pos c]
      exact follow_snoc hw h'
    · cases h'
/-- what the law asks of an answer (word, come) -/
def Right (rows : Rows) (next : Int → Option Str) (held : List Int) (z : Str) (word : Str) (come : List Int) : Prop :=
  come.Nodup ∧ come.length ≤ 10 ∧ ∃ behind, follow rows next come (some z) = some behind ∧
    match behind with
    | none => ∃ w, come.getLast? = some w ∧ word = (if w ∈ held then Str.ofString "busy" else Str.ofString "rings")
    | some y => match wireOf rows (sg y) with
      | none => word = Str.ofString "none"
      | some w => word = Str.ofString "round" ∧ w ∈ come
/-- unlike wires of 0 to 9 are at most ten -/
theorem ten {come : List Int} (nd : come.Nodup) (h : ∀ w ∈ come, 0 ≤ w ∧ w ≤ 9) : come.length ≤ 10 := by
  have key : ∀ (n : Nat) (l : List Int), l.Nodup → (∀ w ∈ l, 0 ≤ w ∧ w < (n : Int)) → l.length ≤ n := by
    intro n
    induction n with
    | zero =>
      intro l _ hl
      cases l with
      | nil => exact Nat.le_refl _
      | cons a r => have := hl a List.mem_cons_self; omega
    | succ n ih =>
      intro l nd hl
      have h1 := ih (l.erase (n : Int)) (nd.erase _) fun w hw => by
        have hm := List.mem_of_mem_erase hw
        have q := hl w hm
        have ne : w ≠ (n : Int) := by
          intro e
          subst e
          exact (List.Nodup.mem_erase_iff nd).mp hw |>.1 rfl
        omega
      by_cases hm : (n : Int) ∈ l
      · rw [List.length_erase_of_mem hm] at h1
        omega
      · rw [List.erase_of_not_mem hm] at h1
        omega
  exact key 10 come nd fun w hw => by have := h w hw; omega
end K55
/-! k55: the text by places -/
namespace K55
open PySem PySem.Spec PyProof.Rows L2
def top (i : Nat) : Stmt := PySem.Challenge.pw_wirehall_k55_whole_no_wire_twice.main.body.getD i (.Pass ⟨0, 0, 0, 0⟩)
abbrev sClosed : Stmt := top 2
abbrev sRung : Stmt := top 3
abbrev sIsFig : Stmt := top 13
abbrev sIsBet : Stmt := top 14
abbrev sPlanI : Stmt := inClass (top 17) 0
abbrev sPlanL : Stmt := inClass (top 17) 2
abbrev sPlanF : Stmt := inClass (top 17) 3
abbrev sNeed : Stmt := top 25
abbrev sRuleTo : Stmt := inClass (top 26) 0
abbrev sRuleDeep : Stmt := inClass (top 26) 2
abbrev sAlwI : Stmt := inClass (top 28) 0
abbrev sAlwTo : Stmt := inClass (top 28) 1
abbrev sBusyTo : Stmt := inClass (top 29) 0
abbrev sHoursI : Stmt := inClass (top 30) 0
abbrev sHoursTo : Stmt := inClass (top 30) 1
abbrev sFromI : Stmt := inClass (top 31) 0
abbrev sFromTo : Stmt := inClass (top 31) 1
abbrev sFirstI : Stmt := inClass (top 32) 0
abbrev sFirstTo : Stmt := inClass (top 32) 1
abbrev sFirstDeep : Stmt := inClass (top 32) 3
abbrev sFirstBy : Stmt := top 33
abbrev sRuleBy : Stmt := top 34
abbrev sRuleOf : Stmt := top 35
abbrev sMixed : Stmt := top 37
abbrev sCellAt : Stmt := top 38
abbrev sTime : Stmt := top 39
abbrev sFigures : Stmt := top 40
abbrev sPlanRows : Stmt := top 41
abbrev sPlain : Stmt := top 42
abbrev sHouse : Stmt := top 43
abbrev sTo : Stmt := top 44
abbrev sFound : Stmt := top 45
abbrev sNext : Stmt := top 46
abbrev sFollowed : Stmt := top 47
abbrev sRight : Stmt := top 48
abbrev sLaw : Stmt := top 49
/-- a def of the text: x its name, q its qualified name -/
abbrev FnP (K : PySem.W.Frag) (x q : Str) (st : Stmt) (f : Addr) (fd : FuncData) : Prop := FunD K x q (defArgs st) (defBody st) (defScope st) [] [] f fd
end K55
set_option maxHeartbeats 2100000
/-! k55: own rules -/
namespace K55
open PySem PySem.Spec PyProof.Rows L2 LamX NdefX
/-! ### what stays -/
/-- all but tables and locked things stays -/
def Ext (H H' : Hp) : Prop := ∀ b o, H b = some o → (∀ ps, o ≠ .tbl ps) → (∀ ob u, o ≠ .frz ob u) → H' b = some o
theorem Ext.refl (H : Hp) : Ext H H := fun _ _ h _ _ => h
theorem Ext.trans {H H1 H2 : Hp} (a : Ext H H1) (b : Ext H1 H2) : Ext H H2 := fun c o h n m => b c o (a c o h n m) n m
theorem Ext.ofN {H H' : Hp} (a : ExtN H H') : Ext H H' := fun b o h n _ => a b o h n
theorem Ext.ofS {H H' : Hp} (a : Same H H') : Ext H H' := fun b o h _ _ => a b o h
theorem extN_ofS {H H' : Hp} (a : Same H H') : ExtN H H' := fun b o h _ => a b o h
/-- a new object -/
theorem same_upd {H : Hp} {p : Addr} {o : HO} (hp : H p = none) : Same H (upd H p o) := fun b u h => by
  rw [upd_ne (ne_of_none h hp)]
  exact h
theorem same_upd2 {H : Hp} {x dx : Addr} {o u : HO} (nx : H x = none) (nd : H dx = none) : Same H (upd (upd H dx o) x u) := fun b v h => by
  rw [upd_ne (ne_of_none h nx), upd_ne (ne_of_none h nd)]
  exact h
/-- the abstract heap without what is at c -/
def era (H : Hp) (c : Addr) : Hp := fun b => if b = c then none else H b
theorem era_same {H : Hp} {c : Addr} : era H c c = none := if_pos rfl
theorem era_ne {H : Hp} {c b : Addr} (h : b ≠ c) : era H c b = H b := if_neg h
/-- a cell that is tracked: locked as it is -/
abbrev cellO (o : Obj) : HO := .frz o (.own 0)
structure Cell (H : Hp) (c : Addr) (v : V) : Prop where
  ex : ∃ (o : Obj) (u : Value), H c = some (cellO o) ∧ o.data = .cell (some u) ∧ RelV v u
theorem Cell.ext {H H' : Hp} {c : Addr} {v : V} (h : Cell H c v) (e : ExtN H H') : Cell H' c v := by
  obtain ⟨o, u, h1, h2, h3⟩ := h.ex
  exact ⟨o, u, e _ _ h1 (fun ps z => by cases z), h2, h3⟩
theorem era_ext {H : Hp} {c : Addr} {o : Obj} (h : H c = some (cellO o)) : Ext H (era H c) := fun b u e _ n => by
  have hb : b ≠ c := fun z => by
    rw [z, h] at e
    exact n o _ (Option.some.inj e).symm
  rw [era_ne hb]
  exact e
theorem upd_era {H : Hp} {c : Addr} {o : HO} (h : H c = some o) : upd (era H c) c o = H := by
  funext b
  by_cases e : b = c
  · rw [e, upd_same, h]
  · rw [upd_ne e, era_ne e]
theorem era_upd {H : Hp} {c : Addr} {o : HO} (h : H c = none) : era (upd H c o) c = H := by
  funext b
  by_cases e : b = c
  · rw [e, era_same, h]
  · rw [era_ne e, upd_ne e]
section
variable {P : Program} {w : World} {K : PySem.W.Frag} {mg : Str → Option Value} {base : Heap} {A : Around} {outer : List Env} {s s' : Shared} {H H' : Hp} {c : Addr} {o : Obj}
theorem hok_era {h : Heap} (k : HOk P w H h) (hc : H c = some (cellO o)) : HOk P w (era H c) h := fun b u e => by
  have hb : b ≠ c := fun z => by
    rw [z, era_same] at e
    cases e
  rw [era_ne hb] at e
  refine (k b u e).stay (fun _ _ _ q => q) (fun d q => ?_) fun d xs q => ?_
  · have hd : d ≠ c := fun z => by
      rw [z, hc] at q
      cases q
    rw [era_ne hd]
    exact q
  · have hd : d ≠ c := fun z => by
      rw [z, hc] at q
      cases q
    rw [era_ne hd]
    exact q
theorem hok_lock {h : Heap} (k : HOk P w H h) (hn : H c = none) (ho : h.get? c = some o) : HOk P w (upd H c (cellO o)) h := fun b u e => by
  by_cases hb : b = c
  · rw [hb, upd_same] at e
    cases e
    rw [hb]
    exact ⟨ho, o, ho⟩
  · rw [upd_ne hb] at e
    exact (k b u e).stay (fun _ _ _ q => q) (fun d q => by rw [upd_ne (ne_of_none q hn)]; exact q) fun d xs q => by rw [upd_ne (ne_of_none q hn)]; exact q
theorem env0_era (e0 : Env0 P w K mg base A outer s H) (hc : H c = some (cellO o)) : Env0 P w K mg base A outer s (era H c) := by
  have z : ∀ b, H b = none → era H c b = none := fun b n => by
    by_cases e : b = c
    · rw [e]; exact era_same
    · rw [era_ne e]; exact n
  exact ⟨e0.frames, e0.mod, fun b ob e => ⟨(e0.bs b ob e).1, z b (e0.bs b ob e).2⟩, e0.bsz, e0.funs, fun b hb => z b (e0.frf b hb), hok_era e0.hok hc, e0.bare⟩
/-- a call that was made with the cell untracked, told with it -/
theorem ce_era {Q : VK} {u : Value} (e0 : Env0 P w K mg base A outer s H) (hc : H c = some (cellO o)) (h : CE outer P w (era H c) s Q u s') :
    CE outer P w H s (fun v H1 => ∃ H2, Q v H2 ∧ H1 = upd H2 c (cellO o)) u s' := by
  obtain ⟨v, H1, h1, h2, un, hk, rv, q⟩ := h
  obtain ⟨ho, _⟩ := e0.hok c _ hc
  have nf : c ∉ frs outer := fun z => by
    have q := e0.frf c z
    rw [hc] at q
    cases q
  have ho' : s'.heap.get? c = some o := un.keep c o ho era_same nf (by simp)
  have n1 : H1 c = none := un.free c o ho era_same (by simp)
  have ne : ∀ {b u}, H b = some u → u ≠ cellO o → b ≠ c := fun {b u} e n z => by
    rw [z, hc] at e
    exact n (Option.some.inj e).symm
  have nn : ∀ {b}, H b = none → b ≠ c := fun {b} e z => by
    rw [z, hc] at e
    cases e
  refine ⟨v, upd H1 c (cellO o), h1, h2, ⟨fun b u e n hb hx => ?_, fun b u e n hb hx => ?_, fun b u e n hx => ?_, un.there, fun b xs e => ?_, fun b u y e => ?_, fun b ps e => ?_⟩, hok_lock hk n1 ho', rv, H1, q, rfl⟩
  · exact un.keep b u e (by rw [era_ne (nn n)]; exact n) hb hx
  · exact un.slot b u e (by rw [era_ne (nn n)]; exact n) hb hx
  · rw [upd_ne (nn n)]
    exact un.free b u e (by rw [era_ne (nn n)]; exact n) hx
  · have hb : b ≠ c := ne e (by intro z; cases z)
    rw [upd_ne hb]
    exact un.tups b xs (by rw [era_ne hb]; exact e)
  · by_cases hb : b = c
    · rw [hb] at e ⊢
      rw [hc] at e
      rw [upd_same]
      exact e
    · rw [upd_ne hb]
      exact un.frzs b u y (by rw [era_ne hb]; exact e)
  · have hb : b ≠ c := ne e (by intro z; cases z)
    obtain ⟨more, z⟩ := un.tbls b ps (by rw [era_ne hb]; exact e)
    exact ⟨more, by rw [upd_ne hb]; exact z⟩
theorem env0_lock (e0 : Env0 P w K mg base A outer s H) (hn : H c = none) (hb : base.get? c = none) (ho : s.heap.get? c = some o) (nf : c ∉ frs outer) : Env0 P w K mg base A outer s (upd H c (cellO o)) := by
  refine ⟨e0.frames, e0.mod, fun b ob e => ⟨(e0.bs b ob e).1, ?_⟩, e0.bsz, e0.funs, fun b q => ?_, hok_lock e0.hok hn ho, e0.bare⟩
  · have z : b ≠ c := fun z => by
      rw [z, hb] at e
      cases e
    rw [upd_ne z]
    exact (e0.bs b ob e).2
  · rw [upd_ne fun z => nf (by rw [← z]; exact q)]
    exact e0.frf b q
/-- a call that was made with the cell tracked, told without it -/
theorem ce_lock {Q : VK} {u : Value} (hn : H c = none) (ho : s.heap.get? c = some o) (h : CE outer P w (upd H c (cellO o)) s Q u s') :
    CE outer P w H s (fun v H1 => ∃ H2, Q v H2 ∧ H2 c = some (cellO o) ∧ H1 = era H2 c) u s' := by
  obtain ⟨v, H2, h1, h2, un, hk, rv, q⟩ := h
  have hc2 : H2 c = some (cellO o) := un.frzs c o _ upd_same
  obtain ⟨ho', _⟩ := hk c _ hc2
  have an : ∀ {b}, b ≠ c → H b = none → upd H c (cellO o) b = none := fun {b} e n => by rw [upd_ne e]; exact n
  refine ⟨v, era H2 c, h1, h2, ⟨fun b u e n hb hx => ?_, fun b u e n hb hx => ?_, fun b u e n hx => ?_, un.there, fun b xs e => ?_, fun b u y e => ?_, fun b ps e => ?_⟩, hok_era hk hc2, rv, H2, q, hc2, rfl⟩
  · by_cases z : b = c
    · rw [z] at e ⊢
      rw [ho] at e
      cases e
      exact ho'
    · exact un.keep b u e (an z n) hb hx
  · by_cases z : b = c
    · rw [z] at e ⊢
      rw [ho] at e
      cases e
      exact ⟨o.slots, ho'⟩
    · exact un.slot b u e (an z n) hb hx
  · by_cases z : b = c
    · rw [z]; exact era_same
    · rw [era_ne z]
      exact un.free b u e (an z n) hx
  · have z : b ≠ c := ne_of_none e hn
    rw [era_ne z]
    exact un.tups b xs (by rw [upd_ne z]; exact e)
  · have z : b ≠ c := ne_of_none e hn
    rw [era_ne z]
    exact un.frzs b u y (by rw [upd_ne z]; exact e)
  · have z : b ≠ c := ne_of_none e hn
    obtain ⟨more, y⟩ := un.tbls b ps (by rw [upd_ne z]; exact e)
    exact ⟨more, by rw [era_ne z]; exact y⟩
end
/-! ### C.m(e, ..): a def read off its class -/
structure ClsFn (K : PySem.W.Frag) (C : Addr) (mc : Value) (m : Str) (f : Addr) : Prop where
  rd : ClX.CRead K C mc
  at_ : PySem.W.findCls K (.ref C) mc m = some (.val (.ref f))
  kp : PySem.W.keepIn K (.ref f) = true
section
variable {X : Cx} {CX : CXT} {k : Nat} {f C : Addr} {mc : Value} {fd : FuncData} {ps : List Str} {sp : Sp} {dvs : List V} {ds : List Value} {E : XK} {x m : Str} {p pos apos : Pos} {e o : Expr} {es : List Expr} {ta : TE} {t : TA}
theorem pe_clsfn {pl : Sem Bool} (cf : ClsFn X.K C mc m f) (F : FnOk X.prog X.w X.K X.mg X.base CX k f fd ps sp) (hr : Room k X.A) (hg : Gl X x) (hm : X.mg x = some (.ref C)) (hb : Binds X.K fd ps []) (hx : Passes CX X E) (ha : PA X (e :: es) t)
    (hdb : (x == ("__debug__" : Str)) = false := by decide)
    (hst : starEach (e :: es) X.env = (false, eval e X.env) :: starEach es X.env := by rfl) (hpl : (backTo pos (starEach es X.env)).any (·.1) = false := by rfl)
    (ht : eval (.Call (.Attribute (.Name x p) m apos) (e :: es) [] pos) X.env = (do
      let ov ← eval (.Name x p) X.env
      standAt apos.atName
      let (f, first) ← holding [ov] (getMethod ov m pl)
      callWith pos f first (backTo pos (starEach (e :: es) X.env)) (backToKw pos (keywordEach [] X.env))) := by rfl) :
    PE X (.Call (.Attribute (.Name x p) m apos) (e :: es) [] pos) (tCall sp [] E t) := by
  refine ⟨fun pins s σ H Q I h => ?_⟩
  refine PySem.W.methodCall_KW (pl := pl) (ld_glob I hg hm ?_ hdb) ht
  refine PySem.W.method_cls I.kIn cf.rd.ga (PySem.W.cls_value I.kIn cf.rd.rd cf.at_ rfl ?_)
  have I1 : Inv X pins σ H { s with toks := s.toks + 1 } := I.tok _
  refine PySem.W.callWith_K (first := []) (h₀ := X.base) I.ok.mod.kin cf.kp (thn (ha.run pos pins _ σ H _ I1 h) fun us s2 ⟨vs, H2, I2, r, q⟩ => ⟨I2.kIn, ?_⟩) hst hpl
  exact run_fn F hr hb .nil hx I2 r q
/-! ### C() by object's __init__ -/
structure Mk0 (K : PySem.W.Frag) (C : Addr) : Prop where
  makes : PySem.W.makesIn K C = true
  init : PySem.W.findIn K (.ref C) "__init__" = some (some (.builtin "object.__init__"))
  kp : PySem.W.keepIn K (.ref C) = true
  top : PySem.W.mroIn K C (.type "object") = some true
def tMake0 (C : Addr) : TE := fun _ H Q => ∀ x dx, H x = none → H dx = none → dx ≠ x → Q (.ref x) (upd (upd H dx (.own x)) x (.ins C dx []))
theorem pe_mk0 (M : Mk0 X.K C) (hg : Gl X x) (hm : X.mg x = some (.ref C)) (hdb : (x == ("__debug__" : Str)) = false := by decide) : PE X (.Call (.Name x p) [] [] pos) (tMake0 C) := by
  refine ⟨fun pins s σ H Q I h => ?_⟩
  refine wpAny_Call_Name_kw (ld_glob I hg hm ?_ hdb)
  refine PySem.W.callWith_K0 I.kIn M.kp ?_
  have I2 := Inv.made (C := C) I
  refine wpAny_call (make_map0 I.kIn M.makes M.init (fun self => PySem.W.Looks.of_pure (PySem.W.oi_bind self)) ?_)
  have t1 : PySem.W.Looks (model X.prog X.w) ((s.heap.push PySem.W.emptyDict).push (PySem.W.instObj C s.heap.objs.size)) (typeOf (.ref (s.heap.objs.size + 1))) (.ref C) :=
    (PySem.W.Looks.ld (by have z := Heap.get?_push_size (s.heap.push PySem.W.emptyDict) (o := PySem.W.instObj C s.heap.objs.size) rfl; rw [Heap.size_push] at z; exact z)).andThen .now
  have t2 : PySem.W.Looks (model X.prog X.w) ((s.heap.push PySem.W.emptyDict).push (PySem.W.instObj C s.heap.objs.size)) (isInstance (.ref (s.heap.objs.size + 1)) (.type "object")) true := t1.andThen (PySem.W.looks_mroIn I2.kIn M.top)
  refine codeAny_call_builtin PySem.W.oi_plain PySem.W.entry_oi (@PySem.W.check_slot (model X.prog X.w) _ _ _ "object.__init__" "object" "__init__" _ [] [] _ PySem.W.oi_kind PySem.W.oi_split t2 (PySem.W.oi_args _) ?_)
  rw [PySem.W.oi_run]
  refine wpAny_pure (And.intro rfl (Exists.intro (V.ref (s.heap.objs.size + 1)) ⟨_, I2, rfl, ?_⟩))
  exact h _ _ (I.hok.fresh (Nat.le_succ _)) (I.hok.fresh (Nat.le_refl _)) (Nat.ne_of_lt (Nat.lt_succ_self _))
end
/-! ### o.m(e, ..), o of one of several classes -/
/-- what a class's method promises -/
structure MethOf (P : Program) (w : World) (K : PySem.W.Frag) (mg : Str → Option Value) (base : Heap) (CX : CXT) (k : Nat) (m : Str) (C : Addr) (sp : Sp) : Prop where
  cl : Cls K C
  ex : ∃ (f : Addr) (fd : FuncData) (ps : List Str), Meth K C m f ∧ FnOk P w K mg base CX k f fd ps sp ∧ Binds K fd ps []
/-- S tells of each class what its method promises -/
def tMethP (S : Addr → Sp → Prop) (m : Str) (E : XK) (ta : TE) (t : TA) : TE := fun σ H Q => ta σ H fun x H1 => ∃ a C dx fs sp, x = .ref a ∧ H1 a = some (.ins C dx fs) ∧ fs.lookup m = none ∧ S C sp ∧ t σ H1 fun vs H2 => sp (x :: vs) H2 Q E
section
variable {X : Cx} {CX : CXT} {k : Nat} {S : Addr → Sp → Prop} {E : XK} {m : Str} {pos apos : Pos} {e o : Expr} {es : List Expr} {ta : TE} {t : TA}
theorem pe_methP {pl : Sem Bool} (he : PE X o ta) (hS : ∀ C sp, S C sp → MethOf X.prog X.w X.K X.mg X.base CX k m C sp) (hr : Room k X.A) (hx : Passes CX X E) (ha : PA X (e :: es) t)
    (hst : starEach (e :: es) X.env = (false, eval e X.env) :: starEach es X.env := by rfl) (hpl : (backTo pos (starEach es X.env)).any (·.1) = false := by rfl)
    (ht : eval (.Call (.Attribute o m apos) (e :: es) [] pos) X.env = (do
      let ov ← eval o X.env
      standAt apos.atName
      let (f, first) ← holding [ov] (getMethod ov m pl)
      callWith pos f first (backTo pos (starEach (e :: es) X.env)) (backToKw pos (keywordEach [] X.env))) := by rfl) :
    PE X (.Call (.Attribute o m apos) (e :: es) [] pos) (tMethP S m E ta t) := by
  refine ⟨fun pins s σ H Q I h => ?_⟩
  refine PySem.W.methodCall_KW (pl := pl) (thn (he.run pins s σ H _ I h) fun u s1 ⟨x, H1, I1, rx, a, C, dx, fs, sp, ex, ea, l, es, q⟩ => ?_) ht
  subst ex
  have eu : u = Value.ref a := rx
  subst eu
  have MO := hS C sp es
  obtain ⟨f, fd, ps, hm, F, hb⟩ := MO.ex
  refine getmeth_ok I1 ea MO.cl hm l ?_
  refine PySem.W.callWith_K (h₀ := X.base) (first := [.ref a]) I.ok.mod.kin hm.kp (thn (ha.run pos pins s1 σ H1 _ I1 q) fun us s2 ⟨vs, H2, I2, r, q2⟩ => ⟨I2.kIn, ?_⟩) hst hpl
  exact run_fn (us := .ref a :: us) (vs := .ref a :: vs) (dvs := []) (ds := []) F hr hb .nil hx I2 (.cons rfl r) (by rw [List.append_nil]; exact q2)
theorem pe_methP0 {pl : Sem Bool} (he : PE X o ta) (hS : ∀ C sp, S C sp → MethOf X.prog X.w X.K X.mg X.base CX k m C sp) (hr : Room k X.A) (hx : Passes CX X E)
    (ht : eval (.Call (.Attribute o m apos) [] [] pos) X.env = (do
      let ov ← eval o X.env
      standAt apos.atName
      let (f, first) ← holding [ov] (getMethod ov m pl)
      callWith pos f first (backTo pos (starEach [] X.env)) (backToKw pos (keywordEach [] X.env))) := by rfl) :
    PE X (.Call (.Attribute o m apos) [] [] pos) (tMethP S m E ta tNil) := by
  refine ⟨fun pins s σ H Q I h => ?_⟩
  refine PySem.W.methodCall_KW (pl := pl) (thn (he.run pins s σ H _ I h) fun u s1 ⟨x, H1, I1, rx, a, C, dx, fs, sp, ex, ea, l, es, q⟩ => ?_) ht
  subst ex
  have eu : u = Value.ref a := rx
  subst eu
  have MO := hS C sp es
  obtain ⟨f, fd, ps, hm, F, hb⟩ := MO.ex
  refine getmeth_ok I1 ea MO.cl hm l ?_
  refine PySem.W.callWith_K0 (first := [.ref a]) I1.kIn hm.kp ?_
  exact run_fn (us := [.ref a]) (vs := [.ref a]) (dvs := []) (ds := []) F hr hb .nil hx I1 (.cons rfl .nil) q
end
/-! ### xs + ys, xs any list that may be read -/
def rCatR (K : PySem.W.Frag) : R2 := fun x y H Q => ∃ l b xs zs, x = .ref l ∧ y = .ref b ∧ SqL K H l xs ∧ H b = some (.lst zs) ∧ xs.length + zs.length ≤ sizeLine ∧ ∀ p, H p = none → Q (.ref p) (upd H p (.lst (xs ++ zs)))
theorem op_catR {X : Cx} : OpR X (binaryOp .Add) (rCatR X.K) := by
  intro pins s σ H x y v u Q I rx ry h
  obtain ⟨l, b, xs, zs, rfl, rfl, hH, hB, hz, q⟩ := h
  cases rx
  cases ry
  obtain ⟨its, r, hpl, z⟩ := I.list hH
  obtain ⟨z2, its2, n2, r2, hl2, e2⟩ := I.lstM hB
  have hlen := r.length
  obtain ⟨⟨oc, od, dt, sl⟩, e, hc, n, hd⟩ := id hpl.isList
  simp only at hc hd
  subst hc hd
  refine concat_meets ⟨_, e, rfl⟩ ⟨_, e2, rfl⟩ noFill_list_add seq_list_add F.slot_list_add F.entry_list_add (F.args_list_add_2 _ _) (PyProof.Rows.list_addW l b its.toArray its2.toArray n n2 od none sl #[] (by rw [List.size_toArray, List.size_toArray]; omega)) ⟨e, e2, ?_⟩
  rw [show its.toArray ++ its2.toArray = (its ++ its2).toArray by simp]
  exact ⟨.ref _, _, I.lnew (t' := s.toks) (r.append r2) (by rw [List.length_append]; omega), rfl, q _ I.fresh⟩
/-! ### D.get(e, f), D a dict of the written part with text keys -/
def tKGet2 (K : PySem.W.Frag) (d : Addr) (ty tx : TE) : TE := fun σ H Q => ty σ H fun y H1 => tx σ H1 fun z H2 => ∃ (k : Str) (u0 : Value) (v0 : V), y = .str k ∧ PySem.W.nsIn K d k = some (some u0) ∧ RelV v0 u0 ∧ Q v0 H2
section
variable {X : Cx} {d : Addr} {es : Array DictEntry} {n : Nat} {o e f : Expr} {x : Str} {p apos cpos : Pos} {ty tx : TE}
theorem pe_kget2 (D : KDict X.K X.w d es n) (hg : Gl X x) (hm : X.mg x = some (.ref d)) (he : PE X e ty) (hf : PE X f tx) (m : M2 X (.Name x p) "get" apos e f cpos) (hdb : (x == ("__debug__" : Str)) = false := by decide) :
    PE X (.Call (.Attribute (.Name x p) "get" apos) [e, f] [] cpos) (tKGet2 X.K d ty tx) := by
  refine ⟨fun pins s σ H Q I h => ?_⟩
  refine wpAny_Call_method m.base m.few m.line PySem.F.plainAttrs_dict PySem.F.slot_dict_get PySem.F.type_dict_get (ld_glob I hg hm ?_ hdb)
  have mo := fun (s' : Shared) (I' : Inv X pins σ H s') => PySem.W.mapOf_K (prog := X.prog) (w := X.w) I'.kIn D.at_ D.lit
  refine ⟨(mo s I).typeIs, fun b q => ?_, ?_⟩
  · cases q
    exact ⟨_, I.kIn _ _ D.at_, rfl⟩
  rw [m.trees]
  refine Calls.callWith_builtin rfl (Calls.evalArgs_plain (Calls.spliced_cons (thn (he.run pins s σ H _ I h) fun iv s2 ⟨y, H2, I2, ry, q2⟩ =>
    Calls.spliced_cons (thn (hf.run pins s2 σ H2 _ I2 q2) fun fv s3 ⟨z, H3, I3, rz, k, u0, v0, ey, en, r0, q3⟩ => Calls.spliced_nil ?_))))
  subst ey
  obtain ⟨t, rfl⟩ := ry
  have mp := PySem.W.mapOf_K (prog := X.prog) (w := X.w) I3.kIn D.at_ D.lit
  refine call_meetsIn PySem.F.slot_dict_get mp.typeIs PySem.F.entry_dict_get (PySem.F.args_dict_get_3 _ _ _) (meets_dict_get_default _ d (PySem.strKind_is X.prog X.w k t) D.low fv) ⟨_, mp, ?_⟩
  rw [PySem.W.find_K D.at_ en]
  exact ⟨v0, H3, I3.tok _, r0, q3⟩
end
end K55
set_option maxHeartbeats 2100000
/-! k55: functions that are made while the law runs: closed's turned, the lambdas -/
namespace K55
open PySem PySem.Spec PyProof.Rows L2 LamX NdefX
/-! ### a def whose code object is known -/
section
variable {P : Program} {w : World} {K : PySem.W.Frag} {mg : Str → Option Value} {base : Heap} {x qual : Str} {params : Arguments} {body : List Stmt} {scope : Scope} {f c : Addr} {fd : FuncData}
theorem okC {CX : CXT} {N ps : List Str} {k : Nat} {sp : Sp} (F : FunD K x qual params body scope [] [] f fd) (hc : fd.code = .ref c) (S : FnScope N ps scope) (len : ∀ vs H Q E, sp vs H Q E → vs.length = ps.length)
    (hbody : ∀ (A : Around) (outer : List Env) (s : Shared) (H : Hp) (vs : List V) (Q : VK) (E : XK), Room k (A.deeper (envOfC qual scope s.heap.objs.size f (.ref c))) → sp vs H Q E →
      ∃ t, PSs (cxOf CX P w K mg base N qual scope f (.ref c) A outer s H E) body t ∧ t { nx := fun _ H' => Q .non H', rt := Q } (start N vs) H) : FnOk P w K mg base CX (k + 1) f fd ps sp := by
  obtain ⟨oc, od, dV, kV, doc, pm, an, cdv, ct, osl, rfl, lk, hcd, hd, hk⟩ := F.ex
  have e : cdv = .ref c := hc
  subst e
  exact fn_of lk hcd S len hbody
theorem code_of {p : Str × Option Str} {dvs : List V} {kws : List (Str × V)} (F : FunD K x qual params body scope dvs kws (He.fAd K p) fd) : fd.code = .ref (He.codeOf K p) := by
  obtain ⟨oc, od, dV, kV, doc, pm, an, cdv, ct, osl, rfl, lk, hcd, hd, hk⟩ := F.ex
  obtain ⟨c, rfl⟩ := He.codeIn_ref hcd
  have e := He.codeOf_eq lk rfl
  show Value.ref c = _
  rw [e]
end
theorem un_new {fs ex : List Addr} {H H1 : Hp} {h h1 : Heap} {c : Addr} {o : HO} (u : Un fs ex H H1 h h1) (n : H1 c = none) (hc : h.objs.size ≤ c) : Un fs ex H (upd H1 c o) h h1 where
  keep := u.keep
  slot := u.slot
  free := fun b ob e m hx => by
    rw [upd_ne (Nat.ne_of_lt (Nat.lt_of_lt_of_le (Heap.lt_size e) hc))]
    exact u.free b ob e m hx
  there := u.there
  tups := fun b xs e => by
    have q := u.tups b xs e
    rw [upd_ne (ne_of_none q n)]
    exact q
  frzs := fun b ob y e => by
    have q := u.frzs b ob y e
    rw [upd_ne (ne_of_none q n)]
    exact q
  tbls := fun b ps e => by
    obtain ⟨more, q⟩ := u.tbls b ps e
    exact ⟨more, by rw [upd_ne (ne_of_none q n)]; exact q⟩
/-! ### closed -/
abbrev sTurned : Stmt := (defBody sClosed).getD 0 (.Pass ⟨0, 0, 0, 0⟩)
def qTurned : Str := (("closed" : Str) ++ (".<locals>." : Str)) ++ ("turned" : Str)
abbrev turnedF (cell c' : Addr) : NF := NF.of sTurned "turned" qTurned [("rule", cell)] c'
/-- the tables as NdefX has them -/
def tabN (T : List (Addr × Str)) : List NTab := T.map fun p => (p.1, fun _ _ => p.2)
theorem tabsN_of {T : List (Addr × Str)} {H : Hp} (h : Tabs T H) : TabsN (tabN T) H := fun p hp => by
  obtain ⟨q, hq, rfl⟩ := List.mem_map.mp hp
  exact TabN.of (h q hq)
theorem tabsN_to {T : List (Addr × Str)} {H : Hp} (h : TabsN (tabN T) H) : Tabs T H := fun p hp => TabN.to (h _ (List.mem_map.mpr ⟨p, hp, rfl⟩))
/-- a made function turned, its rule at r -/
structure Turned (H : Hp) (f r : Addr) : Prop where
  ex : ∃ cell c', H f = some (FnO f (turnedF cell c')) ∧ H c' = some (CodeO c' qTurned) ∧ Cell H cell (.ref r)
theorem Turned.ext {H H' : Hp} {f r : Addr} (t : Turned H f r) (e : ExtN H H') : Turned H' f r := by
  obtain ⟨cell, c', h1, h2, h3⟩ := t.ex
  exact ⟨cell, c', e _ _ h1 fnO_ne, e _ _ h2 codeO_ne, h3.ext e⟩
def spClosed (T : List (Addr × Str)) : Sp := fun vs H Q _ => ∃ r : Addr, vs = [.ref r] ∧ Tabs T H ∧ ∀ (f : Addr) (H1 : Hp), ExtN H H1 → Tabs T H1 → Turned H1 f r → Q (.ref f) H1
theorem scClosed : FnScope ["rule", "turned"] ["rule"] (defScope sClosed) := ⟨rfl, rfl, rfl, by decide +kernel, rfl, by decide +kernel, by decide +kernel⟩
section
variable {P : Program} {w : World} {K : PySem.W.Frag} {mg : Str → Option Value} {base : Heap} {f c Pt : Addr} {fd : FuncData} {T : List (Addr × Str)}
theorem ok_closed (F : FnP K "closed" "closed" sClosed f fd) (hc : fd.code = .ref c) (TB : TabB base mg c Pt) (hm : (Pt, qTurned) ∈ T) (hu : ∀ p ∈ T, p.1 = Pt → p.2 = qTurned) : FnOk P w K mg base CX0 1 f fd ["rule"] (spClosed T) := by
  obtain ⟨oc, od, dV, kV, doc, pm, an, cdv, ct, osl, rfl, lk, hcd, hd, hk⟩ := F.ex
  have e : cdv = .ref c := hc
  subst e
  refine ⟨fun vs H Q E h => by obtain ⟨r, rfl, _⟩ := h; rfl, fun A outer s H args us vs Q E hr e0 hb r hsp => ?_⟩
  obtain ⟨r0, rfl, hT, q⟩ := hsp
  have KX : K.In s.heap := e0.mod.kin.keeps fun b o e => (e0.bs b o e).1
  have lim : s.heap.NoLimit := e0.mod.nolimit.keeps fun b o e => (e0.bs b o e).1
  have hkind : ∀ y ∈ (["rule"] : List Str).zip us, (defScope sClosed).names.lookup y.1 = some .local ∨ ((defScope sClosed).names.lookup y.1 = some .cell ∧ ((cellsFrom (s.heap.objs.size + 1) (defScope sClosed).names []).lookup y.1).isSome = true) := fun ⟨n, v⟩ hy => by
    rcases scClosed.par n (List.of_mem_zip hy).1 with q | q
    · exact .inl q
    · exact .inr ⟨q, PySem.W.cellsFrom_some _ _ _ (.inl q)⟩
  refine codeAny_call_function hr.depth (KX _ _ lk) rfl scClosed.co scClosed.gen rfl (PySem.W.codeRec_of KX hcd) (hb _ _ _ _ ?_)
  refine wpAny_newFunctionEnv_cells scClosed.kind hkind fun env he s1 x => ?_
  subst he
  refine ⟨lim.keeps x.toInCall.keep, codeAny_func ?_⟩
  have I : L2.Inv (cxOf CX0 P w K mg base ["rule", "turned"] "closed" (defScope sClosed) f (.ref c) A outer s H E) [] (start ["rule", "turned"] [.ref r0]) H s1 := inv_start scClosed hr.hd e0 rfl r x
  have hnd := ps_ndefMS (X := cxOf CX0 P w K mg base ["rule", "turned"] "closed" (defScope sClosed) f (.ref c) A outer s H E) (st := sTurned) (T := tabN T) (nm := fun _ _ => qTurned) (c := c) (P := Pt) (name := "turned") (i := 1) rfl TB rfl (List.mem_map.mpr ⟨_, hm, rfl⟩) rfl
    (fun p hp hP => by
      obtain ⟨q, hq, rfl⟩ := List.mem_map.mp hp
      have e2 := hu q hq hP
      show (fun _ _ => q.2) = _
      rw [e2])
    (ndef_free (fr := ["rule"]) (show ndefB (defScope sClosed) (C8.fnScope sTurned) ["rule"] = true by decide +kernel)) rfl rfl rfl scClosed.nd rfl (Or.inl rfl) (Or.inr rfl)
  refine wpAny_execs_cons (thn (hnd.run [] s1 _ H ⟨fun σ' H' => ∃ (f' c' cell : Addr), σ' = (start ["rule", "turned"] [V.ref r0]).set 1 (some (.ref f')) ∧ ExtN H H' ∧ TabsN (tabN T) H' ∧
      H' f' = some (FnO f' (NF.of sTurned "turned" qTurned (cloFrom (cellsFrom (s.heap.objs.size + 1) (defScope sClosed).names []) (C8.fnScope sTurned).names []) c')) ∧ H' c' = some (CodeO c' qTurned), fun _ _ => False, fun _ _ => False, fun _ _ => False⟩ I ⟨tabsN_of hT, fun f' c' H1 eN _ T1 _ hf' hc' => ⟨f', c', 0, rfl, eN, T1, hf', hc'⟩⟩) fun fl s2 hq => ?_)
  cases fl with
  | ret u => obtain ⟨_, _, _, _, _, z⟩ := hq; exact z.elim
  | brk => obtain ⟨_, _, _, z⟩ := hq; exact z.elim
  | cont => obtain ⟨_, _, _, z⟩ := hq; exact z.elim
  | next =>
    obtain ⟨σ', H', J, f', c', _, rfl, eN, T1, hf', hc'⟩ := hq
    refine wpAny_execs_cons (wpAny_Return_some (thn ((pv (X := cxOf CX0 P w K mg base ["rule", "turned"] "closed" (defScope sClosed) f (.ref c) A outer s H E) 1 (x := "turned")).run [] s2 _ H' (fun v H2 => v = .ref f' ∧ H2 = H') J ⟨_, rfl, rfl, rfl⟩) fun u s3 hq3 => ?_))
    obtain ⟨v, H3, J3, rv, ev, eH⟩ := hq3
    subst ev eH
    obtain ⟨m, hn, hl⟩ := J3.loc
    obtain ⟨u0, ru, lo⟩ := hl 0 "rule" (.ref r0) rfl rfl (Or.inr (Or.inl rfl))
    rcases lo with ⟨z, _⟩ | ⟨_, cell, hcell, oo, ho, hd2⟩
    · have z' : (defScope sClosed).names.lookup ("rule" : Str) = some NameKind.local := z
      exact absurd z' (by decide +kernel)
    · have n1 : H3 cell = none := J3.freeC _ _ hcell
      have lo' : s.heap.objs.size ≤ cell := J3.ok.cab "rule" cell rfl hcell
      have hcell' : (cellsFrom (s.heap.objs.size + 1) (defScope sClosed).names []).lookup ("rule" : Str) = some cell := hcell
      have ecl : cloFrom (cellsFrom (s.heap.objs.size + 1) (defScope sClosed).names []) (C8.fnScope sTurned).names [] = [(("rule" : Str), cell)] := by
        have e1 : cellsFrom (s.heap.objs.size + 1) (defScope sClosed).names [] = [(("rule" : Str), s.heap.objs.size + 1)] := rfl
        rw [e1] at hcell' ⊢
        have e2 : s.heap.objs.size + 1 = cell := Option.some.inj hcell'
        rw [e2]
        rfl
      rw [ecl] at hf'
      have sm : Same H3 (upd H3 cell (cellO oo)) := same_upd n1
      refine ⟨.ref f', upd H3 cell (cellO oo), J3.os, J3.bare, un_new J3.base n1 lo', hok_lock J3.hok n1 ho, rv, ?_⟩
      exact q f' _ (eN.trans (extN_ofS sm)) ((tabsN_to T1).ext sm) ⟨cell, c', sm _ _ hf', sm _ _ hc', oo, u0, upd_same, hd2, ru⟩
end
end K55
set_option maxHeartbeats 2100000
/-! k55: lambdas, and functions called from where their cells are tracked -/
namespace K55
open PySem PySem.Spec PyProof.Rows L2 LamX NdefX
/-! ### lambdas -/
/-- the object at f is the lambda of F's words (F.body is of no account) with the body b -/
def LamO (f : Addr) (F : NF) (b : Expr) : HO := .ext fun h => ∃ pm ctv : Value, h.get? f = some (PySem.W.kla_obj "<lambda>" F.qual F.params b F.scope F.cl pm F.c ctv)
theorem lamO_ne {f : Addr} {F : NF} {b : Expr} (ps : Array Value) : LamO f F b ≠ .tbl ps := fun z => by
  unfold LamO at z
  cases z
theorem lamO_at {P : Program} {w : World} {H : Hp} {h : Heap} {f : Addr} {F : NF} {b : Expr} (k : HOk P w H h) (e : H f = some (LamO f F b)) : ∃ pm ctv : Value, h.get? f = some (PySem.W.kla_obj "<lambda>" F.qual F.params b F.scope F.cl pm F.c ctv) := by
  obtain ⟨z, _, _⟩ := k f _ e
  exact z
abbrev lamF (q : Str) (params : Arguments) (scope : Scope) (cl : List (Str × Addr)) (c : Addr) : NF := ⟨"<lambda>", q, params, [], scope, cl, c⟩
section
variable {X : Cx} {pins : List (Addr × Obj)} {σ : L2.St} {H : Hp} {s : Shared}
theorem inv_lam {F : NF} {b : Expr} {t' : Nat} {pm ctv : Value} (I : L2.Inv X pins σ H s) :
    L2.Inv X pins σ (upd H s.heap.objs.size (LamO s.heap.objs.size F b)) { s with heap := s.heap.push (PySem.W.kla_obj "<lambda>" F.qual F.params b F.scope F.cl pm F.c ctv), toks := t' } := by
  refine I.laid (a := s.heap.objs.size) (fun d u e => Heap.get?_push_of_some _ e) (Nat.le_refl _) ?_
  have e : (s.heap.push (PySem.W.kla_obj "<lambda>" F.qual F.params b F.scope F.cl pm F.c ctv)).get? s.heap.objs.size = some (PySem.W.kla_obj "<lambda>" F.qual F.params b F.scope F.cl pm F.c ctv) := Heap.get?_push_size _ rfl
  exact ⟨⟨pm, ctv, e⟩, ⟨_, e⟩, fun h1 h2 ⟨p, t, z⟩ st => ⟨p, t, st _ z⟩⟩
/-- a lambda is made: its code object is new, or is found in the maker's table; the lambda is tracked from now on -/
theorem lam_makeT {T : List (Addr × Str)} {c Pt : Addr} {q : Str} {params : Arguments} {body : Expr} {scope : Scope} {pos : Pos} {E : Value → Shared → Prop} {Q : Value → Shared → Prop} (I : L2.Inv X pins σ H s) (TB : TabB X.base X.mg c Pt) (hcode : X.env.code = .ref c)
    (hq : X.env.qual ++ ("<lambda>" : Str) = q) (hm : (Pt, q) ∈ T) (hu : ∀ p ∈ T, p.1 = Pt → p.2 = q) (hT : Tabs T H) (hdef : defaultsOf params X.env = ([], [])) (hfree : ∀ y ∈ scope.names, y.2 = .free → ∃ c, X.env.cells.lookup y.1 = some c)
    (h : ∀ (f c' : Addr) (H1 : Hp) (s' : Shared), L2.Inv X pins σ H1 s' → ExtN H H1 → Tabs T H1 → H1 f = some (LamO f (lamF q params scope (cloFrom X.env.cells scope.names []) c') body) → H1 c' = some (CodeO c' q) → Q (.ref f) s') :
    wpAny (model X.prog X.w) X.A (eval (.Lambda params body scope pos) X.env) Q E s := by
  subst hq
  obtain ⟨ps, tabAt, trip, among⟩ := hT _ hm
  refine PySem.W.kla_eval hdef ?_
  have bAt : s.heap.BuiltinsAt X.mg Pt := TB.bm.keeps I.bk
  have tabHere : s.heap.get? Pt = some { cls := .none, data := .fields ps } := I.hok Pt _ tabAt
  cases found : codeAmong pos ps.toList with
  | none =>
    refine PySem.W.kla_makeFunction (mg := X.mg) (c := c) (P := Pt) (ps := ps) (closure_ok hfree) I.ok.glob (I.mod.glob.keeps I.bk) hcode (TB.code.keeps I.bk) tabHere trip found TB.gP bAt fun c' ctv g' tk hx hge hlt hrec htb => ?_
    obtain ⟨c2, oc, vs, t, e2, hoc, hdat, hv⟩ := hrec
    cases e2
    have newC : H c' = none := I.hok.fresh hge
    have J := inv_table (t' := tk) (q := X.env.qual ++ ("<lambda>" : Str)) (more := #[rawInt pos.line, rawInt pos.col, .ref c']) (h' := g') I tabAt (fun b o hb e => hx b o hb e) htb hge ⟨oc, vs, t, hoc, hdat, hv⟩
    have grows : ExtN H (upd (upd H Pt (.tbl (ps ++ #[rawInt pos.line, rawInt pos.col, .ref c']))) c' (CodeO c' (X.env.qual ++ ("<lambda>" : Str)))) := fun b o e n => by
      have z1 : b ≠ Pt := fun z => n ps (Option.some.inj (e.symm.trans (by rw [z]; exact tabAt)))
      rw [upd_ne (ne_of_none e newC), upd_ne z1]
      exact e
    have eL : (ps ++ #[rawInt pos.line, rawInt pos.col, .ref c']).toList = ps.toList ++ [rawInt pos.line, rawInt pos.col, .ref c'] := by simp
    have T1 : Tabs T (upd (upd H Pt (.tbl (ps ++ #[rawInt pos.line, rawInt pos.col, .ref c']))) c' (CodeO c' (X.env.qual ++ ("<lambda>" : Str)))) := fun p hp => by
      by_cases same : p.1 = Pt
      · rw [hu p hp same, same]
        refine ⟨_, by rw [upd_ne (ne_of_none tabAt newC), upd_same], by rw [eL]; exact PySem.TriplesOk_snoc _ _ _ _ trip, fun p' cv hcv => ?_⟩
        rw [eL] at hcv
        rcases among_app _ trip hcv with z | z
        · obtain ⟨c0, e1, e2⟩ := among p' cv z
          exact ⟨c0, e1, grows _ _ e2 codeO_ne⟩
        · exact ⟨c', z, upd_same⟩
      · obtain ⟨ps', a1, a2, a3⟩ := hT p hp
        refine ⟨ps', ?_, a2, fun p' cv hcv => ?_⟩
        · rw [upd_ne (ne_of_none a1 newC), upd_ne same]
          exact a1
        · obtain ⟨c0, e1, e2⟩ := a3 p' cv hcv
          exact ⟨c0, e1, grows _ _ e2 codeO_ne⟩
    have newF := J.hok.fresh (Nat.le_refl _)
    have J2 := inv_lam (F := lamF (X.env.qual ++ ("<lambda>" : Str)) params scope (cloFrom X.env.cells scope.names []) c') (b := body) (t' := tk) (pm := (X.mg "__name__").getD .none) (ctv := ctv) J
    have sm := same_upd (o := LamO g'.objs.size (lamF (X.env.qual ++ ("<lambda>" : Str)) params scope (cloFrom X.env.cells scope.names []) c') body) newF
    exact h g'.objs.size c' _ _ J2 (grows.trans (extN_ofS sm)) (T1.ext sm) upd_same (sm _ _ upd_same)
  | some cv =>
    obtain ⟨c', e, known⟩ := among pos cv found
    subst e
    refine PySem.W.kla_makeFunctionHit (mg := X.mg) (c := c) (P := Pt) (ps := ps) (closure_ok hfree) I.ok.glob (I.mod.glob.keeps I.bk) hcode (TB.code.keeps I.bk) tabHere trip found bAt fun ctv g' tk hx hsz => ?_
    have J : L2.Inv X pins σ H { s with heap := g', toks := tk } := I.kept hx
    have newF : H g'.objs.size = none := J.hok.fresh (Nat.le_refl _)
    have J2 := inv_lam (F := lamF (X.env.qual ++ ("<lambda>" : Str)) params scope (cloFrom X.env.cells scope.names []) c') (b := body) (t' := tk) (pm := (X.mg "__name__").getD .none) (ctv := ctv) J
    have sm := same_upd (o := LamO g'.objs.size (lamF (X.env.qual ++ ("<lambda>" : Str)) params scope (cloFrom X.env.cells scope.names []) c') body) newF
    exact h g'.objs.size c' _ _ J2 (extN_ofS sm) (hT.ext sm) upd_same (sm _ _ known)
end
def tLamT (T : List (Addr × Str)) (q : Str) (mk : Addr → NF) (b : Expr) : TE := fun _ H Q => Tabs T H ∧ ∀ (f c' : Addr) (H1 : Hp), ExtN H H1 → Tabs T H1 → H1 f = some (LamO f (mk c') b) → H1 c' = some (CodeO c' q) → Q (.ref f) H1
theorem pe_lam {X : Cx} {T : List (Addr × Str)} {c Pt : Addr} {q : Str} {params : Arguments} {body : Expr} {scope : Scope} {pos : Pos} (TB : TabB X.base X.mg c Pt) (hcode : X.env.code = .ref c) (hq : X.env.qual ++ ("<lambda>" : Str) = q) (hm : (Pt, q) ∈ T) (hu : ∀ p ∈ T, p.1 = Pt → p.2 = q)
    (hdef : defaultsOf params X.env = ([], [])) (hfree : ∀ y ∈ scope.names, y.2 = .free → X.env.scope.names.lookup y.1 = some .cell ∨ X.env.scope.names.lookup y.1 = some .free) :
    PE X (.Lambda params body scope pos) (tLamT T q (lamF q params scope (cloFrom X.env.cells scope.names [])) body) := by
  refine ⟨fun pins s σ H Q I h => ?_⟩
  obtain ⟨hT, h⟩ := h
  have hf : ∀ y ∈ scope.names, y.2 = .free → ∃ c, X.env.cells.lookup y.1 = some c := fun y hy e => (hfree y hy e).elim (fun z => I.ok.has _ (.inl z)) fun z => I.ok.has _ (.inr z)
  exact lam_makeT I TB hcode hq hm hu hT hdef hf fun f c' H1 s' J eN T1 hl hc => ⟨.ref f, H1, J, rfl, h f c' H1 eN T1 hl hc⟩
section
variable {CX : CXT} {P : Program} {w : World} {K : PySem.W.Frag} {mg : Str → Option Value} {base : Heap} {N ps fr : List Str} {F : NF} {f : Addr} {k : Nat}
/-- a lambda runs, by its body -/
theorem run_lam {b : Expr} {A : Around} {outer : List Env} {s : Shared} {H : Hp} {us : List Value} {vs : List V} {ws : List (Option V)} {Q : VK} {E : XK} {t : TE} (S : NScope N ps fr F.scope) (hb : ∀ (pm ctv : Value), bindArgs (PySem.W.kla_fn "<lambda>" F.qual F.params b F.scope F.cl pm (.ref F.c) ctv) ⟨us, []⟩ = pure (ps.zip us))
    (hl : vs.length = ps.length) (hr : Room (k + 1) A) (e0 : Env0 P w K mg base A outer s H) (hf : H f = some (LamO f F b)) (hc : H F.c = some (CodeO F.c F.qual)) (C : CellsAt F.cl fr ws s.heap H) (r : Vals vs us)
    (hbody : PE (ncx CX P w K mg base N F f A outer s H E) b t) (q : t (startF N vs ws) H Q) : codeAny (model P w) A (.call (.ref f) ⟨us, []⟩) (CR CX outer P w H s Q E) s := by
  have lim : s.heap.NoLimit := e0.mod.nolimit.keeps fun b o e => (e0.bs b o e).1
  obtain ⟨pm, ctv, ho⟩ := lamO_at e0.hok hf
  refine PySem.W.kla_callFunE hr.depth ho rfl S.co S.gen rfl (codeO_at e0.hok hc) ?_
  rw [hb pm ctv]
  refine wpAny_pure (wpAny_newFunctionEnv S.nocell (fun ⟨n, _⟩ hy => S.par n (List.of_mem_zip hy).1) (fun h1 hns hsb => ⟨lim.fresh _ hsb, ?_⟩) S.kind)
  have kp : ∀ d o, s.heap.get? d = some o → h1.get? d = some o := fun d o e => hsb.extBut d o (Nat.ne_of_lt (Heap.lt_size e)) (Heap.get?_push_of_some _ e)
  have I : L2.Inv (ncx CX P w K mg base N F f A outer s H E) [] (startF N vs ws) H { s with heap := h1, toks := s.toks + (ps.zip us).length } := inv_startN S hr.hd e0 hl r C hns kp
  refine PySem.W.kla_codeExpr (wpAny_mono (hbody.run [] _ _ H Q I q) (fun v s' hq => ?_) fun e s' hq => hq)
  obtain ⟨v', H', J, rv, q'⟩ := hq
  exact ⟨v', H', J.os, J.bare, J.base, J.hok, rv, q'⟩
end
end K55
set_option maxHeartbeats 2100000
/-! k55: how the data lie in the heap; what the top has written -/
namespace K55
open PySem PySem.Spec PyProof.Rows L2 LamX NdefX
/-- the classes' addresses -/
structure CA where
  stays : Addr
  alw : Addr
  busy : Addr
  hours : Addr
  frm : Addr
  first : Addr
  plan : Addr
  rule : Addr
def optV : Option Str → V
  | none => .non
  | some z => .str z
theorem optV_non {o : Option Str} : (optV o = .non) = (o = none) := by
  cases o with
  | none => simp [optV]
  | some z => simp [optV]
/-! ### fields -/
theorem lk_eq {f : Str} {v : V} {fs : List (Str × V)} : (putF f v fs).lookup f = some v := by rw [lookup_putF, if_pos rfl]
theorem lk_ne {f g : Str} {v : V} {fs : List (Str × V)} (h : ¬ g = f) : (putF f v fs).lookup g = fs.lookup g := by rw [lookup_putF, if_neg h]
def fAlw (z : Str) : List (Str × V) := putF "number" (.str z) []
def fHours (b e : Int) (z : Str) : List (Str × V) := putF "end" (.int e) (putF "begin" (.int b) (fAlw z))
def fFrom (l : Addr) (z : Str) : List (Str × V) := putF "askers" (.ref l) (fAlw z)
def fFirst (l : Addr) : List (Str × V) := putF "rules" (.ref l) []
def fPlan (t w : Addr) : List (Str × V) := putF "ways" (.ref w) (putF "things" (.ref t) [])
/-- a method's name is no field -/
structure NoF (fs : List (Str × V)) : Prop where
  to : fs.lookup ("to" : Str) = none
  deep : fs.lookup ("deep" : Str) = none
theorem noF_nil : NoF [] := ⟨rfl, rfl⟩
theorem noF_alw (z : Str) : NoF (fAlw z) := ⟨lk_ne (by decide +kernel), lk_ne (by decide +kernel)⟩
theorem noF_hours (b e : Int) (z : Str) : NoF (fHours b e z) :=
  ⟨(lk_ne (by decide +kernel)).trans ((lk_ne (by decide +kernel)).trans (noF_alw z).to), (lk_ne (by decide +kernel)).trans ((lk_ne (by decide +kernel)).trans (noF_alw z).deep)⟩
theorem noF_from (l : Addr) (z : Str) : NoF (fFrom l z) := ⟨(lk_ne (by decide +kernel)).trans (noF_alw z).to, (lk_ne (by decide +kernel)).trans (noF_alw z).deep⟩
theorem noF_first (l : Addr) : NoF (fFirst l) := ⟨lk_ne (by decide +kernel), lk_ne (by decide +kernel)⟩
theorem alw_number (z : Str) : (fAlw z).lookup ("number" : Str) = some (.str z) := lk_eq
theorem hours_number (b e : Int) (z : Str) : (fHours b e z).lookup ("number" : Str) = some (.str z) := (lk_ne (by decide +kernel)).trans ((lk_ne (by decide +kernel)).trans lk_eq)
theorem hours_begin (b e : Int) (z : Str) : (fHours b e z).lookup ("begin" : Str) = some (.int b) := (lk_ne (by decide +kernel)).trans lk_eq
theorem hours_end (b e : Int) (z : Str) : (fHours b e z).lookup ("end" : Str) = some (.int e) := lk_eq
theorem from_number (l : Addr) (z : Str) : (fFrom l z).lookup ("number" : Str) = some (.str z) := (lk_ne (by decide +kernel)).trans lk_eq
theorem from_askers (l : Addr) (z : Str) : (fFrom l z).lookup ("askers" : Str) = some (.ref l) := lk_eq
theorem first_rules (l : Addr) : (fFirst l).lookup ("rules" : Str) = some (.ref l) := lk_eq
theorem plan_things (t w : Addr) : (fPlan t w).lookup ("things" : Str) = some (.ref t) := (lk_ne (by decide +kernel)).trans lk_eq
theorem plan_ways (t w : Addr) : (fPlan t w).lookup ("ways" : Str) = some (.ref w) := lk_eq
/-! ### rules -/
def PRule (C : CA) (H : Hp) (r : Addr) : PT → Prop
  | .stays => ∃ dx, H r = some (.ins C.stays dx [])
  | .always z => ∃ dx, H r = some (.ins C.alw dx (fAlw z))
  | .busy z => ∃ dx, H r = some (.ins C.busy dx (fAlw z))
  | .hours b e z => ∃ dx, H r = some (.ins C.hours dx (fHours b e z))
  | .fromW ws z => ∃ dx l, H r = some (.ins C.frm dx (fFrom l z)) ∧ H l = some (.lst (ws.map V.int))
theorem ext_ins {H H' : Hp} {r C dx : Addr} {fs : List (Str × V)} (e : Ext H H') (h : H r = some (.ins C dx fs)) : H' r = some (.ins C dx fs) := e _ _ h (fun _ z => by cases z) (fun _ _ z => by cases z)
theorem ext_lst {H H' : Hp} {r : Addr} {xs : List V} (e : Ext H H') (h : H r = some (.lst xs)) : H' r = some (.lst xs) := e _ _ h (fun _ z => by cases z) (fun _ _ z => by cases z)
theorem ext_tup {H H' : Hp} {r : Addr} {xs : List V} (e : Ext H H') (h : H r = some (.tup xs)) : H' r = some (.tup xs) := e _ _ h (fun _ z => by cases z) (fun _ _ z => by cases z)
theorem ext_dK {H H' : Hp} {r : Addr} {xs : List (Key × V)} (e : Ext H H') (h : H r = some (.dK xs)) : H' r = some (.dK xs) := e _ _ h (fun _ z => by cases z) (fun _ _ z => by cases z)
theorem PRule.ext {C : CA} {H H' : Hp} {r : Addr} {p : PT} (h : PRule C H r p) (e : Ext H H') : PRule C H' r p := by
  cases p with
  | stays => obtain ⟨dx, a⟩ := h; exact ⟨dx, ext_ins e a⟩
  | always z => obtain ⟨dx, a⟩ := h; exact ⟨dx, ext_ins e a⟩
  | busy z => obtain ⟨dx, a⟩ := h; exact ⟨dx, ext_ins e a⟩
  | hours b d z => obtain ⟨dx, a⟩ := h; exact ⟨dx, ext_ins e a⟩
  | fromW ws z => obtain ⟨dx, l, a, b⟩ := h; exact ⟨dx, l, ext_ins e a, ext_lst e b⟩
/-- one by one -/
structure Each {α : Type} (R : Addr → α → Prop) (as : List Addr) (ps : List α) : Prop where
  len : as.length = ps.length
  at_ : ∀ (i : Nat) (a : Addr) (p : α), as[i]? = some a → ps[i]? = some p → R a p
theorem Each.imp {α : Type} {R R' : Addr → α → Prop} {as : List Addr} {ps : List α} (h : Each R as ps) (k : ∀ a p, R a p → R' a p) : Each R' as ps := ⟨h.len, fun i a p h1 h2 => k a p (h.at_ i a p h1 h2)⟩
theorem Each.nil {α : Type} {R : Addr → α → Prop} : Each R [] [] := ⟨rfl, fun i a p h => by simp at h⟩
theorem Each.snoc {α : Type} {R : Addr → α → Prop} {as : List Addr} {ps : List α} {a : Addr} {p : α} (h : Each R as ps) (r : R a p) : Each R (as ++ [a]) (ps ++ [p]) := by
  refine ⟨by rw [List.length_append, List.length_append, h.len]; rfl, fun i b q h1 h2 => ?_⟩
  by_cases c : i < as.length
  · rw [List.getElem?_append_left c] at h1
    rw [List.getElem?_append_left (by rw [← h.len]; exact c)] at h2
    exact h.at_ i b q h1 h2
  · rw [List.getElem?_append_right (by omega)] at h1
    rw [List.getElem?_append_right (by rw [← h.len]; omega)] at h2
    rw [h.len] at h1
    cases e : i - ps.length with
    | zero =>
      rw [e] at h1 h2
      have e1 : a = b := Option.some.inj h1
      have e2 : p = q := Option.some.inj h2
      rw [← e1, ← e2]
      exact r
    | succ j =>
      rw [e] at h1
      simp at h1
theorem Each.get {α : Type} {R : Addr → α → Prop} {as : List Addr} {ps : List α} {i : Nat} {a : Addr} (h : Each R as ps) (ha : as[i]? = some a) : ∃ p, ps[i]? = some p ∧ R a p := by
  have hi : i < as.length := (List.getElem?_eq_some_iff.mp ha).1
  have hi2 : i < ps.length := by rw [← h.len]; exact hi
  exact ⟨ps[i], List.getElem?_eq_getElem hi2, h.at_ i a _ ha (List.getElem?_eq_getElem hi2)⟩
def RuleAt (C : CA) (H : Hp) (r : Addr) : Told → Prop
  | .plain p => PRule C H r p
  | .first ps => ∃ dx l rs, H r = some (.ins C.first dx (fFirst l)) ∧ H l = some (.lst (rs.map V.ref)) ∧ Each (PRule C H) rs ps
theorem RuleAt.ext {C : CA} {H H' : Hp} {r : Addr} {t : Told} (h : RuleAt C H r t) (e : Ext H H') : RuleAt C H' r t := by
  cases t with
  | plain p => exact PRule.ext h e
  | first ps =>
    obtain ⟨dx, l, rs, a, b, c⟩ := h
    exact ⟨dx, l, rs, ext_ins e a, ext_lst e b, c.imp fun _ _ z => PRule.ext z e⟩
/-! ### tuples that tell rules -/
def PTold (H : Hp) (a : Addr) : PT → Prop
  | .stays => H a = some (.tup [.str "stays"])
  | .always z => H a = some (.tup [.str "always", .str z])
  | .busy z => H a = some (.tup [.str "busy", .str z])
  | .hours b e z => H a = some (.tup [.str "hours", .int b, .int e, .str z])
  | .fromW ws z => ∃ l, H a = some (.tup [.str "from", .ref l, .str z]) ∧ H l = some (.lst (ws.map V.int))
theorem PTold.ext {H H' : Hp} {a : Addr} {p : PT} (h : PTold H a p) (e : Ext H H') : PTold H' a p := by
  cases p with
  | stays => exact ext_tup e h
  | always z => exact ext_tup e h
  | busy z => exact ext_tup e h
  | hours b d z => exact ext_tup e h
  | fromW ws z => obtain ⟨l, x, y⟩ := h; exact ⟨l, ext_tup e x, ext_lst e y⟩
def ToldAt (H : Hp) (a : Addr) : Told → Prop
  | .plain p => PTold H a p
  | .first ps => ∃ l as, H a = some (.tup [.str "first", .ref l]) ∧ H l = some (.lst (as.map V.ref)) ∧ Each (PTold H) as ps
theorem ToldAt.ext {H H' : Hp} {a : Addr} {t : Told} (h : ToldAt H a t) (e : Ext H H') : ToldAt H' a t := by
  cases t with
  | plain p => exact PTold.ext h e
  | first ps =>
    obtain ⟨l, as, x, y, z⟩ := h
    exact ⟨l, as, ext_tup e x, ext_lst e y, z.imp fun _ _ q => PTold.ext q e⟩
/-! ### plans -/
abbrev PRows := List (Str × Int)
def sgR (rows : PRows) : Rows := rows.map fun p => (sg p.1, p.2)
def thingsK (rows : PRows) : List (Key × V) := rows.map fun p => ((Sum.inr p.1 : Key), V.int p.2)
theorem sg_beq (a b : Str) : (sg a == sg b) = decide (a = b) := by
  by_cases e : a = b
  · rw [e, decide_eq_true rfl]; exact beq_self_eq_true _
  · rw [decide_eq_false e]
    exact beq_eq_false_iff_ne.mpr fun z => e (sg_inj z)
theorem val_things : ∀ (rows : PRows) (z : Str), valV (thingsK rows) (Sum.inr z : Key) = ((sgR rows).lookup (sg z)).map V.int
  | [], z => rfl
  | p :: r, z => by
    have ih := val_things r z
    show valV (((Sum.inr p.1 : Key), V.int p.2) :: thingsK r) (Sum.inr z : Key) = (List.lookup (sg z) ((sg p.1, p.2) :: sgR r)).map V.int
    rw [List.lookup_cons, sg_beq]
    by_cases e : z = p.1
    · rw [decide_eq_true e]
      exact valV_pos (by rw [e])
    · rw [decide_eq_false e]
      exact (valV_neg fun q => e (Sum.inr.inj q).symm).trans ih
/-- a plan as the law makes it -/
structure RowsOk (rows : PRows) : Prop where
  nd : ((sgR rows).map (·.1)).Nodup
  fig : ∀ p ∈ rows, Fig 15 p.1
  wire : ∀ p ∈ rows, 0 ≤ p.2 ∧ p.2 ≤ 9
  len : rows.length ≤ 100
theorem RowsOk.ne {rows : PRows} (h : RowsOk rows) : ∀ p ∈ sgR rows, p.1 ≠ [] := fun p hp e => by
  obtain ⟨q, hq, rfl⟩ := List.mem_map.mp hp
  have z := (h.fig q hq).lo
  have e' : q.1.cps.toList = [] := e
  have l : q.1.length = 0 := by
    show q.1.cps.size = 0
    rw [← Array.length_toList, e']
    rfl
  omega
structure PlanAt (C : CA) (H : Hp) (p : Addr) (rows : PRows) : Prop where
  ex : ∃ dx t w, H p = some (.ins C.plan dx (fPlan t w)) ∧ H t = some (.dK (thingsK rows))
theorem PlanAt.ext {C : CA} {H H' : Hp} {p : Addr} {rows : PRows} (h : PlanAt C H p rows) (e : Ext H H') : PlanAt C H' p rows := by
  obtain ⟨dx, t, w, a, b⟩ := h.ex
  exact ⟨dx, t, w, ext_ins e a, ext_dK e b⟩
/-- the rows as the law has them: a list of pairs -/
structure RowsAt (H : Hp) (l : Addr) (rows : PRows) : Prop where
  ex : ∃ as, H l = some (.lst (as.map V.ref)) ∧ Each (fun a (p : Str × Int) => H a = some (.tup [.str p.1, .int p.2])) as rows
theorem RowsAt.ext {H H' : Hp} {l : Addr} {rows : PRows} (h : RowsAt H l rows) (e : Ext H H') : RowsAt H' l rows := by
  obtain ⟨as, a, b⟩ := h.ex
  exact ⟨as, ext_lst e a, b.imp fun _ _ q => ext_tup e q⟩
/-! ### what the top has written -/
structure Ins (K : PySem.W.Frag) (C R : Addr) : Prop where
  cl : Cls K C
  own : PySem.W.findIn K (.ref C) "__class__" = some (some (.builtin "object.__class__"))
  top : PySem.W.mroIn K C (.type "object") = some true
  kit : PySem.W.kitOne K (.ref C) (.ref R) = some true
structure Txt (w : World) (K : PySem.W.Frag) (mg : Str → Option Value) (C : CA) : Prop where
  isi : mg "isinstance" = none
  str : mg "str" = none
  len : mg "len" = none
  all : mg "all" = none
  int : mg "int" = none
  bool : mg "bool" = none
  range : mg "range" = none
  list : mg "list" = none
  max : mg "max" = none
  sorted : mg "sorted" = none
  tuple : mg "tuple" = none
  set : mg "set" = none
  mFig : ∃ t, mg "MOST_FIGURES" = some (.int 15 t)
  mRows : ∃ t, mg "MOST_ROWS" = some (.int 200 t)
  mDay : ∃ t, mg "DAY" = some (.int 86400 t)
  mWires : ∃ t, mg "MOST_WIRES" = some (.int 20 t)
  mLast : ∃ t, mg "LAST_WIRE" = some (.int 63 t)
  mRules : ∃ t, mg "MOST_RULES" = some (.int 6 t)
  mDeep : ∃ t, mg "MOST_DEEP" = some (.int 3 t)
  mFigures : ∃ t, mg "FIGURES" = some (.str "0123456789" t)
  gPlan : mg "Plan" = some (.ref C.plan)
  gRule : mg "Rule" = some (.ref C.rule)
  gStays : mg "Stays" = some (.ref C.stays)
  gAlw : mg "Always" = some (.ref C.alw)
  gBusy : mg "Busy" = some (.ref C.busy)
  gHours : mg "Hours" = some (.ref C.hours)
  gFrom : mg "From" = some (.ref C.frm)
  gFirst : mg "First" = some (.ref C.first)
  clPlan : Cls K C.plan
  iStays : Ins K C.stays C.rule
  iAlw : Ins K C.alw C.rule
  iBusy : Ins K C.busy C.rule
  iHours : Ins K C.hours C.rule
  iFrom : Ins K C.frm C.rule
  iFirst : Ins K C.first C.rule
  ccGet : PySem.W.specialIn K (.builtin "object.__class__") "__get__" = some (some (.builtin "getset_descriptor.__get__"))
  ccTake : PySem.W.takesIn K (.builtin "object.__class__") = some true
  nThings : NoAttr K C.plan "things"
  nWays : NoAttr K C.plan "ways"
  nNumA : NoAttr K C.alw "number"
  nNumB : NoAttr K C.busy "number"
  nNumH : NoAttr K C.hours "number"
  nBegin : NoAttr K C.hours "begin"
  nEnd : NoAttr K C.hours "end"
  nNumF : NoAttr K C.frm "number"
  nAskers : NoAttr K C.frm "askers"
  nRules : NoAttr K C.first "rules"
  mk0 : Mk0 K C.stays
  sizes : ∃ (d : Addr) (es : Array DictEntry) (n : Nat), mg "SIZES" = some (.ref d) ∧ KDict K w d es n ∧ (∃ u, PySem.W.nsIn K d "stays" = some (some u) ∧ RelV (.int 1) u) ∧ (∃ u, PySem.W.nsIn K d "always" = some (some u) ∧ RelV (.int 2) u) ∧
    (∃ u, PySem.W.nsIn K d "busy" = some (some u) ∧ RelV (.int 2) u) ∧ (∃ u, PySem.W.nsIn K d "hours" = some (some u) ∧ RelV (.int 4) u) ∧ (∃ u, PySem.W.nsIn K d "from" = some (some u) ∧ RelV (.int 3) u) ∧ (∃ u, PySem.W.nsIn K d "first" = some (some u) ∧ RelV (.int 2) u)
theorem Txt.ins {w : World} {K : PySem.W.Frag} {mg : Str → Option Value} {C : CA} (T : Txt w K mg C) {H : Hp} {D : Addr} (i : Ins K D C.rule) {a dx : Addr} {fs : List (Str × V)} (h : H a = some (.ins D dx fs)) : TyX K H (.ref a) (.ref D) :=
  .base (.ins h i.cl i.own T.ccGet T.ccTake i.top)
/-! ### defs by their names -/
structure Glob (P : Program) (w : World) (K : PySem.W.Frag) (mg : Str → Option Value) (base : Heap) (k : Nat) (x : Str) (ps : List Str) (sp : Sp) : Prop where
  ex : ∃ (f : Addr) (fd : FuncData), FnOk P w K mg base CX0 k f fd ps sp ∧ mg x = some (.ref f) ∧ PySem.W.keepIn K (.ref f) = true ∧ Binds K fd ps []
section
variable {X : Cx} {k j : Nat} {x : Str} {ps : List Str} {sp : Sp} {p pos : Pos} {e : Expr} {es : List Expr} {t : TA}
theorem pe_callG (G : Glob X.prog X.w X.K X.mg X.base k x ps sp) (hr : Room j X.A) (hk : k ≤ j) (hg : Gl X x) (ha : PA X (e :: es) t)
    (hdb : (x == ("__debug__" : Str)) = false := by decide) (he : starEach (e :: es) X.env = (false, eval e X.env) :: starEach es X.env := by rfl) (hpl : (backTo pos (starEach es X.env)).any (·.1) = false := by rfl) :
    PE X (.Call (.Name x p) (e :: es) [] pos) (tCall sp [] E0 t) := by
  obtain ⟨f, fd, F, hm, kp, hb⟩ := G.ex
  exact pe_call F (hr.mono hk) hg hm kp hb .nil pass0 ha hdb he hpl
/-- a class that makes instances by its __init__ -/
structure MkOf (P : Program) (w : World) (K : PySem.W.Frag) (mg : Str → Option Value) (base : Heap) (k : Nat) (D : Addr) (ps : List Str) (sp : Sp) : Prop where
  ex : ∃ (f : Addr) (fd : FuncData), Mk K D f ∧ FnOk P w K mg base CX0 k f fd ps sp ∧ Binds K fd ps []
theorem pe_makeG {D : Addr} (M : MkOf X.prog X.w X.K X.mg X.base k D ps sp) (hr : Room j X.A) (hk : k + 1 ≤ j) (hg : Gl X x) (hm : X.mg x = some (.ref D)) (ha : PA X (e :: es) t)
    (hdb : (x == ("__debug__" : Str)) = false := by decide) (he : starEach (e :: es) X.env = (false, eval e X.env) :: starEach es X.env := by rfl) (hpl : (backTo pos (starEach es X.env)).any (·.1) = false := by rfl) :
    PE X (.Call (.Name x p) (e :: es) [] pos) (tMake D sp [] E0 t) := by
  obtain ⟨f, fd, mk, F, hb⟩ := M.ex
  exact pe_make mk F (hr.mono hk) hg hm hb .nil pass0 ha hdb he hpl
/-- a module's int, text -/
theorem pe_globI {i : Int} (hg : Gl X x) (hm : ∃ t, X.mg x = some (.int i t)) (hd : (x == ("__debug__" : Str)) = false := by decide) : PE X (.Name x pos) (tC (.int i)) := by
  obtain ⟨t, hm⟩ := hm
  exact pe_glob hg hm ⟨t, rfl⟩ hd
theorem pe_globS {z : Str} (hg : Gl X x) (hm : ∃ t, X.mg x = some (.str z t)) (hd : (x == ("__debug__" : Str)) = false := by decide) : PE X (.Name x pos) (tC (.str z)) := by
  obtain ⟨t, hm⟩ := hm
  exact pe_glob hg hm ⟨t, rfl⟩ hd
end
end K55
set_option maxHeartbeats 2100000
/-! k55: figures, numbers, need -/
namespace K55
open PySem PySem.Spec PyProof.Rows L2 LamX NdefX
/-- a comprehension over anything of n turns -/
theorem lc_any {J : It} {n : Nat} {g : TG} {tt : TT} {te : TE} {vs : List Nat} {σ : L2.St} {H1 : Hp} {D : Addr} {Qd : Hp → Prop} (Pv : Nat → Hp → Prop) (h0 : Pv 0 (upd H1 D (.lst []))) (hgo : ∀ i H, i < n → Pv i H → J.go i H) (hst : ∀ H, Pv n H → J.stop n H)
    (hs : ∀ i x H H', i < n → Pv i H → J.yld i H x H' → g x (wipe σ vs) H' fun σ2 H2 => wipe σ2 vs = wipe σ vs ∧ tt σ2 H2 fun b H3 =>
      if b = true then te σ2 H3 fun y H4 => ∃ acc, H4 D = some (.lst acc) ∧ acc.length < sizeLine ∧ Pv (i + 1) (upd H4 D (.lst (acc ++ [y]))) else Pv (i + 1) H3) (hd : ∀ H, Pv n H → Qd H) :
    ∃ W : Nat → Nat → Hp → Prop, (∃ m, W 0 m (upd H1 D (.lst []))) ∧ ∀ i m H, W i m H →
      (J.stop i H ∧ Qd H) ∨ (J.go i H ∧ ∃ Nx : Hp → Prop, (∀ H', Nx H' → ∃ m', m' < m ∧ W (i + 1) m' H') ∧ ∀ x H', J.yld i H x H' → g x (wipe σ vs) H' fun σ2 H2 => wipe σ2 vs = wipe σ vs ∧ tt σ2 H2 fun b H3 =>
        if b = true then te σ2 H3 fun y H4 => ∃ acc, H4 D = some (.lst acc) ∧ acc.length < sizeLine ∧ Nx (upd H4 D (.lst (acc ++ [y]))) else Nx H3) := by
  refine ⟨fun i m H => m = n - i ∧ i ≤ n ∧ Pv i H, ⟨n, by simp, Nat.zero_le _, h0⟩, ?_⟩
  rintro i m H ⟨em, hi, p⟩
  by_cases hlt : i < n
  · exact .inr ⟨hgo i H hlt p, Pv (i + 1), fun H' p' => ⟨n - (i + 1), by omega, rfl, hlt, p'⟩, fun x H' y => hs i x H H' hlt p y⟩
  · have e : i = n := by omega
    rw [e] at p ⊢
    exact .inl ⟨hst H p, hd H p⟩
theorem blT {p : Prop} [Decidable p] (h : p) : V.bl (decide p) = V.bl true := congrArg V.bl (decide_eq_true h)
theorem blF {p : Prop} [Decidable p] (h : ¬ p) : V.bl (decide p) = V.bl false := congrArg V.bl (decide_eq_false h)
/-- a turn of a comprehension without a test -/
theorem lc_yes {σ : L2.St} {H : Hp} {A B : Hp → Prop} (h : A H) : tYes σ H fun b H3 => if b = true then A H3 else B H3 := by
  show if true = true then A H else B H
  rw [if_pos rfl]
  exact h
def spFig : Sp := fun vs H Q _ => ∃ z : Str, vs = [.str z] ∧ Fig 15 z ∧ ∀ H', Same H H' → Q (.bl true) H'
def spBet : Sp := fun vs H Q _ => ∃ i a b : Int, vs = [.int i, .int a, .int b] ∧ Q (.bl (decide (a ≤ i) && decide (i ≤ b))) H
def spNeed : Sp := fun vs H Q _ => vs = [.bl true] ∧ Q .non H
theorem fig_sizeLine {n : Nat} {z : Str} (h : Fig n z) (hn : n ≤ 1000) : z.length ≤ sizeLine := Nat.le_of_lt (small1000 (Nat.le_trans h.hi hn))
/-- nothing was tracked at p -/
theorem upd_free {H H' : Hp} {p : Addr} (e : Same H H') (n : H p = none) {o : HO} : Same H (upd H' p o) := fun b u h => by
  rw [upd_ne (ne_of_none h n)]
  exact e b u h
theorem figures_has {c : Nat} (h : c = 48 ∨ c = 49 ∨ c = 50 ∨ c = 51) : c ∈ ("0123456789" : Str).cps.toList := by
  rcases h with h | h | h | h <;> (rw [h]; decide +kernel)
section
variable {P : Program} {w : World} {K : PySem.W.Frag} {mg : Str → Option Value} {base : Heap} {f : Addr} {fd : FuncData} {C : CA}
theorem scFig : FnScope ["thing", "sign"] ["thing"] (defScope sIsFig) := ⟨rfl, rfl, rfl, by decide +kernel, rfl, by decide +kernel, by decide +kernel⟩
theorem ok_fig (F : FnP K "is_figures" "is_figures" sIsFig f fd) (T : Txt w K mg C) : FnOk P w K mg base CX0 1 f fd ["thing"] spFig := by
  refine F.ok scFig (fun vs H Q E h => by obtain ⟨z, rfl, _⟩ := h; rfl) (fun cdv A outer s H vs Q E hr h => ?_)
  obtain ⟨z, rfl, fz, q⟩ := h
  have nd := scFig.nd
  refine ⟨_, PSs.nox (pss_cons (ps_if (PW.pt (pw_or (pt_not (pt_val (pe_callB call_isi (by rfl) T.isi (by decide +kernel) (pa_cons (pv 0) (pa_cons (pe_bltn (v := .ty "str") (by rfl) T.str (by decide +kernel) rfl) pa_nil)))))
      (pw_or1 (pt_not (pt_chain op_le op_le pe_int (pe_callB call_len_str (by rfl) T.len PySem.boot_len (pa_cons (pv 0) pa_nil)) (pe_globI rfl T.mFig)))))) (pss_one (ps_ret pe_bl)) pss_nil)
    (pss_one (ps_ret (pe_callB (cr_all rfl) (by rfl) T.all (by decide +kernel) (pa_cons (pe_lc (own := [("sign", 1)]) (g := gName 1) (tt := tYes) rfl nd (pi_str (pv 0)) (blkOk_by (N := ["thing", "sign"]) (sc := defScope sIsFig) (by decide +kernel))
      (fun _ _ _ _ _ => pg_name (i := 1) nd rfl (Or.inl rfl)) (fun _ _ _ _ _ => pts_nil) (fun _ _ _ _ _ => pe_cmpR op_in_sign (pv 1) (pe_globS rfl T.mFigures) (by rfl))) pa_nil))))), ?_⟩
  refine ⟨_, rfl, _, .ty "str", _, _, true, rfl, .ty _, .base (.str _), kit_ty (by decide +kernel), true, rfl, ?_⟩
  refine iteF ?_
  refine ⟨_, rfl, _, rfl, fig_sizeLine fz (by decide), _, _, rfl, rfl, true, blT (by have := fz.lo; omega), ?_⟩
  refine iteT ?_
  refine ⟨_, _, rfl, rfl, true, blT (by have := fz.hi; omega), ?_⟩
  refine iteF ?_
  refine ⟨_, rfl, _, rfl, fun D nD => ?_⟩
  refine lc_any (n := z.cps.size) (fun i H1 => Same H H1 ∧ H1 D = some (.lst (List.replicate i (V.bl true)))) ⟨same_upd nD, upd_same⟩ (fun i H1 hi _ => hi) (fun H1 _ => Nat.le_refl _) (fun i x H1 H2 hi p y => ?_) (fun H1 p => ?_)
  · obtain ⟨rfl, c, hc, rfl⟩ := y
    obtain ⟨sm, hD⟩ := p
    refine ⟨rfl, lc_yes ?_⟩
    refine ⟨_, rfl, c, _, rfl, rfl, _, hD, ?_, upd_free sm nD, ?_⟩
    · rw [List.length_replicate]
      exact Nat.lt_of_lt_of_le hi (fig_sizeLine fz (by decide))
    · rw [upd_same, decide_eq_true (figures_has (fz.dig c (Array.mem_toList_iff.mpr (Array.mem_of_getElem? hc)))), List.replicate_succ']
  · obtain ⟨sm, hD⟩ := p
    refine ⟨D, List.replicate z.cps.size true, rfl, SqL.of (by rw [List.map_replicate]; exact hD), ?_⟩
    have e : (List.replicate z.cps.size true).all id = true := by
      rw [List.all_eq_true]
      intro b hb
      exact (List.mem_replicate.mp hb).2
    rw [e]
    exact q _ sm
theorem scBet : FnScope ["thing", "least", "most"] ["thing", "least", "most"] (defScope sIsBet) := ⟨rfl, rfl, rfl, by decide +kernel, rfl, by decide +kernel, by decide +kernel⟩
theorem ok_bet (F : FnP K "is_between" "is_between" sIsBet f fd) (T : Txt w K mg C) : FnOk P w K mg base CX0 1 f fd ["thing", "least", "most"] spBet := by
  refine F.ok scBet (fun vs H Q E h => by obtain ⟨i, a, b, rfl, _⟩ := h; rfl) (fun cdv A outer s H vs Q E hr h => ?_)
  obtain ⟨i, a, b, rfl, q⟩ := h
  refine ⟨_, PSs.nox (pss_one (ps_ret (pe_and (pe_callB call_isi (by rfl) T.isi (by decide +kernel) (pa_cons (pv 0) (pa_cons (pe_bltn (v := .ty "int") (by rfl) T.int (by decide +kernel) rfl) pa_nil)))
    (pe_and (pe_not (pe_callB call_isi (by rfl) T.isi (by decide +kernel) (pa_cons (pv 0) (pa_cons (pe_bltn (v := .ty "bool") (by rfl) T.bool (by decide +kernel) rfl) pa_nil))))
      (pe_one (pe_chain op_le op_le (pv 1) (pv 0) (pv 2))))))), ?_⟩
  refine ⟨_, rfl, _, .ty "int", _, _, true, rfl, .ty _, .base (.int _), kit_ty (by decide +kernel), true, rfl, iteT ?_⟩
  refine ⟨_, rfl, _, .ty "bool", _, _, false, rfl, .ty _, .base (.int _), kit_ty (by decide +kernel), false, rfl, true, rfl, iteT ?_⟩
  refine ⟨_, rfl, _, rfl, _, _, rfl, rfl, decide (a ≤ i), rfl, ?_⟩
  by_cases c : a ≤ i
  · rw [decide_eq_true c] at q ⊢
    exact iteT ⟨_, rfl, _, _, rfl, rfl, q⟩
  · rw [decide_eq_false c] at q ⊢
    exact iteF q
theorem scNeed : FnScope ["good"] ["good"] (defScope sNeed) := ⟨rfl, rfl, rfl, by decide +kernel, rfl, by decide +kernel, by decide +kernel⟩
theorem ok_need (F : FnP K "need" "need" sNeed f fd) : FnOk P w K mg base CX0 1 f fd ["good"] spNeed := by
  refine F.ok scNeed (fun vs H Q E h => by obtain ⟨rfl, _⟩ := h; rfl) (fun cdv A outer s H vs Q E hr h => ?_)
  obtain ⟨rfl, q⟩ := h
  refine ⟨_, PSs.nox (pss_one (ps_if (pt_not (pt_val (pv 0))) pss_never pss_nil)), ?_⟩
  exact ⟨_, rfl, _, rfl, iteF q⟩
end
end K55
set_option maxHeartbeats 2100000
/-! k55: rules made: __init__, deep -/
namespace K55
open PySem PySem.Spec PyProof.Rows L2 LamX NdefX
def Keep1 (H H' : Hp) (p : Addr) : Prop := ∀ b o, H b = some o → b ≠ p → H' b = some o
theorem Keep1.wr {H H' : Hp} {p : Addr} {o : HO} (k : Keep1 H H' p) : Keep1 H (upd H' p o) p := fun b u e hb => by
  rw [upd_ne hb]
  exact k b u e hb
theorem Keep1.trans {H H1 H2 : Hp} {p : Addr} (a : Keep1 H H1 p) (b : Keep1 H1 H2 p) : Keep1 H H2 p := fun c o e h => b c o (a c o e h) h
theorem Keep1.ofS {H H' : Hp} {p : Addr} (s : Same H H') : Keep1 H H' p := fun b o e _ => s b o e
/-- a new instance, its fields written: all that was stands -/
theorem Keep1.made {H H1 : Hp} {x dx C : Addr} (nx : H x = none) (nd : H dx = none) (k : Keep1 (upd (upd H dx (.own x)) x (.ins C dx [])) H1 x) : Same H H1 := Same.made nx nd k
theorem PRule.keep1 {C : CA} {H H' : Hp} {a x D dx : Addr} {fs : List (Str × V)} {p : PT} (h : PRule C H a p) (na : a ≠ x) (hx : H x = some (.ins D dx fs)) (k : Keep1 H H' x) : PRule C H' a p := by
  cases p with
  | stays => obtain ⟨d, e⟩ := h; exact ⟨d, k _ _ e na⟩
  | always z => obtain ⟨d, e⟩ := h; exact ⟨d, k _ _ e na⟩
  | busy z => obtain ⟨d, e⟩ := h; exact ⟨d, k _ _ e na⟩
  | hours b c z => obtain ⟨d, e⟩ := h; exact ⟨d, k _ _ e na⟩
  | fromW ws z => obtain ⟨d, l, e, g⟩ := h; exact ⟨d, l, k _ _ e na, k _ _ g (ne_of g hx (by intro y; cases y))⟩
def spAlwI (K : PySem.W.Frag) : Sp := fun vs H Q _ => ∃ (p D dx : Addr) (z : Str), vs = [.ref p, .str z] ∧ H p = some (.ins D dx []) ∧ Cls K D ∧ NoAttr K D "number" ∧ Fig 15 z ∧ ∀ H', H' p = some (.ins D dx (fAlw z)) → Keep1 H H' p → Q .non H'
def spHoursI (C : CA) : Sp := fun vs H Q _ => ∃ (p dx : Addr) (b e : Int) (z : Str), vs = [.ref p, .int b, .int e, .str z] ∧ H p = some (.ins C.hours dx []) ∧ (0 ≤ b ∧ b ≤ 86399) ∧ (0 ≤ e ∧ e ≤ 86399) ∧ Fig 15 z ∧
  ∀ H', H' p = some (.ins C.hours dx (fHours b e z)) → Keep1 H H' p → Q .non H'
def spFromI (C : CA) : Sp := fun vs H Q _ => ∃ (p dx l : Addr) (ws : List Int) (z : Str), vs = [.ref p, .ref l, .str z] ∧ H p = some (.ins C.frm dx []) ∧ H l = some (.lst (ws.map V.int)) ∧ (1 ≤ ws.length ∧ ws.length ≤ 20) ∧ ws.Nodup ∧ (∀ w ∈ ws, 0 ≤ w ∧ w ≤ 63) ∧ Fig 15 z ∧
  ∀ (H' : Hp) (l' : Addr), H l' = none → H' p = some (.ins C.frm dx (fFrom l' z)) → H' l' = some (.lst (ws.map V.int)) → Keep1 H H' p → Q .non H'
def spFirstI (C : CA) : Sp := fun vs H Q _ => ∃ (p dx l : Addr) (rs : List Addr) (ps : List PT), vs = [.ref p, .ref l] ∧ H p = some (.ins C.first dx []) ∧ H l = some (.lst (rs.map V.ref)) ∧ Each (fun a pt => a ≠ p ∧ PRule C H a pt) rs ps ∧ (1 ≤ ps.length ∧ ps.length ≤ 6) ∧
  ∀ (H' : Hp) (l' : Addr), H' p = some (.ins C.first dx (fFirst l')) → H' l' = some (.lst (rs.map V.ref)) → Keep1 H H' p → Q .non H'
def spDeep0 : Sp := fun vs H Q _ => ∃ v : V, vs = [v] ∧ Q (.int 0) H
def spDeep1 (C : CA) : Sp := fun vs H Q _ => ∃ (p dx l : Addr) (rs : List Addr) (ps : List PT), vs = [.ref p] ∧ H p = some (.ins C.first dx (fFirst l)) ∧ H l = some (.lst (rs.map V.ref)) ∧ Each (PRule C H) rs ps ∧ (1 ≤ ps.length ∧ ps.length ≤ 6) ∧
  ∀ H', Same H H' → Q (.int 1) H'
theorem needB {b : Bool} (h : b = true) : ([V.bl b] : List V) = [V.bl true] := by rw [h]
theorem and2 {p q : Prop} [Decidable p] [Decidable q] (h : p ∧ q) : (decide p && decide q) = true := by
  rw [decide_eq_true h.1, decide_eq_true h.2]
  rfl
/-- which of the plain classes it is -/
structure OfP (C : CA) (D : Addr) : Prop where
  any : D = C.stays ∨ D = C.alw ∨ D = C.busy ∨ D = C.hours ∨ D = C.frm
/-- a plain rule is an instance of a plain class -/
theorem PRule.obj {C : CA} {H : Hp} {r : Addr} {p : PT} (h : PRule C H r p) : ∃ D dx fs, H r = some (.ins D dx fs) ∧ OfP C D ∧ NoF fs := by
  cases p with
  | stays => obtain ⟨dx, a⟩ := h; exact ⟨_, dx, _, a, ⟨.inl rfl⟩, noF_nil⟩
  | always z => obtain ⟨dx, a⟩ := h; exact ⟨_, dx, _, a, ⟨.inr (.inl rfl)⟩, noF_alw z⟩
  | busy z => obtain ⟨dx, a⟩ := h; exact ⟨_, dx, _, a, ⟨.inr (.inr (.inl rfl))⟩, noF_alw z⟩
  | hours b d z => obtain ⟨dx, a⟩ := h; exact ⟨_, dx, _, a, ⟨.inr (.inr (.inr (.inl rfl)))⟩, noF_hours b d z⟩
  | fromW ws z => obtain ⟨dx, l, a, b⟩ := h; exact ⟨_, dx, _, a, ⟨.inr (.inr (.inr (.inr rfl)))⟩, noF_from l z⟩
theorem Txt.insP {w : World} {K : PySem.W.Frag} {mg : Str → Option Value} {C : CA} (T : Txt w K mg C) {D : Addr} (h : OfP C D) : Ins K D C.rule := by
  rcases h.any with e | e | e | e | e <;> subst e
  · exact T.iStays
  · exact T.iAlw
  · exact T.iBusy
  · exact T.iHours
  · exact T.iFrom
def SDeep (C : CA) : Addr → Sp → Prop := fun D sp => OfP C D ∧ sp = spDeep0
section
variable {P : Program} {w : World} {K : PySem.W.Frag} {mg : Str → Option Value} {base : Heap} {f : Addr} {fd : FuncData} {C : CA}
theorem scAlwI : FnScope ["self", "number"] ["self", "number"] (defScope sAlwI) := ⟨rfl, rfl, rfl, by decide +kernel, rfl, by decide +kernel, by decide +kernel⟩
theorem ok_alwI (F : FnP K "__init__" "Always.__init__" sAlwI f fd) (T : Txt w K mg C) (GF : Glob P w K mg base 1 "is_figures" ["thing"] spFig) (GN : Glob P w K mg base 1 "need" ["good"] spNeed) : FnOk P w K mg base CX0 2 f fd ["self", "number"] (spAlwI K) := by
  refine F.ok scAlwI (fun vs H Q E h => by obtain ⟨p, D, dx, z, rfl, _⟩ := h; rfl) (fun cdv A outer s H vs Q E hr h => ?_)
  obtain ⟨p, D, dx, z, rfl, hp, hc, hn, hz, q⟩ := h
  refine ⟨_, PSs.nox (pss_cons (ps_expr (pe_callG GN hr (by decide) rfl (pa_cons (pe_callG GF hr (by decide) rfl (pa_cons (pv 1) pa_nil)) pa_nil))) (pss_one (ps_fld (pv 0) (pv 1) rfl))), ?_⟩
  refine ⟨_, rfl, z, rfl, hz, fun H1 sm => ⟨rfl, ?_⟩⟩
  refine ⟨_, rfl, _, rfl, p, D, dx, [], rfl, sm _ _ hp, hc, hn, by show 0 < 1000; decide, ?_⟩
  exact q _ upd_same (Keep1.ofS sm).wr
theorem scHoursI : FnScope ["self", "begin", "end", "number"] ["self", "begin", "end", "number"] (defScope sHoursI) := ⟨rfl, rfl, rfl, by decide +kernel, rfl, by decide +kernel, by decide +kernel⟩
theorem ok_hoursI {fA : Addr} {fdA : FuncData} (F : FnP K "__init__" "Hours.__init__" sHoursI f fd) (T : Txt w K mg C) (cf : ClsFn K C.alw (.type "type") "__init__" fA) (GA : FnOk P w K mg base CX0 2 fA fdA ["self", "number"] (spAlwI K)) (bA : Binds K fdA ["self", "number"] [])
    (GB : Glob P w K mg base 1 "is_between" ["thing", "least", "most"] spBet) (GN : Glob P w K mg base 1 "need" ["good"] spNeed) : FnOk P w K mg base CX0 3 f fd ["self", "begin", "end", "number"] (spHoursI C) := by
  refine F.ok scHoursI (fun vs H Q E h => by obtain ⟨p, dx, b, e, z, rfl, _⟩ := h; rfl) (fun cdv A outer s H vs Q E hr h => ?_)
  obtain ⟨p, dx, b, e, z, rfl, hp, hb, he, hz, q⟩ := h
  refine ⟨_, PSs.nox (pss_cons (ps_expr (pe_clsfn cf GA hr rfl T.gAlw bA pass0 (pa_cons (pv 0) (pa_cons (pv 3) pa_nil))))
    (pss_cons (ps_expr (pe_callG GN hr (by decide) rfl (pa_cons (pe_and (pe_callG GB hr (by decide) rfl (pa_cons (pv 1) (pa_cons pe_int (pa_cons (pe_op op_sub (pe_globI rfl T.mDay) pe_int) pa_nil))))
      (pe_one (pe_callG GB hr (by decide) rfl (pa_cons (pv 2) (pa_cons pe_int (pa_cons (pe_op op_sub (pe_globI rfl T.mDay) pe_int) pa_nil)))))) pa_nil)))
    (pss_cons (ps_fld (pv 0) (pv 1) rfl) (pss_one (ps_fld (pv 0) (pv 2) rfl))))), ?_⟩
  refine ⟨_, rfl, _, rfl, p, C.hours, dx, z, rfl, hp, T.iHours.cl, T.nNumH, hz, fun H1 h1 k1 => ?_⟩
  refine ⟨_, rfl, _, _, rfl, rfl, b, 0, 86400 - 1, rfl, true, congrArg V.bl (and2 ⟨hb.1, by omega⟩), iteT ?_⟩
  refine ⟨_, rfl, _, _, rfl, rfl, e, 0, 86400 - 1, rfl, needB (and2 ⟨he.1, by omega⟩), ?_⟩
  refine ⟨_, rfl, _, rfl, p, C.hours, dx, _, rfl, h1, T.iHours.cl, T.nBegin, by show 1 < 1000; decide, ?_⟩
  refine ⟨_, rfl, _, rfl, p, C.hours, dx, _, rfl, upd_same, T.iHours.cl, T.nEnd, by show 2 < 1000; decide, ?_⟩
  exact q _ upd_same k1.wr.wr
theorem scDeep0 : FnScope ["self"] ["self"] (defScope sRuleDeep) := ⟨rfl, rfl, rfl, by decide +kernel, rfl, by decide +kernel, by decide +kernel⟩
theorem ok_deep0 (F : FnP K "deep" "Rule.deep" sRuleDeep f fd) : FnOk P w K mg base CX0 1 f fd ["self"] spDeep0 := by
  refine F.ok scDeep0 (fun vs H Q E h => by obtain ⟨v, rfl, _⟩ := h; rfl) (fun cdv A outer s H vs Q E hr h => ?_)
  obtain ⟨v, rfl, q⟩ := h
  exact ⟨_, PSs.nox (pss_one (ps_ret pe_int)), q⟩
theorem scFromI : FnScope ["self", "wires", "number", "wire"] ["self", "wires", "number"] (defScope sFromI) := ⟨rfl, rfl, rfl, by decide +kernel, rfl, by decide +kernel, by decide +kernel⟩
theorem ok_fromI {fA : Addr} {fdA : FuncData} (F : FnP K "__init__" "From.__init__" sFromI f fd) (T : Txt w K mg C) (cf : ClsFn K C.alw (.type "type") "__init__" fA) (GA : FnOk P w K mg base CX0 2 fA fdA ["self", "number"] (spAlwI K)) (bA : Binds K fdA ["self", "number"] [])
    (GB : Glob P w K mg base 1 "is_between" ["thing", "least", "most"] spBet) (GN : Glob P w K mg base 1 "need" ["good"] spNeed) : FnOk P w K mg base CX0 3 f fd ["self", "wires", "number"] (spFromI C) := by
  refine F.ok scFromI (fun vs H Q E h => by obtain ⟨p, dx, l, ws, z, rfl, _⟩ := h; rfl) (fun cdv A outer s H vs Q E hr h => ?_)
  obtain ⟨p, dx, l, ws, z, rfl, hp, hl, hw, hnd, hws, hz, q⟩ := h
  have nd := scFromI.nd
  refine ⟨_, PSs.nox (pss_cons (ps_expr (pe_clsfn cf GA hr rfl T.gAlw bA pass0 (pa_cons (pv 0) (pa_cons (pv 2) pa_nil))))
    (pss_cons (ps_expr (pe_callG GN hr (by decide) rfl (pa_cons (pe_and (pe_callB call_isi (by rfl) T.isi (by decide +kernel) (pa_cons (pv 1) (pa_cons (pe_bltn (v := .ty "list") (by rfl) T.list (by decide +kernel) rfl) pa_nil)))
      (pe_one (pe_chain op_le op_le pe_int (pe_callB call_len_seq (by rfl) T.len PySem.boot_len (pa_cons (pv 1) pa_nil)) (pe_globI rfl T.mWires)))) pa_nil)))
    (pss_cons (ps_expr (pe_callG GN hr (by decide) rfl (pa_cons (pe_callB (cr_all rfl) (by rfl) T.all (by decide +kernel) (pa_cons (pe_lc (own := [("wire", 3)]) (g := gName 3) (tt := tYes) rfl nd (pi_list (pv 1)) (blkOk_by (N := ["self", "wires", "number", "wire"]) (sc := defScope sFromI) (by decide +kernel))
      (fun _ _ _ _ _ => pg_name (i := 3) nd rfl (Or.inl rfl)) (fun _ _ _ _ _ => pts_nil) (fun _ _ _ _ _ => pe_callG GB hr (by decide) rfl (pa_cons (pv 3) (pa_cons pe_int (pa_cons (pe_globI rfl T.mLast) pa_nil))))) pa_nil)) pa_nil)))
    (pss_cons (ps_expr (pe_callG GN hr (by decide) rfl (pa_cons (pe_cmpR op_eq (RZ.pe_lenSetI (by rfl) T.len (by rfl) T.set (pv 1)) (pe_callB call_len_seq (by rfl) T.len PySem.boot_len (pa_cons (pv 1) pa_nil)) (nomark _)) pa_nil)))
    (pss_one (ps_fld (pv 0) (pe_callTy call_list_of (by rfl) T.list (by decide +kernel) (pa_cons (pv 1) pa_nil)) rfl)))))), ?_⟩
  have npl : l ≠ p := ne_of hl hp (by intro y; cases y)
  refine ⟨_, rfl, _, rfl, p, C.frm, dx, z, rfl, hp, T.iFrom.cl, T.nNumF, hz, fun H1 h1 k1 => ?_⟩
  have hl1 := k1 _ _ hl npl
  refine ⟨_, rfl, _, .ty "list", _, _, true, rfl, .ty _, .base (.lst hl1), kit_ty (by decide +kernel), true, rfl, iteT ?_⟩
  refine ⟨_, rfl, l, _, rfl, .inl (SqL.of hl1), _, _, rfl, rfl, true, blT (by rw [List.length_map]; omega), iteT ?_⟩
  refine ⟨_, _, rfl, rfl, needB (decide_eq_true (by rw [List.length_map]; omega)), ?_⟩
  refine ⟨_, rfl, l, rfl, ⟨_, SqL.of hl1⟩, fun D nD => ?_⟩
  refine lc_list (xs := ws.map V.int) (fun i H2 => Same H1 H2 ∧ H2 D = some (.lst (List.replicate i (V.bl true)))) ⟨same_upd nD, upd_same⟩ (fun i H2 _ hh => SqL.of (hh.1 _ _ hl1)) (fun i x H2 hx hh => ?_) (fun H2 hh => ?_)
  · obtain ⟨sm, hD⟩ := hh
    rw [List.getElem?_map] at hx
    obtain ⟨y, hy, rfl⟩ := Option.map_eq_some_iff.mp hx
    have hy2 := hws y (List.mem_of_getElem? hy)
    have hi : i < ws.length := (List.getElem?_eq_some_iff.mp hy).1
    refine ⟨rfl, lc_yes ?_⟩
    refine ⟨_, rfl, y, 0, 63, rfl, _, hD, ?_, upd_free sm nD, ?_⟩
    · rw [List.length_replicate]
      exact small1000 (by omega)
    · rw [upd_same, and2 hy2, List.replicate_succ']
  · obtain ⟨sm, hD⟩ := hh
    have hl2 := sm _ _ hl1
    have h2 := sm _ _ h1
    refine ⟨D, List.replicate (ws.map V.int).length true, rfl, SqL.of (by rw [List.map_replicate]; exact hD), needB (List.all_eq_true.mpr fun b hb => (List.mem_replicate.mp hb).2), ?_⟩
    refine ⟨_, rfl, l, ws, rfl, SqL.of hl2, hnd, by omega, _, rfl, l, _, rfl, .inl (SqL.of hl2), rfl, needB (decide_eq_true (by rw [List.length_map])), ?_⟩
    refine ⟨_, rfl, l, _, rfl, .inl (SqL.of hl2), fun l' nl' => ?_⟩
    have npl' : l' ≠ p := fun e => by rw [e, h2] at nl'; cases nl'
    refine ⟨_, rfl, p, C.frm, dx, _, rfl, by rw [upd_ne npl'.symm]; exact h2, T.iFrom.cl, T.nAskers, by show 1 < 1000; decide, ?_⟩
    have new : H l' = none := by
      cases e : H l' with
      | none => rfl
      | some o =>
        have z := sm _ _ (k1 _ _ e npl')
        rw [nl'] at z
        cases z
    exact q _ l' new upd_same (by rw [upd_ne npl', upd_same]) (k1.trans (Keep1.ofS (sm.trans (same_upd nl')))).wr
theorem scFirstD : FnScope ["self", "rule"] ["self"] (defScope sFirstDeep) := ⟨rfl, rfl, rfl, by decide +kernel, rfl, by decide +kernel, by decide +kernel⟩
theorem ok_firstD (F : FnP K "deep" "First.deep" sFirstDeep f fd) (T : Txt w K mg C) (hS : ∀ D sp, SDeep C D sp → MethOf P w K mg base CX0 1 "deep" D sp) : FnOk P w K mg base CX0 2 f fd ["self"] (spDeep1 C) := by
  refine F.ok scFirstD (fun vs H Q E h => by obtain ⟨p, dx, l, rs, ps, rfl, _⟩ := h; rfl) (fun cdv A outer s H vs Q E hr h => ?_)
  obtain ⟨p, dx, l, rs, ps, rfl, hp, hl, he, hlen, q⟩ := h
  have nd := scFirstD.nd
  refine ⟨_, PSs.nox (pss_one (ps_ret (pe_op op_add pe_int (pe_callB (cr_max rfl) (by rfl) T.max (by decide +kernel) (pa_cons (pe_lc (own := [("rule", 1)]) (g := gName 1) (tt := tYes) rfl nd (pi_list (pe_fld (pv 0) rfl)) (blkOk_by (N := ["self", "rule"]) (sc := defScope sFirstDeep) (by decide +kernel))
      (fun _ _ _ _ _ => pg_name (i := 1) nd rfl (Or.inl rfl)) (fun _ _ _ _ _ => pts_nil) (fun _ _ _ _ _ => pe_methP0 (pv 1) hS hr pass0)) pa_nil))))), ?_⟩
  refine ⟨_, rfl, p, C.first, dx, _, _, rfl, hp, T.iFirst.cl, T.nRules, first_rules l, l, rfl, ⟨_, SqL.of hl⟩, fun D nD => ?_⟩
  refine lc_list (xs := rs.map V.ref) (fun i H2 => Same H H2 ∧ H2 D = some (.lst (List.replicate i (V.int 0)))) ⟨same_upd nD, upd_same⟩ (fun i H2 _ hh => SqL.of (hh.1 _ _ hl)) (fun i x H2 hx hh => ?_) (fun H2 hh => ?_)
  · obtain ⟨sm, hD⟩ := hh
    rw [List.getElem?_map] at hx
    obtain ⟨y, hy, rfl⟩ := Option.map_eq_some_iff.mp hx
    have hi : i < rs.length := (List.getElem?_eq_some_iff.mp hy).1
    obtain ⟨pt, _, hpt⟩ := he.get hy
    obtain ⟨D', dx', fs', ho, hof, hno⟩ := hpt.obj
    refine ⟨rfl, lc_yes ?_⟩
    refine ⟨_, rfl, y, D', dx', fs', spDeep0, rfl, sm _ _ ho, hno.deep, ⟨hof, rfl⟩, _, rfl, ?_⟩
    refine ⟨_, hD, ?_, upd_free sm nD, ?_⟩
    · rw [List.length_replicate]
      exact small1000 (by rw [he.len] at hi; omega)
    · rw [upd_same, List.replicate_succ']
  · obtain ⟨sm, hD⟩ := hh
    rw [List.length_map] at hD
    refine ⟨D, List.replicate rs.length 0, rfl, SqL.of (by rw [List.map_replicate]; exact hD), by rw [List.length_replicate, he.len]; omega, fun m hm hle => ?_⟩
    have e : m = 0 := (List.mem_replicate.mp hm).2
    subst e
    exact ⟨_, _, rfl, rfl, q _ sm⟩
theorem scFirstI : FnScope ["self", "rules", "rule"] ["self", "rules"] (defScope sFirstI) := ⟨rfl, rfl, rfl, by decide +kernel, rfl, by decide +kernel, by decide +kernel⟩
theorem ok_firstI {fD : Addr} {fdD : FuncData} (F : FnP K "__init__" "First.__init__" sFirstI f fd) (T : Txt w K mg C) (mD : Meth K C.first "deep" fD) (GD : FnOk P w K mg base CX0 2 fD fdD ["self"] (spDeep1 C)) (bD : Binds K fdD ["self"] [])
    (GN : Glob P w K mg base 1 "need" ["good"] spNeed) : FnOk P w K mg base CX0 3 f fd ["self", "rules"] (spFirstI C) := by
  refine F.ok scFirstI (fun vs H Q E h => by obtain ⟨p, dx, l, rs, ps, rfl, _⟩ := h; rfl) (fun cdv A outer s H vs Q E hr h => ?_)
  obtain ⟨p, dx, l, rs, ps, rfl, hp, hl, he, hlen, q⟩ := h
  have nd := scFirstI.nd
  refine ⟨_, PSs.nox (pss_cons (ps_expr (pe_callG GN hr (by decide) rfl (pa_cons (pe_and (pe_callB call_isi (by rfl) T.isi (by decide +kernel) (pa_cons (pv 1) (pa_cons (pe_bltn (v := .ty "list") (by rfl) T.list (by decide +kernel) rfl) pa_nil)))
      (pe_one (pe_chain op_le op_le pe_int (pe_callB call_len_seq (by rfl) T.len PySem.boot_len (pa_cons (pv 1) pa_nil)) (pe_globI rfl T.mRules)))) pa_nil)))
    (pss_cons (ps_expr (pe_callG GN hr (by decide) rfl (pa_cons (pe_callB (cr_all rfl) (by rfl) T.all (by decide +kernel) (pa_cons (pe_lc (own := [("rule", 2)]) (g := gName 2) (tt := tYes) rfl nd (pi_list (pv 1)) (blkOk_by (N := ["self", "rules", "rule"]) (sc := defScope sFirstI) (by decide +kernel))
      (fun _ _ _ _ _ => pg_name (i := 2) nd rfl (Or.inl rfl)) (fun _ _ _ _ _ => pts_nil) (fun _ _ _ _ _ => pe_callB (id := "isinstance") (r := rIsi K) call_isi (by rfl) T.isi (by decide +kernel) (pa_cons (pv 2) (pa_cons (pe_glob (v := .ref C.rule) rfl T.gRule rfl) pa_nil)))) pa_nil)) pa_nil)))
    (pss_cons (ps_fld (pv 0) (pe_callTy call_list_of (by rfl) T.list (by decide +kernel) (pa_cons (pv 1) pa_nil)) rfl)
    (pss_one (ps_expr (pe_callG GN hr (by decide) rfl (pa_cons (pe_cmpR op_le (pe_meth0 (pv 0) T.iFirst.cl mD GD hr bD .nil pass0) (pe_globI rfl T.mDeep) (nomark _)) pa_nil))))))), ?_⟩
  have npl : l ≠ p := ne_of hl hp (by intro y; cases y)
  have hrl := he.len
  refine ⟨_, rfl, _, .ty "list", _, _, true, rfl, .ty _, .base (.lst hl), kit_ty (by decide +kernel), true, rfl, iteT ?_⟩
  refine ⟨_, rfl, l, _, rfl, .inl (SqL.of hl), _, _, rfl, rfl, true, blT (by rw [List.length_map]; omega), iteT ?_⟩
  refine ⟨_, _, rfl, rfl, needB (decide_eq_true (by rw [List.length_map]; omega)), ?_⟩
  refine ⟨_, rfl, l, rfl, ⟨_, SqL.of hl⟩, fun D nD => ?_⟩
  refine lc_list (xs := rs.map V.ref) (fun i H2 => Same H H2 ∧ H2 D = some (.lst (List.replicate i (V.bl true)))) ⟨same_upd nD, upd_same⟩ (fun i H2 _ hh => SqL.of (hh.1 _ _ hl)) (fun i x H2 hx hh => ?_) (fun H2 hh => ?_)
  · obtain ⟨sm, hD⟩ := hh
    rw [List.getElem?_map] at hx
    obtain ⟨y, hy, rfl⟩ := Option.map_eq_some_iff.mp hx
    have hi : i < rs.length := (List.getElem?_eq_some_iff.mp hy).1
    obtain ⟨pt, _, _, hpt⟩ := he.get hy
    obtain ⟨D', dx', fs', ho, hof, hno⟩ := hpt.obj
    refine ⟨rfl, lc_yes ?_⟩
    refine ⟨_, rfl, _, .ref C.rule, _, _, true, rfl, .own _, T.ins (T.insP hof) (sm _ _ ho), (T.insP hof).kit, ?_⟩
    refine ⟨_, hD, ?_, upd_free sm nD, ?_⟩
    · rw [List.length_replicate]
      exact small1000 (by omega)
    · rw [upd_same, List.replicate_succ']
  · obtain ⟨sm, hD⟩ := hh
    have hl2 := sm _ _ hl
    have h2 := sm _ _ hp
    refine ⟨D, List.replicate (rs.map V.ref).length true, rfl, SqL.of (by rw [List.map_replicate]; exact hD), needB (List.all_eq_true.mpr fun b hb => (List.mem_replicate.mp hb).2), ?_⟩
    refine ⟨_, rfl, l, _, rfl, .inl (SqL.of hl2), fun l' nl' => ?_⟩
    have npl' : l' ≠ p := fun e => by rw [e, h2] at nl'; cases nl'
    refine ⟨_, rfl, p, C.first, dx, _, rfl, by rw [upd_ne npl'.symm]; exact h2, T.iFirst.cl, T.nRules, by show 0 < 1000; decide, ?_⟩
    have e1 : (upd (upd H2 l' (.lst (rs.map V.ref))) p (.ins C.first dx (fFirst l'))) p = some (.ins C.first dx (fFirst l')) := upd_same
    have e2 : (upd (upd H2 l' (.lst (rs.map V.ref))) p (.ins C.first dx (fFirst l'))) l' = some (.lst (rs.map V.ref)) := by rw [upd_ne npl', upd_same]
    have kk : Keep1 H (upd (upd H2 l' (.lst (rs.map V.ref))) p (.ins C.first dx (fFirst l'))) p := (Keep1.ofS (sm.trans (same_upd nl'))).wr
    have he2 : Each (PRule C (upd (upd H2 l' (.lst (rs.map V.ref))) p (.ins C.first dx (fFirst l')))) rs ps := he.imp fun a pt hpt => hpt.2.keep1 hpt.1 hp kk
    refine ⟨_, rfl, p, dx, _, rfl, e1, rfl, p, dx, l', rs, ps, rfl, e1, e2, he2, hlen, fun H3 s3 => ?_⟩
    refine ⟨_, _, rfl, rfl, ?_⟩
    refine ⟨rfl, ?_⟩
    exact q H3 l' (s3 _ _ e1) (s3 _ _ e2) (kk.trans (Keep1.ofS s3))
end
end K55
set_option maxHeartbeats 2100000
/-! k55: what rules tell: to; turned -/
namespace K55
open PySem PySem.Spec PyProof.Rows L2 LamX NdefX
def kStays : PT → Prop := fun p => p = .stays
def kAlw : PT → Prop := fun p => ∃ z, p = .always z
def kBusy : PT → Prop := fun p => ∃ z, p = .busy z
def kHours : PT → Prop := fun p => ∃ b e z, p = .hours b e z
def kFrom : PT → Prop := fun p => ∃ ws z, p = .fromW ws z
/-- the promise of a plain class's to -/
def spToK (C : CA) (k : PT → Prop) : Sp := fun vs H Q _ => ∃ (r : Addr) (p : PT) (a : Int) (b : Bool) (t : Int), vs = [.ref r, .int a, .bl b, .int t] ∧ k p ∧ PRule C H r p ∧ Q (optV (p.to a b t)) H
def spToFirst (C : CA) : Sp := fun vs H Q _ => ∃ (r : Addr) (ps : List PT) (a : Int) (b : Bool) (t : Int), vs = [.ref r, .int a, .bl b, .int t] ∧ RuleAt C H r (.first ps) ∧ Q (optV ((Told.first ps).to a b t)) H
def SToP (C : CA) : Addr → Sp → Prop := fun D sp => (D = C.stays ∧ sp = spToK C kStays) ∨ (D = C.alw ∧ sp = spToK C kAlw) ∨ (D = C.busy ∧ sp = spToK C kBusy) ∨ (D = C.hours ∧ sp = spToK C kHours) ∨ (D = C.frm ∧ sp = spToK C kFrom)
def STo (C : CA) : Addr → Sp → Prop := fun D sp => SToP C D sp ∨ (D = C.first ∧ sp = spToFirst C)
theorem toP_any {C : CA} {H : Hp} {r : Addr} {p : PT} (h : PRule C H r p) : ∃ D dx fs sp, H r = some (.ins D dx fs) ∧ NoF fs ∧ SToP C D sp ∧ ∀ (Q : VK) (E : XK) (a : Int) (b : Bool) (t : Int), Q (optV (p.to a b t)) H → sp [.ref r, .int a, .bl b, .int t] H Q E := by
  have fin : ∀ {k : PT → Prop}, k p → ∀ (Q : VK) (E : XK) (a : Int) (b : Bool) (t : Int), Q (optV (p.to a b t)) H → spToK C k [.ref r, .int a, .bl b, .int t] H Q E := fun hk Q E a b t q => ⟨r, p, a, b, t, rfl, hk, h, q⟩
  cases p with
  | stays => obtain ⟨dx, e⟩ := id h; exact ⟨_, dx, _, _, e, noF_nil, .inl ⟨rfl, rfl⟩, fin rfl⟩
  | always z => obtain ⟨dx, e⟩ := id h; exact ⟨_, dx, _, _, e, noF_alw z, .inr (.inl ⟨rfl, rfl⟩), fin ⟨z, rfl⟩⟩
  | busy z => obtain ⟨dx, e⟩ := id h; exact ⟨_, dx, _, _, e, noF_alw z, .inr (.inr (.inl ⟨rfl, rfl⟩)), fin ⟨z, rfl⟩⟩
  | hours b d z => obtain ⟨dx, e⟩ := id h; exact ⟨_, dx, _, _, e, noF_hours b d z, .inr (.inr (.inr (.inl ⟨rfl, rfl⟩))), fin ⟨b, d, z, rfl⟩⟩
  | fromW ws z => obtain ⟨dx, l, e, g⟩ := id h; exact ⟨_, dx, _, _, e, noF_from l z, .inr (.inr (.inr (.inr ⟨rfl, rfl⟩))), fin ⟨ws, z, rfl⟩⟩
theorem to_any {C : CA} {H : Hp} {r : Addr} {u : Told} (h : RuleAt C H r u) : ∃ D dx fs sp, H r = some (.ins D dx fs) ∧ NoF fs ∧ STo C D sp ∧ ∀ (Q : VK) (E : XK) (a : Int) (b : Bool) (t : Int), Q (optV (u.to a b t)) H → sp [.ref r, .int a, .bl b, .int t] H Q E := by
  cases u with
  | plain p =>
    obtain ⟨D, dx, fs, sp, e, n, s, k⟩ := toP_any (show PRule C H r p from h)
    exact ⟨D, dx, fs, sp, e, n, .inl s, k⟩
  | first ps =>
    obtain ⟨dx, l, rs, e, _⟩ := id h
    exact ⟨_, dx, _, _, e, noF_first l, .inr ⟨rfl, rfl⟩, fun Q E a b t q => ⟨r, ps, a, b, t, rfl, h, q⟩⟩
theorem inV_ints (w : Int) (ws : List Int) : inV (.int w) (ws.map V.int) = decide (w ∈ ws) := by
  induction ws with
  | nil => rfl
  | cons a r ih =>
    have h : inV (.int w) ((a :: r).map V.int) = ((a == w) || inV (.int w) (r.map V.int)) := rfl
    rw [h, ih]
    by_cases e : a = w
    · rw [e]
      simp
    · have e1 : (a == w) = false := beq_eq_false_iff_ne.mpr e
      have e2 : ¬ w = a := fun z => e z.symm
      rw [e1, Bool.false_or]
      simp [e2]
theorem flat_ints (ws : List Int) : (ws.map V.int).all flatV = true := by
  rw [List.all_eq_true]
  intro v hv
  obtain ⟨y, _, rfl⟩ := List.mem_map.mp hv
  rfl
theorem findSome_snoc {α β : Type} {f : α → Option β} {l : List α} {i : Nat} {x : α} (h0 : (l.take i).findSome? f = none) (hx : l[i]? = some x) :
    (f x = none → (l.take (i + 1)).findSome? f = none) ∧ (∀ y, f x = some y → l.findSome? f = some y) := by
  have e1 : l.take (i + 1) = l.take i ++ [x] := by rw [List.take_add_one, hx]; rfl
  refine ⟨fun h => ?_, fun y h => ?_⟩
  · rw [e1, List.findSome?_append, h0]
    simp [h]
  · have e2 : l = l.take (i + 1) ++ l.drop (i + 1) := (List.take_append_drop _ _).symm
    rw [e2, List.findSome?_append, e1, List.findSome?_append, h0]
    simp [h]
section
variable {P : Program} {w : World} {K : PySem.W.Frag} {mg : Str → Option Value} {base : Heap} {f : Addr} {fd : FuncData} {C : CA}
abbrev psTo : List Str := ["self", "asker", "busy", "time"]
theorem scRuleTo : FnScope psTo psTo (defScope sRuleTo) := ⟨rfl, rfl, rfl, by decide +kernel, rfl, by decide +kernel, by decide +kernel⟩
theorem ok_staysTo (F : FnP K "to" "Rule.to" sRuleTo f fd) : FnOk P w K mg base CX0 1 f fd psTo (spToK C kStays) := by
  refine F.ok scRuleTo (fun vs H Q E h => by obtain ⟨r, p, a, b, t, rfl, _⟩ := h; rfl) (fun cdv A outer s H vs Q E hr h => ?_)
  obtain ⟨r, p, a, b, t, rfl, rfl, _, q⟩ := h
  exact ⟨_, PSs.nox (pss_one (ps_ret pe_non)), q⟩
theorem scAlwTo : FnScope psTo psTo (defScope sAlwTo) := ⟨rfl, rfl, rfl, by decide +kernel, rfl, by decide +kernel, by decide +kernel⟩
theorem ok_alwTo (F : FnP K "to" "Always.to" sAlwTo f fd) (T : Txt w K mg C) : FnOk P w K mg base CX0 1 f fd psTo (spToK C kAlw) := by
  refine F.ok scAlwTo (fun vs H Q E h => by obtain ⟨r, p, a, b, t, rfl, _⟩ := h; rfl) (fun cdv A outer s H vs Q E hr h => ?_)
  obtain ⟨r, p, a, b, t, rfl, ⟨z, rfl⟩, ⟨dx, hp⟩, q⟩ := h
  exact ⟨_, PSs.nox (pss_one (ps_ret (pe_fld (pv 0) rfl))), _, rfl, r, _, dx, _, _, rfl, hp, T.iAlw.cl, T.nNumA, alw_number z, q⟩
theorem scBusyTo : FnScope psTo psTo (defScope sBusyTo) := ⟨rfl, rfl, rfl, by decide +kernel, rfl, by decide +kernel, by decide +kernel⟩
theorem ok_busyTo (F : FnP K "to" "Busy.to" sBusyTo f fd) (T : Txt w K mg C) : FnOk P w K mg base CX0 1 f fd psTo (spToK C kBusy) := by
  refine F.ok scBusyTo (fun vs H Q E h => by obtain ⟨r, p, a, b, t, rfl, _⟩ := h; rfl) (fun cdv A outer s H vs Q E hr h => ?_)
  obtain ⟨r, p, a, b, t, rfl, ⟨z, rfl⟩, ⟨dx, hp⟩, q⟩ := h
  refine ⟨_, PSs.nox (pss_one (ps_ret (pe_ifExp (pt_val (pv 2)) (pe_fld (pv 0) rfl) pe_non))), _, rfl, b, rfl, ?_⟩
  cases b with
  | true => exact iteT ⟨_, rfl, r, _, dx, _, _, rfl, hp, T.iBusy.cl, T.nNumB, alw_number z, q⟩
  | false => exact iteF q
theorem scHoursTo : FnScope ["self", "asker", "busy", "time", "second", "good"] psTo (defScope sHoursTo) := ⟨rfl, rfl, rfl, by decide +kernel, rfl, by decide +kernel, by decide +kernel⟩
theorem ok_hoursTo (F : FnP K "to" "Hours.to" sHoursTo f fd) (T : Txt w K mg C) : FnOk P w K mg base CX0 1 f fd psTo (spToK C kHours) := by
  refine F.ok scHoursTo (fun vs H Q E h => by obtain ⟨r, p, a, b, t, rfl, _⟩ := h; rfl) (fun cdv A outer s H vs Q E hr h => ?_)
  obtain ⟨r, p, a, b, t, rfl, ⟨lo, hi, z, rfl⟩, ⟨dx, hp⟩, q⟩ := h
  have nd := scHoursTo.nd
  refine ⟨_, PSs.nox (pss_cons (ps_set (i := 4) nd rfl (Or.inl rfl) (pe_op op_mod (pv 3) (pe_globI rfl T.mDay)))
    (pss_cons (ps_set (i := 5) nd rfl (Or.inl rfl) (pe_chain op_le op_lt (pe_fld (pv 0) rfl) (pv 4) (pe_fld (pv 0) rfl)))
    (pss_cons (ps_if (pt_cmpR op_le (pe_fld (pv 0) rfl) (pe_fld (pv 0) rfl) (nomark _)) (pss_one (ps_set (i := 5) nd rfl (Or.inl rfl) (pe_or (pe_cmpR op_ge (pv 4) (pe_fld (pv 0) rfl) (nomark _)) (pe_one (pe_cmpR op_lt (pv 4) (pe_fld (pv 0) rfl) (nomark _)))))) pss_nil)
    (pss_one (ps_ret (pe_ifExp (pt_val (pv 5)) (pe_fld (pv 0) rfl) pe_non)))))), ?_⟩
  have hb := hours_begin lo hi z
  have he := hours_end lo hi z
  refine ⟨_, rfl, _, _, rfl, rfl, by show (0 : Int) < 86400; decide, ?_⟩
  have fin : ∀ g : Bool, g = inHours lo hi (t % 86400) → (if g = true then (tFld K (tVar 0) "number" [some (.ref r), some (.int a), some (.bl b), some (.int t), some (.int (t % 86400)), some (.bl g)] H Q) else Q .non H) := fun g eg => by
    have q' : Q (optV (if inHours lo hi (t % 86400) = true then some z else none)) H := q
    rw [← eg] at q'
    cases g with
    | true => exact iteT ⟨_, rfl, r, _, dx, _, _, rfl, hp, T.iHours.cl, T.nNumH, hours_number lo hi z, q'⟩
    | false => exact iteF q'
  have rest : ∀ g0 : Bool, g0 = (decide (lo ≤ t % 86400) && decide (t % 86400 < hi)) → tSeq (tIfS (tTest (tOp (rI0 fun i j => .bl (decide (i ≤ j))) (tFld K (tVar 0) "end") (tFld K (tVar 0) "begin"))) (tAsg (tOrV (tOp (rI0 fun i j => .bl (decide (j ≤ i))) (tVar 4) (tFld K (tVar 0) "begin")) (tOp (rI0 fun i j => .bl (decide (i < j))) (tVar 4) (tFld K (tVar 0) "end"))) (gName 5)) tNext)
      (tRet (tIf (tB (tVar 5)) (tFld K (tVar 0) "number") (tC .non))) { nx := fun _ H' => Q .non H', rt := Q } [some (.ref r), some (.int a), some (.bl b), some (.int t), some (.int (t % 86400)), some (.bl g0)] H := fun g0 e0 => by
    refine ⟨_, rfl, r, _, dx, _, _, rfl, hp, T.iHours.cl, T.nEnd, he, _, rfl, r, _, dx, _, _, rfl, hp, T.iHours.cl, T.nBegin, hb, hi, lo, rfl, rfl, decide (hi ≤ lo), rfl, ?_⟩
    by_cases c : hi ≤ lo
    · rw [decide_eq_true c]
      refine iteT ?_
      refine ⟨_, rfl, _, rfl, r, _, dx, _, _, rfl, hp, T.iHours.cl, T.nBegin, hb, _, _, rfl, rfl, decide (lo ≤ t % 86400), rfl, ?_⟩
      have tail : ∀ g : Bool, g = inHours lo hi (t % 86400) → tRet (tIf (tB (tVar 5)) (tFld K (tVar 0) "number") (tC .non)) { nx := fun _ H' => Q .non H', rt := Q } [some (.ref r), some (.int a), some (.bl b), some (.int t), some (.int (t % 86400)), some (.bl g)] H := fun g eg => ⟨_, rfl, g, rfl, fin g eg⟩
      by_cases d : lo ≤ t % 86400
      · rw [decide_eq_true d]
        refine iteT (tail true ?_)
        unfold inHours
        rw [if_pos c, decide_eq_true d]
        rfl
      · rw [decide_eq_false d]
        refine iteF ?_
        refine ⟨_, rfl, _, rfl, r, _, dx, _, _, rfl, hp, T.iHours.cl, T.nEnd, he, _, _, rfl, rfl, tail _ ?_⟩
        unfold inHours
        rw [if_pos c, decide_eq_false d]
        rfl
    · rw [decide_eq_false c]
      refine iteF ⟨_, rfl, g0, rfl, fin g0 ?_⟩
      rw [e0]
      unfold inHours
      rw [if_neg c]
  refine ⟨_, rfl, r, _, dx, _, _, rfl, hp, T.iHours.cl, T.nBegin, hb, _, rfl, lo, t % 86400, rfl, rfl, decide (lo ≤ t % 86400), rfl, ?_⟩
  by_cases d : lo ≤ t % 86400
  · rw [decide_eq_true d]
    refine iteT ⟨_, rfl, r, _, dx, _, _, rfl, hp, T.iHours.cl, T.nEnd, he, _, _, rfl, rfl, ?_⟩
    exact rest _ (by rw [decide_eq_true d]; rfl)
  · rw [decide_eq_false d]
    exact iteF (rest _ (by rw [decide_eq_false d]; rfl))
theorem scFromTo : FnScope psTo psTo (defScope sFromTo) := ⟨rfl, rfl, rfl, by decide +kernel, rfl, by decide +kernel, by decide +kernel⟩
theorem ok_fromTo (F : FnP K "to" "From.to" sFromTo f fd) (T : Txt w K mg C) : FnOk P w K mg base CX0 1 f fd psTo (spToK C kFrom) := by
  refine F.ok scFromTo (fun vs H Q E h => by obtain ⟨r, p, a, b, t, rfl, _⟩ := h; rfl) (fun cdv A outer s H vs Q E hr h => ?_)
  obtain ⟨r, p, a, b, t, rfl, ⟨ws, z, rfl⟩, ⟨dx, l, hp, hl⟩, q⟩ := h
  refine ⟨_, PSs.nox (pss_one (ps_ret (pe_ifExp (pt_cmpR op_in_seq (pv 1) (pe_fld (pv 0) rfl) (by rfl)) (pe_fld (pv 0) rfl) pe_non))), ?_⟩
  refine ⟨_, rfl, _, rfl, r, _, dx, _, _, rfl, hp, T.iFrom.cl, T.nAskers, from_askers l z, l, _, rfl, .inl (SqL.of hl), rfl, flat_ints ws, decide (a ∈ ws), congrArg V.bl (inV_ints a ws), ?_⟩
  have q' : Q (optV (if a ∈ ws then some z else none)) H := q
  by_cases c : a ∈ ws
  · rw [if_pos c] at q'
    rw [decide_eq_true c]
    exact iteT ⟨_, rfl, r, _, dx, _, _, rfl, hp, T.iFrom.cl, T.nNumF, from_number l z, q'⟩
  · rw [if_neg c] at q'
    rw [decide_eq_false c]
    exact iteF q'
theorem scFirstTo : FnScope ["self", "asker", "busy", "time", "rule", "number"] psTo (defScope sFirstTo) := ⟨rfl, rfl, rfl, by decide +kernel, rfl, by decide +kernel, by decide +kernel⟩
theorem ok_firstTo (F : FnP K "to" "First.to" sFirstTo f fd) (T : Txt w K mg C) (hS : ∀ D sp, SToP C D sp → MethOf P w K mg base CX0 1 "to" D sp) : FnOk P w K mg base CX0 2 f fd psTo (spToFirst C) := by
  refine F.ok scFirstTo (fun vs H Q E h => by obtain ⟨r, ps, a, b, t, rfl, _⟩ := h; rfl) (fun cdv A outer s H vs Q E hr h => ?_)
  obtain ⟨r, ps, a, b, t, rfl, ⟨dx, l, rs, hp, hl, he⟩, q⟩ := h
  have nd := scFirstTo.nd
  refine ⟨_, PSs.nox (pss_cons (ps_for PassesOwn.never rfl (pi_list (pe_fld (pv 0) rfl)) (pg_name (i := 4) nd rfl (Or.inl rfl))
      (pss_cons (ps_set (i := 5) nd rfl (Or.inl rfl) (pe_methP (pv 4) hS hr pass0 (pa_cons (pv 1) (pa_cons (pv 2) (pa_cons (pv 3) pa_nil)))))
      (pss_one (ps_if (pt_cmpR op_notN (pv 5) pe_non (nomark _)) (pss_one (ps_ret (pv 5))) pss_nil))))
    (pss_one (ps_ret pe_non))), ?_⟩
  refine ⟨_, rfl, r, _, dx, _, _, rfl, hp, T.iFirst.cl, T.nRules, first_rules l, l, rfl, ⟨_, SqL.of hl⟩, ?_⟩
  have q' : Q (optV (ps.findSome? fun p => p.to a b t)) H := q
  refine for_list (xs := rs.map V.ref) (fun i σ H' => H' = H ∧ (ps.take i).findSome? (fun p => p.to a b t) = none ∧ ∃ u v, σ = [some (.ref r), some (.int a), some (.bl b), some (.int t), u, v]) ⟨rfl, rfl, _, _, rfl⟩ (fun i σ H' _ h => by obtain ⟨rfl, _⟩ := h; exact SqL.of hl) (fun i x σ H' hx h => ?_) (fun σ H' h => ?_)
  · obtain ⟨rfl, h0, u, v, rfl⟩ := h
    rw [List.getElem?_map] at hx
    obtain ⟨y, hy, rfl⟩ := Option.map_eq_some_iff.mp hx
    obtain ⟨pt, hpt, rp⟩ := he.get hy
    obtain ⟨D, dx', fs', sp, ho, hno, hs, run⟩ := toP_any rp
    obtain ⟨g1, g2⟩ := findSome_snoc h0 hpt
    refine ⟨_, rfl, y, D, dx', fs', sp, rfl, ho, hno.to, hs, _, rfl, _, rfl, _, rfl, run _ _ a b t ?_⟩
    cases e : pt.to a b t with
    | none => exact ⟨_, rfl, rfl, _, rfl, iteF ⟨rfl, g1 e, _, _, rfl⟩⟩
    | some z =>
      rw [g2 z e] at q'
      exact ⟨_, rfl, rfl, _, rfl, iteT ⟨_, rfl, q'⟩⟩
  · obtain ⟨rfl, h0, u, v, rfl⟩ := h
    rw [List.length_map, he.len, List.take_length] at h0
    rw [h0] at q'
    exact q'
/-! ### turned -/
def spTurned (C : CA) : List (Option V) → Sp := fun ws vs H Q _ => ∃ (r : Addr) (u : Told) (a : Int) (b : Bool) (t : Int), ws = [some (.ref r)] ∧ vs = [.int a, .bl b, .int t] ∧ RuleAt C H r u ∧ Q (optV (u.to a b t)) H
theorem scTurned : NScope ["asker", "busy", "time", "rule"] ["asker", "busy", "time"] ["rule"] (C8.fnScope sTurned) := nscope_by (by decide +kernel)
theorem ok_turned {cell c' : Addr} (hS : ∀ D sp, STo C D sp → MethOf P w K mg base CX0 2 "to" D sp) : NOk P w K mg base CX0 3 f (turnedF cell c') ["asker", "busy", "time"] ["rule"] (spTurned C) := by
  refine nok_of scTurned (fun doc pm ctv us hl => match us, hl with | [_, _, _], _ => rfl) (fun ws vs H Q E h => by obtain ⟨r, u, a, b, t, _, rfl, _⟩ := h; rfl) (fun A outer s H vs ws Q E hr _ _ _ h => ?_)
  obtain ⟨r, u, a, b, t, rfl, rfl, hru, q⟩ := h
  obtain ⟨D, dx, fs, sp, ho, hno, hs, run⟩ := to_any hru
  refine ⟨_, PSs.nox (pss_one (ps_ret (pe_methP (pv 3) hS hr pass0 (pa_cons (pv 0) (pa_cons (pv 1) (pa_cons (pv 2) pa_nil)))))), ?_⟩
  exact ⟨_, rfl, r, D, dx, fs, sp, rfl, ho, hno.to, hs, _, rfl, _, rfl, _, rfl, run _ _ a b t q⟩
end
/-! ### a call of a made turned -/
def tCallT (C : CA) (i : Nat) (t : TA) : TE := fun σ H Q => ∃ (f r : Addr) (u : Told), σ[i]? = some (some (.ref f)) ∧ Turned H f r ∧ t σ H fun vs H1 => ∃ (a : Int) (b : Bool) (tm : Int), vs = [.int a, .bl b, .int tm] ∧ Turned H1 f r ∧ RuleAt C H1 r u ∧ Q (optV (u.to a b tm)) H1
section
variable {X : Cx} {C : CA} {i k : Nat} {x : Str} {p pos : Pos} {e : Expr} {es : List Expr} {t : TA}
theorem pe_callT (hS : ∀ D sp, STo C D sp → MethOf X.prog X.w X.K X.mg X.base CX0 2 "to" D sp) (hr : Room k X.A) (hk : 3 ≤ k) (hN : X.N[i]? = some x) (hv : Vis X.env.scope x) (ha : PA X (e :: es) t)
    (hd : (x == ("__debug__" : Str)) = false := by decide) (hcd : (x == ("__classdict__" : Str)) = false := by decide)
    (he : starEach (e :: es) X.env = (false, eval e X.env) :: starEach es X.env := by rfl) (hpl : (backTo pos (starEach es X.env)).any (·.1) = false := by rfl) :
    PE X (.Call (.Name x p) (e :: es) [] pos) (tCallT C i t) := by
  refine ⟨fun pins s σ H Q I h => ?_⟩
  obtain ⟨f, r, u, hs, hT, ht⟩ := h
  refine wpAny_Call_Name_kw (thn ((pe_var (pos := p) hN hv hd hcd).run pins s σ H (fun v H1 => v = .ref f ∧ H1 = H) I ⟨.ref f, hs, rfl, rfl⟩) fun v s1 ⟨v', H1, I1, r1, q1⟩ => ?_)
  obtain ⟨ev, eH⟩ := q1
  subst ev
  rw [eH] at I1
  have ev2 : v = Value.ref f := r1
  subst ev2
  obtain ⟨cell0, c0, hf0, _, _⟩ := hT.ex
  refine PySem.W.callWith_F (first := []) (fnAt_of I1 hf0) (thn (ha.run pos pins s1 σ H _ I1 ht) fun us s2 ⟨vs, H2, I2, rv, a, b, tm, evs, hT2, hru, q⟩ => ?_) he hpl
  subst evs
  obtain ⟨cell, c', hf, hc', hcell⟩ := hT2.ex
  obtain ⟨o, uu, ho, hd2, ru⟩ := hcell.ex
  refine ⟨fnAt_of I2 hf, ?_⟩
  show wpAny _ _ (call (.ref f) us) _ _ _
  have e0 := I2.env0
  have ee := era_ext (H := H2) ho
  have nf : f ≠ cell := fun z => by rw [z, ho] at hf; cases hf
  have nc : c' ≠ cell := fun z => by rw [z, ho] at hc'; cases hc'
  obtain ⟨hob, _⟩ := e0.hok cell _ ho
  have hone : ∀ {y : Str} {c : Addr}, ([(("rule" : Str), cell)] : List (Str × Addr)).lookup y = some c → y = "rule" ∧ c = cell := fun {y c} hy => by
    rw [List.lookup_cons] at hy
    cases z : (y == ("rule" : Str)) with
    | true =>
      rw [z] at hy
      exact ⟨eq_of_beq z, (Option.some.inj hy).symm⟩
    | false =>
      rw [z] at hy
      cases hy
  have CA : CellsAt (turnedF cell c').cl ["rule"] [some (.ref r)] s2.heap (era H2 cell) := by
    refine ⟨rfl, fun y c hy => ?_, fun y y' c h1 h2 => by rw [(hone h1).1, (hone h2).1], fun j y hj => ?_⟩
    · rw [(hone hy).2]
      exact ⟨era_same, some uu, o, hob, hd2⟩
    · match j, hj with
      | 0, hj =>
        have ey : ("rule" : Str) = y := Option.some.inj hj
        refine ⟨cell, by rw [← ey]; rfl, fun v hv => ?_⟩
        have ev : V.ref r = v := Option.some.inj (Option.some.inj hv)
        rw [← ev]
        exact ⟨uu, ru, o, hob, hd2⟩
      | j + 1, hj => exact absurd hj (by simp)
  refine wpAny_call (codeAny_mono ((ok_turned (f := f) (cell := cell) (c' := c') hS).run X.A X.stack s2 (era H2 cell) us _ [some (.ref r)] (fun v H3 => v = optV (u.to a b tm) ∧ H3 = era H2 cell) E0 (hr.mono hk) (env0_era e0 ho) (by rw [era_ne nf]; exact hf) (show era H2 cell c' = some (CodeO c' qTurned) by rw [era_ne nc]; exact hc') CA rv
    ⟨r, u, a, b, tm, rfl, rfl, hru.ext ee, rfl, rfl⟩) fun fl s3 hq => ?_)
  cases fl with
  | error e => exact (show False from hq).elim
  | ok fl =>
    cases fl with
    | ret v =>
      obtain ⟨v2, H3, z1, z2, un, hk3, rv2, H4, ⟨ev3, eH4⟩, eH3⟩ := ce_era e0 ho hq
      rw [eH4, upd_era ho] at eH3
      subst eH3 ev3
      exact I2.after ⟨_, _, z1, z2, un, hk3, rv2, q⟩
    | next => exact False.elim hq
    | brk => exact False.elim hq
    | cont => exact False.elim hq
end
end K55
set_option maxHeartbeats 4100000
/-! k55: rule_by, first_by, rule_of -/
namespace K55
open PySem PySem.Spec PyProof.Rows L2 LamX NdefX
def spRuleBy1 (C : CA) : Sp := fun vs H Q _ => ∃ (a : Addr) (d : Int) (p : PT), vs = [.ref a, .int d] ∧ PTold H a p ∧ p.Ok ∧ ∀ (H' : Hp) (r : Addr), Same H H' → PRule C H' r p → (∀ b o, H b = some o → PRule C (era H' b) r p) → Q (.ref r) H'
def spFirstBy (C : CA) : Sp := fun vs H Q _ => ∃ (l : Addr) (as : List Addr) (ps : List PT), vs = [.ref l, .int 0] ∧ H l = some (.lst (as.map V.ref)) ∧ Each (PTold H) as ps ∧ (Told.first ps).Ok ∧ ∀ (H' : Hp) (r : Addr), Same H H' → RuleAt C H' r (.first ps) → Q (.ref r) H'
def spRuleBy0 (C : CA) : Sp := fun vs H Q _ => ∃ (a : Addr) (u : Told), vs = [.ref a, .int 0] ∧ ToldAt H a u ∧ u.Ok ∧ ∀ (H' : Hp) (r : Addr), Same H H' → RuleAt C H' r u → Q (.ref r) H'
def spRuleOf (C : CA) : Sp := fun vs H Q _ => ∃ (a : Addr) (u : Told), vs = [.ref a] ∧ ToldAt H a u ∧ u.Ok ∧ ∀ (H' : Hp) (r : Addr), Same H H' → RuleAt C H' r u → Q (.ref r) H'
/-- a new rule does not lean on what was there -/
theorem new_rule {C : CA} {H H' : Hp} {r D dx : Addr} {fs : List (Str × V)} (n : H r = none) (h : H' r = some (.ins D dx fs)) {b : Addr} {o : HO} (hb : H b = some o) : era H' b r = some (.ins D dx fs) := by
  have e : r ≠ b := fun z => by rw [z, hb] at n; cases n
  rw [era_ne e]
  exact h
theorem new_list {H H' : Hp} {l : Addr} {xs : List V} (n : H l = none) (h : H' l = some (.lst xs)) {b : Addr} {o : HO} (hb : H b = some o) : era H' b l = some (.lst xs) := by
  have e : l ≠ b := fun z => by rw [z, hb] at n; cases n
  rw [era_ne e]
  exact h
theorem era_of {H : Hp} {c : Addr} : Ext (era H c) H := fun b o h _ _ => by
  by_cases e : b = c
  · rw [e, era_same] at h
    cases h
  · rw [era_ne e] at h
    exact h
theorem era_mono {H H' : Hp} {c : Addr} (s : Same H H') : Ext (era H c) (era H' c) := fun b o h _ _ => by
  by_cases e : b = c
  · rw [e, era_same] at h
    cases h
  · rw [era_ne e] at h ⊢
    exact s b o h
theorem era_upd2 {H : Hp} {c : Addr} {o : HO} : era (upd H c o) c = era H c := by
  funext b
  by_cases e : b = c
  · rw [e, era_same, era_same]
  · rw [era_ne e, era_ne e, upd_ne e]
theorem strT {a : Str} {A B : Prop} (h : A) : if decide (V.str a = V.str a) = true then A else B := by
  rw [decide_eq_true rfl, if_pos rfl]
  exact h
theorem strF {a b : Str} {A B : Prop} (n : ¬ a = b) (h : B) : if decide (V.str a = V.str b) = true then A else B := by
  rw [decide_eq_false (fun z => n (V.str.inj z)), if_neg Bool.false_ne_true]
  exact h
theorem same_made {H H' : Hp} {x dx D : Addr} {p : Addr} (nx : H x = none) (nd : H dx = none) (k : Keep1 (upd (upd H dx (.own x)) x (.ins D dx [])) H' x) : Same H H' := Keep1.made nx nd k
section
variable {P : Program} {w : World} {K : PySem.W.Frag} {mg : Str → Option Value} {base : Heap} {f : Addr} {fd : FuncData} {C : CA}
theorem scRuleBy : FnScope ["told", "deep", "word"] ["told", "deep"] (defScope sRuleBy) := ⟨rfl, rfl, rfl, by decide +kernel, rfl, by decide +kernel, by decide +kernel⟩
/-- what rule_by leans on -/
structure Makers (P : Program) (w : World) (K : PySem.W.Frag) (mg : Str → Option Value) (base : Heap) (C : CA) : Prop where
  need : Glob P w K mg base 1 "need" ["good"] spNeed
  alw : MkOf P w K mg base 2 C.alw ["self", "number"] (spAlwI K)
  busy : MkOf P w K mg base 2 C.busy ["self", "number"] (spAlwI K)
  hours : MkOf P w K mg base 3 C.hours ["self", "begin", "end", "number"] (spHoursI C)
  frm : MkOf P w K mg base 3 C.frm ["self", "wires", "number"] (spFromI C)
  first : MkOf P w K mg base 3 C.first ["self", "rules"] (spFirstI C)
/-- the head of rule_by: told is a tuple, its word, its size -/
theorem ok_ruleBy1 (F : FnP K "rule_by" "rule_by" sRuleBy f fd) (T : Txt w K mg C) (M : Makers P w K mg base C) : FnOk P w K mg base CX0 5 f fd ["told", "deep"] (spRuleBy1 C) := by
  refine F.ok scRuleBy (fun vs H Q E h => by obtain ⟨a, d, p, rfl, _⟩ := h; rfl) (fun cdv A outer s H vs Q E hr h => ?_)
  obtain ⟨a, d, p, rfl, ha, hok, q⟩ := h
  have nd := scRuleBy.nd
  obtain ⟨ds, es, nn, gS, KD, ⟨u1, e1, r1⟩, ⟨u2, e2, r2⟩, ⟨u3, e3, r3⟩, ⟨u4, e4, r4⟩, ⟨u5, e5, r5⟩, _⟩ := T.sizes
  refine ⟨_, PSs.nox (pss_cons (ps_expr (pe_callG M.need hr (by decide) rfl (pa_cons (pe_and (pe_callB call_isi (by rfl) T.isi (by decide +kernel) (pa_cons (pv 0) (pa_cons (pe_bltn (v := .ty "tuple") (by rfl) T.tuple (by decide +kernel) rfl) pa_nil)))
      (pe_and (pe_cmpR op_gt (pe_callB call_len_seq (by rfl) T.len PySem.boot_len (pa_cons (pv 0) pa_nil)) pe_int (nomark _)) (pe_one (pe_callB call_isi (by rfl) T.isi (by decide +kernel) (pa_cons (pe_ix ix_tup (pv 0) pe_int (fun _ _ => rfl)) (pa_cons (pe_bltn (v := .ty "str") (by rfl) T.str (by decide +kernel) rfl) pa_nil)))))) pa_nil)))
    (pss_cons (ps_set (i := 2) nd rfl (Or.inl rfl) (pe_ix ix_tup (pv 0) pe_int (fun _ _ => rfl)))
    (pss_cons (ps_expr (pe_callG M.need hr (by decide) rfl (pa_cons (pe_cmpR op_eq (pe_kget2 KD rfl gS (pv 2) pe_int ⟨rfl, rfl, rfl, rfl⟩) (pe_callB call_len_seq (by rfl) T.len PySem.boot_len (pa_cons (pv 0) pa_nil)) (nomark _)) pa_nil)))
    (pss_cons (ps_if (pt_cmpR op_eq (pv 2) pe_str (nomark _)) (pss_one (ps_ret (pe_mk0 T.mk0 rfl T.gStays))) pss_nil)
    (pss_cons (ps_if (pt_cmpR op_eq (pv 2) pe_str (nomark _)) (pss_one (ps_ret (pe_makeG M.alw hr (by decide) rfl T.gAlw (pa_cons (pe_ix ix_tup (pv 0) pe_int (fun _ _ => rfl)) pa_nil)))) pss_nil)
    (pss_cons (ps_if (pt_cmpR op_eq (pv 2) pe_str (nomark _)) (pss_one (ps_ret (pe_makeG M.busy hr (by decide) rfl T.gBusy (pa_cons (pe_ix ix_tup (pv 0) pe_int (fun _ _ => rfl)) pa_nil)))) pss_nil)
    (pss_cons (ps_if (pt_cmpR op_eq (pv 2) pe_str (nomark _)) (pss_one (ps_ret (pe_makeG M.hours hr (by decide) rfl T.gHours (pa_cons (pe_ix ix_tup (pv 0) pe_int (fun _ _ => rfl)) (pa_cons (pe_ix ix_tup (pv 0) pe_int (fun _ _ => rfl)) (pa_cons (pe_ix ix_tup (pv 0) pe_int (fun _ _ => rfl)) pa_nil)))))) pss_nil)
    (pss_cons (ps_if (pt_cmpR op_eq (pv 2) pe_str (nomark _)) (pss_one (ps_ret (pe_makeG M.frm hr (by decide) rfl T.gFrom (pa_cons (pe_ix ix_tup (pv 0) pe_int (fun _ _ => rfl)) (pa_cons (pe_ix ix_tup (pv 0) pe_int (fun _ _ => rfl)) pa_nil))))) pss_nil)
    (pss_one ps_never))))))))), ?_⟩
  cases p with
  | stays =>
    have h0 : H a = some (.tup [.str "stays"]) := ha
    refine ⟨_, rfl, _, .ty "tuple", _, _, true, rfl, .ty _, .base (.tup h0), kit_ty (by decide +kernel), true, rfl, iteT ?_⟩
    refine ⟨_, rfl, a, _, rfl, .inr (SqT.of h0), 1, 0, rfl, rfl, true, rfl, iteT ?_⟩
    refine ⟨_, rfl, a, _, 0, .str "stays", rfl, rfl, SqT.of h0, rfl, _, .ty "str", _, _, true, rfl, .ty _, .base (.str _), kit_ty (by decide +kernel), rfl, ?_⟩
    refine ⟨_, rfl, a, _, 0, .str "stays", rfl, rfl, SqT.of h0, rfl, ?_⟩
    refine ⟨_, rfl, "stays", u1, .int 1, rfl, e1, r1, _, rfl, a, _, rfl, .inr (SqT.of h0), rfl, rfl, ?_⟩
    refine ⟨_, rfl, rfl, _, rfl, strT ?_⟩
    intro x dx nx nd ne
    exact q _ x (same_upd2 nx nd) ⟨dx, upd_same⟩ fun b o hb => ⟨dx, new_rule (C := C) nx upd_same hb⟩
  | always z =>
    have h0 : H a = some (.tup [.str "always", .str z]) := ha
    refine ⟨_, rfl, _, .ty "tuple", _, _, true, rfl, .ty _, .base (.tup h0), kit_ty (by decide +kernel), true, rfl, iteT ?_⟩
    refine ⟨_, rfl, a, _, rfl, .inr (SqT.of h0), 2, 0, rfl, rfl, true, rfl, iteT ?_⟩
    refine ⟨_, rfl, a, _, 0, .str "always", rfl, rfl, SqT.of h0, rfl, _, .ty "str", _, _, true, rfl, .ty _, .base (.str _), kit_ty (by decide +kernel), rfl, ?_⟩
    refine ⟨_, rfl, a, _, 0, .str "always", rfl, rfl, SqT.of h0, rfl, ?_⟩
    refine ⟨_, rfl, "always", u2, .int 2, rfl, e2, r2, _, rfl, a, _, rfl, .inr (SqT.of h0), rfl, rfl, ?_⟩
    refine ⟨_, rfl, rfl, _, rfl, strF (by decide +kernel) ?_⟩
    refine ⟨_, rfl, rfl, _, rfl, strT ?_⟩
    refine ⟨_, rfl, a, _, 1, .str z, rfl, rfl, SqT.of h0, rfl, fun x dx nx nd ne => ?_⟩
    refine ⟨x, C.alw, dx, z, rfl, upd_same, T.iAlw.cl, T.nNumA, hok, fun H1 h1 k1 => ⟨rfl, ?_⟩⟩
    exact q H1 x (Keep1.made nx nd k1) ⟨dx, h1⟩ fun b o hb => ⟨dx, new_rule (C := C) nx h1 hb⟩
  | busy z =>
    have h0 : H a = some (.tup [.str "busy", .str z]) := ha
    refine ⟨_, rfl, _, .ty "tuple", _, _, true, rfl, .ty _, .base (.tup h0), kit_ty (by decide +kernel), true, rfl, iteT ?_⟩
    refine ⟨_, rfl, a, _, rfl, .inr (SqT.of h0), 2, 0, rfl, rfl, true, rfl, iteT ?_⟩
    refine ⟨_, rfl, a, _, 0, .str "busy", rfl, rfl, SqT.of h0, rfl, _, .ty "str", _, _, true, rfl, .ty _, .base (.str _), kit_ty (by decide +kernel), rfl, ?_⟩
    refine ⟨_, rfl, a, _, 0, .str "busy", rfl, rfl, SqT.of h0, rfl, ?_⟩
    refine ⟨_, rfl, "busy", u3, .int 2, rfl, e3, r3, _, rfl, a, _, rfl, .inr (SqT.of h0), rfl, rfl, ?_⟩
    refine ⟨_, rfl, rfl, _, rfl, strF (by decide +kernel) ?_⟩
    refine ⟨_, rfl, rfl, _, rfl, strF (by decide +kernel) ?_⟩
    refine ⟨_, rfl, rfl, _, rfl, strT ?_⟩
    refine ⟨_, rfl, a, _, 1, .str z, rfl, rfl, SqT.of h0, rfl, fun x dx nx nd ne => ?_⟩
    refine ⟨x, C.busy, dx, z, rfl, upd_same, T.iBusy.cl, T.nNumB, hok, fun H1 h1 k1 => ⟨rfl, ?_⟩⟩
    exact q H1 x (Keep1.made nx nd k1) ⟨dx, h1⟩ fun b o hb => ⟨dx, new_rule (C := C) nx h1 hb⟩
  | hours lo hi z =>
    have h0 : H a = some (.tup [.str "hours", .int lo, .int hi, .str z]) := ha
    obtain ⟨o1, o2, o3⟩ := hok
    refine ⟨_, rfl, _, .ty "tuple", _, _, true, rfl, .ty _, .base (.tup h0), kit_ty (by decide +kernel), true, rfl, iteT ?_⟩
    refine ⟨_, rfl, a, _, rfl, .inr (SqT.of h0), 4, 0, rfl, rfl, true, rfl, iteT ?_⟩
    refine ⟨_, rfl, a, _, 0, .str "hours", rfl, rfl, SqT.of h0, rfl, _, .ty "str", _, _, true, rfl, .ty _, .base (.str _), kit_ty (by decide +kernel), rfl, ?_⟩
    refine ⟨_, rfl, a, _, 0, .str "hours", rfl, rfl, SqT.of h0, rfl, ?_⟩
    refine ⟨_, rfl, "hours", u4, .int 4, rfl, e4, r4, _, rfl, a, _, rfl, .inr (SqT.of h0), rfl, rfl, ?_⟩
    refine ⟨_, rfl, rfl, _, rfl, strF (by decide +kernel) ?_⟩
    refine ⟨_, rfl, rfl, _, rfl, strF (by decide +kernel) ?_⟩
    refine ⟨_, rfl, rfl, _, rfl, strF (by decide +kernel) ?_⟩
    refine ⟨_, rfl, rfl, _, rfl, strT ?_⟩
    refine ⟨_, rfl, a, _, 1, .int lo, rfl, rfl, SqT.of h0, rfl, _, rfl, a, _, 2, .int hi, rfl, rfl, SqT.of h0, rfl, _, rfl, a, _, 3, .str z, rfl, rfl, SqT.of h0, rfl, fun x dx nx nd ne => ?_⟩
    refine ⟨x, dx, lo, hi, z, rfl, upd_same, o1, o2, o3, fun H1 h1 k1 => ⟨rfl, ?_⟩⟩
    exact q H1 x (Keep1.made nx nd k1) ⟨dx, h1⟩ fun b o hb => ⟨dx, new_rule (C := C) nx h1 hb⟩
  | fromW ws z =>
    obtain ⟨l, h0, hl⟩ := ha
    obtain ⟨o1, o2, o3, o4⟩ := hok
    refine ⟨_, rfl, _, .ty "tuple", _, _, true, rfl, .ty _, .base (.tup h0), kit_ty (by decide +kernel), true, rfl, iteT ?_⟩
    refine ⟨_, rfl, a, _, rfl, .inr (SqT.of h0), 3, 0, rfl, rfl, true, rfl, iteT ?_⟩
    refine ⟨_, rfl, a, _, 0, .str "from", rfl, rfl, SqT.of h0, rfl, _, .ty "str", _, _, true, rfl, .ty _, .base (.str _), kit_ty (by decide +kernel), rfl, ?_⟩
    refine ⟨_, rfl, a, _, 0, .str "from", rfl, rfl, SqT.of h0, rfl, ?_⟩
    refine ⟨_, rfl, "from", u5, .int 3, rfl, e5, r5, _, rfl, a, _, rfl, .inr (SqT.of h0), rfl, rfl, ?_⟩
    refine ⟨_, rfl, rfl, _, rfl, strF (by decide +kernel) ?_⟩
    refine ⟨_, rfl, rfl, _, rfl, strF (by decide +kernel) ?_⟩
    refine ⟨_, rfl, rfl, _, rfl, strF (by decide +kernel) ?_⟩
    refine ⟨_, rfl, rfl, _, rfl, strF (by decide +kernel) ?_⟩
    refine ⟨_, rfl, rfl, _, rfl, strT ?_⟩
    refine ⟨_, rfl, a, _, 1, .ref l, rfl, rfl, SqT.of h0, rfl, _, rfl, a, _, 2, .str z, rfl, rfl, SqT.of h0, rfl, fun x dx nx nd ne => ?_⟩
    refine ⟨x, dx, l, ws, z, rfl, upd_same, same_upd2 nx nd _ _ hl, o1, o2, o3, o4, fun H1 l' nl' h1 hl1 k1 => ⟨rfl, ?_⟩⟩
    exact q H1 x (Keep1.made nx nd k1) ⟨dx, l', h1, hl1⟩ fun b o hb => ⟨dx, l', new_rule (C := C) nx h1 hb, new_list ((same_upd2 nx nd).free nl') hl1 hb⟩
theorem scFirstBy : FnScope ["rows", "deep", "told"] ["rows", "deep"] (defScope sFirstBy) := ⟨rfl, rfl, rfl, by decide +kernel, rfl, by decide +kernel, by decide +kernel⟩
theorem ok_firstBy (F : FnP K "first_by" "first_by" sFirstBy f fd) (T : Txt w K mg C) (M : Makers P w K mg base C) (G : Glob P w K mg base 5 "rule_by" ["told", "deep"] (spRuleBy1 C)) : FnOk P w K mg base CX0 6 f fd ["rows", "deep"] (spFirstBy C) := by
  refine F.ok scFirstBy (fun vs H Q E h => by obtain ⟨l, as, ps, rfl, _⟩ := h; rfl) (fun cdv A outer s H vs Q E hr h => ?_)
  obtain ⟨l, as, ps, rfl, hl, he, hok, q⟩ := h
  have nd := scFirstBy.nd
  have hlen := he.len
  obtain ⟨⟨ok1, ok2⟩, ok3⟩ := hok
  refine ⟨_, PSs.nox (pss_cons (ps_expr (pe_callG M.need hr (by decide) rfl (pa_cons (pe_and (pe_callB call_isi (by rfl) T.isi (by decide +kernel) (pa_cons (pv 0) (pa_cons (pe_bltn (v := .ty "list") (by rfl) T.list (by decide +kernel) rfl) pa_nil)))
      (pe_and (pe_cmpR op_le (pe_callB call_len_seq (by rfl) T.len PySem.boot_len (pa_cons (pv 0) pa_nil)) (pe_globI rfl T.mRules) (nomark _)) (pe_one (pe_cmpR op_lt (pv 1) (pe_globI rfl T.mDeep) (nomark _))))) pa_nil)))
    (pss_one (ps_ret (pe_makeG M.first hr (by decide) rfl T.gFirst (pa_cons (pe_lc (own := [("told", 2)]) (g := gName 2) (tt := tYes) rfl nd (pi_list (pv 0)) (blkOk_by (N := ["rows", "deep", "told"]) (sc := defScope sFirstBy) (by decide +kernel))
      (fun _ _ _ _ _ => pg_name (i := 2) nd rfl (Or.inl rfl)) (fun _ _ _ _ _ => pts_nil) (fun _ _ _ _ _ => pe_callG G hr (by decide) rfl (pa_cons (pv 2) (pa_cons (pe_op op_add (pv 1) pe_int) pa_nil)))) pa_nil))))), ?_⟩
  refine ⟨_, rfl, _, .ty "list", _, _, true, rfl, .ty _, .base (.lst hl), kit_ty (by decide +kernel), true, rfl, iteT ?_⟩
  refine ⟨_, rfl, l, _, rfl, .inl (SqL.of hl), _, _, rfl, rfl, true, blT (by rw [List.length_map]; omega), iteT ?_⟩
  refine ⟨_, rfl, _, _, rfl, rfl, rfl, ?_⟩
  refine ⟨_, rfl, l, rfl, ⟨_, SqL.of hl⟩, fun D nD => ?_⟩
  refine lc_list (xs := as.map V.ref) (fun i H2 => Same H H2 ∧ ∃ rs, H2 D = some (.lst (rs.map V.ref)) ∧ rs.length = i ∧ Each (PRule C (era H2 D)) rs (ps.take i)) ⟨same_upd nD, [], upd_same, rfl, Each.nil⟩ (fun i H2 _ hh => SqL.of (hh.1 _ _ hl)) (fun i x H2 hx hh => ?_) (fun H2 hh => ?_)
  · obtain ⟨sm, rs, hD, hrs, her⟩ := hh
    rw [List.getElem?_map] at hx
    obtain ⟨y, hy, rfl⟩ := Option.map_eq_some_iff.mp hx
    obtain ⟨pt, hpt, hyp⟩ := he.get hy
    have hi : i < as.length := (List.getElem?_eq_some_iff.mp hy).1
    refine ⟨rfl, lc_yes ?_⟩
    refine ⟨_, rfl, _, rfl, 0, 1, rfl, rfl, y, 0 + 1, pt, rfl, hyp.ext (Ext.ofS sm), ok3 pt (List.mem_of_getElem? hpt), fun H3 r s3 _ hr3 => ?_⟩
    refine ⟨_, s3 _ _ hD, ?_, upd_free (sm.trans s3) nD, rs ++ [r], ?_, ?_, ?_⟩
    · rw [List.length_map]
      exact small1000 (by omega)
    · rw [upd_same, List.map_append]
      rfl
    · rw [List.length_append, hrs]
      rfl
    · have e1 : ps.take (i + 1) = ps.take i ++ [pt] := by rw [List.take_add_one, hpt]; rfl
      rw [e1]
      rw [era_upd2]
      exact (her.imp fun a p z => z.ext (era_mono s3)).snoc (hr3 _ _ hD)
  · obtain ⟨sm, rs, hD, hrs, her⟩ := hh
    rw [List.length_map, hlen, List.take_length] at her
    have her := her.imp fun a p (z : PRule C (era H2 D) a p) => z.ext era_of
    intro x dx nx ndx ne
    have ru := same_upd2 (o := .own x) (u := .ins C.first dx []) nx ndx
    refine ⟨x, dx, D, rs, ps, rfl, upd_same, ru _ _ hD, her.imp fun a p hp => ⟨fun z => ?_, hp.ext (Ext.ofS ru)⟩, ⟨ok1, ok2⟩, fun H3 l' h3 hl3 k3 => ⟨rfl, ?_⟩⟩
    · obtain ⟨D', dx', fs', ho, _⟩ := hp.obj
      rw [z, nx] at ho
      cases ho
    · have s3 := Keep1.made nx ndx k3
      exact q H3 x (sm.trans s3) ⟨dx, l', rs, h3, hl3, her.imp fun a p hp => hp.ext (Ext.ofS s3)⟩
/-- two promises of one def -/
theorem fn_or {k : Nat} {ps : List Str} {sp sp' : Sp} (F : FnOk P w K mg base CX0 k f fd ps sp) (G : FnOk P w K mg base CX0 k f fd ps sp') : FnOk P w K mg base CX0 k f fd ps (fun vs H Q E => sp vs H Q E ∨ sp' vs H Q E) :=
  ⟨fun vs H Q E h => h.elim (F.len vs H Q E) (G.len vs H Q E), fun A outer s H args us vs Q E hr e0 hb r h => h.elim (F.run A outer s H args us vs Q E hr e0 hb r) (G.run A outer s H args us vs Q E hr e0 hb r)⟩
def spRuleByF (C : CA) : Sp := fun vs H Q _ => ∃ (a : Addr) (ps : List PT), vs = [.ref a, .int 0] ∧ ToldAt H a (.first ps) ∧ (Told.first ps).Ok ∧ ∀ (H' : Hp) (r : Addr), Same H H' → RuleAt C H' r (.first ps) → Q (.ref r) H'
theorem ok_ruleByF (F : FnP K "rule_by" "rule_by" sRuleBy f fd) (T : Txt w K mg C) (GN : Glob P w K mg base 1 "need" ["good"] spNeed) (GF : Glob P w K mg base 6 "first_by" ["rows", "deep"] (spFirstBy C)) : FnOk P w K mg base CX0 7 f fd ["told", "deep"] (spRuleByF C) := by
  refine F.ok scRuleBy (fun vs H Q E h => by obtain ⟨a, p, rfl, _⟩ := h; rfl) (fun cdv A outer s H vs Q E hr h => ?_)
  obtain ⟨a, ps, rfl, ⟨l, as, h0, hl, he⟩, hok, q⟩ := h
  have nd := scRuleBy.nd
  obtain ⟨ds, es, nn, gS, KD, _, _, _, _, _, ⟨u6, e6, r6⟩⟩ := T.sizes
  refine ⟨_, PSs.nox (pss_cons (ps_expr (pe_callG GN hr (by decide) rfl (pa_cons (pe_and (pe_callB call_isi (by rfl) T.isi (by decide +kernel) (pa_cons (pv 0) (pa_cons (pe_bltn (v := .ty "tuple") (by rfl) T.tuple (by decide +kernel) rfl) pa_nil)))
      (pe_and (pe_cmpR op_gt (pe_callB call_len_seq (by rfl) T.len PySem.boot_len (pa_cons (pv 0) pa_nil)) pe_int (nomark _)) (pe_one (pe_callB call_isi (by rfl) T.isi (by decide +kernel) (pa_cons (pe_ix ix_tup (pv 0) pe_int (fun _ _ => rfl)) (pa_cons (pe_bltn (v := .ty "str") (by rfl) T.str (by decide +kernel) rfl) pa_nil)))))) pa_nil)))
    (pss_cons (ps_set (i := 2) nd rfl (Or.inl rfl) (pe_ix ix_tup (pv 0) pe_int (fun _ _ => rfl)))
    (pss_cons (ps_expr (pe_callG GN hr (by decide) rfl (pa_cons (pe_cmpR op_eq (pe_kget2 KD rfl gS (pv 2) pe_int ⟨rfl, rfl, rfl, rfl⟩) (pe_callB call_len_seq (by rfl) T.len PySem.boot_len (pa_cons (pv 0) pa_nil)) (nomark _)) pa_nil)))
    (pss_cons (ps_if (pt_cmpR op_eq (pv 2) pe_str (nomark _)) pss_never pss_nil)
    (pss_cons (ps_if (pt_cmpR op_eq (pv 2) pe_str (nomark _)) pss_never pss_nil)
    (pss_cons (ps_if (pt_cmpR op_eq (pv 2) pe_str (nomark _)) pss_never pss_nil)
    (pss_cons (ps_if (pt_cmpR op_eq (pv 2) pe_str (nomark _)) pss_never pss_nil)
    (pss_cons (ps_if (pt_cmpR op_eq (pv 2) pe_str (nomark _)) pss_never pss_nil)
    (pss_one (ps_ret (pe_callG GF hr (by decide) rfl (pa_cons (pe_ix ix_tup (pv 0) pe_int (fun _ _ => rfl)) (pa_cons (pv 1) pa_nil))))))))))))), ?_⟩
  refine ⟨_, rfl, _, .ty "tuple", _, _, true, rfl, .ty _, .base (.tup h0), kit_ty (by decide +kernel), true, rfl, iteT ?_⟩
  refine ⟨_, rfl, a, _, rfl, .inr (SqT.of h0), 2, 0, rfl, rfl, true, rfl, iteT ?_⟩
  refine ⟨_, rfl, a, _, 0, .str "first", rfl, rfl, SqT.of h0, rfl, _, .ty "str", _, _, true, rfl, .ty _, .base (.str _), kit_ty (by decide +kernel), rfl, ?_⟩
  refine ⟨_, rfl, a, _, 0, .str "first", rfl, rfl, SqT.of h0, rfl, ?_⟩
  refine ⟨_, rfl, "first", u6, .int 2, rfl, e6, r6, _, rfl, a, _, rfl, .inr (SqT.of h0), rfl, rfl, ?_⟩
  refine ⟨_, rfl, rfl, _, rfl, strF (by decide +kernel) ?_⟩
  refine ⟨_, rfl, rfl, _, rfl, strF (by decide +kernel) ?_⟩
  refine ⟨_, rfl, rfl, _, rfl, strF (by decide +kernel) ?_⟩
  refine ⟨_, rfl, rfl, _, rfl, strF (by decide +kernel) ?_⟩
  refine ⟨_, rfl, rfl, _, rfl, strF (by decide +kernel) ?_⟩
  exact ⟨_, rfl, a, _, 1, .ref l, rfl, rfl, SqT.of h0, rfl, _, rfl, l, as, ps, rfl, hl, he, hok, q⟩
theorem ok_ruleBy0 (G1 : FnOk P w K mg base CX0 5 f fd ["told", "deep"] (spRuleBy1 C)) (G2 : FnOk P w K mg base CX0 7 f fd ["told", "deep"] (spRuleByF C)) : FnOk P w K mg base CX0 7 f fd ["told", "deep"] (spRuleBy0 C) := by
  refine (fn_or (G1.mono (by decide)) G2).imp fun vs H Q E h => ?_
  obtain ⟨a, u, rfl, ha, hok, q⟩ := h
  cases u with
  | plain p => exact .inl ⟨a, 0, p, rfl, ha, hok, fun H' r s hr _ => q H' r s hr⟩
  | first ps => exact .inr ⟨a, ps, rfl, ha, hok, q⟩
theorem scRuleOf : FnScope ["told"] ["told"] (defScope sRuleOf) := ⟨rfl, rfl, rfl, by decide +kernel, rfl, by decide +kernel, by decide +kernel⟩
theorem ok_ruleOf (F : FnP K "rule_of" "rule_of" sRuleOf f fd) (G : Glob P w K mg base 7 "rule_by" ["told", "deep"] (spRuleBy0 C)) : FnOk P w K mg base CX0 8 f fd ["told"] (spRuleOf C) := by
  refine F.ok scRuleOf (fun vs H Q E h => by obtain ⟨a, u, rfl, _⟩ := h; rfl) (fun cdv A outer s H vs Q E hr h => ?_)
  obtain ⟨a, u, rfl, ha, hok, q⟩ := h
  exact ⟨_, PSs.nox (pss_one (ps_ret (pe_callG G hr (by decide) rfl (pa_cons (pv 0) (pa_cons pe_int pa_nil))))), _, rfl, a, u, rfl, ha, hok, q⟩
end
end K55
set_option maxHeartbeats 4100000
/-! k55: Plan -/
namespace K55
open PySem PySem.Spec PyProof.Rows L2 LamX NdefX
def spPlanI (C : CA) : Sp := fun vs H Q _ => ∃ (p dx l : Addr) (rows : PRows), vs = [.ref p, .ref l] ∧ H p = some (.ins C.plan dx []) ∧ RowsAt H l rows ∧ RowsOk rows ∧ ∀ H', PlanAt C H' p rows → Keep1 H H' p → Q .non H'
def strO : Option (List Nat) → V
  | none => .non
  | some f => .str ⟨f.toArray⟩
def spPlanL (C : CA) : Sp := fun vs H Q _ => ∃ (p : Addr) (z : Str) (rows : PRows), vs = [.ref p, .str z] ∧ PlanAt C H p rows ∧ z.length ≤ 1000 ∧ Q (strO (longest (sgR rows) (sg z))) H
def spPlanF (C : CA) : Sp := fun vs H Q _ => ∃ (p : Addr) (z : Str) (rows : PRows), vs = [.ref p, .str z] ∧ PlanAt C H p rows ∧ z.length ≤ 1000 ∧ (wireOf (sgR rows) (sg z) = none → Q .non H) ∧
  ∀ w, wireOf (sgR rows) (sg z) = some w → ∀ (p' : Addr) (u v : V), H p' = none → Q (.ref p') (upd H p' (.tup [u, .int w, v]))
theorem sg_cut (z : Str) (k : Nat) : sg (cutS z none (some (k : Int))) = (sg z).take k := by
  have hl : z.length = (sg z).length := (Array.length_toList).symm
  show (((z.cps.toList.drop 0).take (HT.sIx z.length z.length (some (k : Int)) - 0)).toArray).toList = _
  rw [List.toList_toArray, HT.sIx_nat, List.drop_zero, Nat.sub_zero, hl]
  show List.take (min k (sg z).length) (sg z) = _
  rw [List.take_eq_take_iff]
  omega
theorem str_cut (z : Str) (k : Nat) : cutS z none (some (k : Int)) = ⟨((sg z).take k).toArray⟩ := sg_inj (by rw [sg_cut]; rfl)
theorem sg_mk (f : List Nat) : sg ⟨f.toArray⟩ = f := rfl
theorem things_take {rows : PRows} {i : Nat} {p : Str × Int} (h : rows[i]? = some p) : thingsK (rows.take (i + 1)) = thingsK (rows.take i) ++ [((Sum.inr p.1 : Key), V.int p.2)] := by
  unfold thingsK
  rw [List.take_add_one, h, List.map_append]
  rfl
theorem fresh_row {rows : PRows} {i : Nat} {p : Str × Int} (nd : ((sgR rows).map (·.1)).Nodup) (h : rows[i]? = some p) : valV (thingsK (rows.take i)) (Sum.inr p.1 : Key) = none := by
  rw [val_things]
  cases e : (sgR (rows.take i)).lookup (sg p.1) with
  | none => rfl
  | some w =>
    have hm := mem_of_lookup e
    have e1 : rows = rows.take i ++ rows.drop i := (List.take_append_drop i rows).symm
    have e2 : (sgR rows).map (·.1) = (sgR (rows.take i)).map (·.1) ++ (sgR (rows.drop i)).map (·.1) := by
      rw [← List.map_append]
      unfold sgR
      rw [← List.map_append, List.take_append_drop]
    rw [e2] at nd
    have h1 : sg p.1 ∈ (sgR (rows.take i)).map (·.1) := List.mem_map.mpr ⟨_, hm, rfl⟩
    have h2 : sg p.1 ∈ (sgR (rows.drop i)).map (·.1) := by
      refine List.mem_map.mpr ⟨(sg p.1, p.2), List.mem_map.mpr ⟨p, ?_, rfl⟩, rfl⟩
      rw [List.mem_iff_getElem?]
      exact ⟨0, by rw [List.getElem?_drop]; exact h⟩
    exact absurd rfl ((List.nodup_append.mp nd).2.2 _ h1 _ h2)
theorem line_big {n : Nat} (h : n ≤ 1000000) : n < sizeLine := by rw [sizeLine_eq]; omega
section
variable {P : Program} {w : World} {K : PySem.W.Frag} {mg : Str → Option Value} {base : Heap} {f : Addr} {fd : FuncData} {C : CA}
theorem scPlanI : FnScope ["self", "rows", "beginning", "thing", "size"] ["self", "rows"] (defScope sPlanI) := ⟨rfl, rfl, rfl, by decide +kernel, rfl, by decide +kernel, by decide +kernel⟩
theorem ok_planI (F : FnP K "__init__" "Plan.__init__" sPlanI f fd) (T : Txt w K mg C) (GF : Glob P w K mg base 1 "is_figures" ["thing"] spFig) : FnOk P w K mg base CX0 2 f fd ["self", "rows"] (spPlanI C) := by
  refine F.ok scPlanI (fun vs H Q E h => by obtain ⟨p, dx, l, rows, rfl, _⟩ := h; rfl) (fun cdv A outer s H vs Q E hr h => ?_)
  obtain ⟨p, dx, l, rows, rfl, hp, ⟨as, hl, he⟩, ok, q⟩ := h
  have nd := scPlanI.nd
  have hu := hu_of hr
  have hlen := he.len
  have okl := ok.len
  refine ⟨_, PSs.nox (pss_cons (ps_if (pt_cmpR op_gt (pe_callB call_len_seq (by rfl) T.len PySem.boot_len (pa_cons (pv 1) pa_nil)) (pe_globI rfl T.mRows) (nomark _)) pss_never pss_nil)
    (pss_cons (ps_fld (pv 0) pe_dnewK rfl) (pss_cons (ps_fld (pv 0) pe_dnewK rfl)
    (pss_one (ps_for PassesOwn.never rfl (pi_list (pv 1)) (pg_tup rfl (pgs_cons (pg_name (i := 2) nd rfl (Or.inl rfl)) (pgs_cons (pg_name (i := 3) nd rfl (Or.inl rfl)) pgs_nil)))
      (pss_cons (ps_if (pt_not (pt_val (pe_callG GF hr (by decide) rfl (pa_cons (pv 2) pa_nil)))) pss_never pss_nil)
      (pss_cons (ps_if (pt_cmp (pc_din hu (pv 2) (pe_fld (pv 0) rfl))) pss_never pss_nil)
      (pss_cons (ps_dput hu (pe_fld (pv 0) rfl) (pv 2) (pv 3) rfl)
      (pss_one (ps_for PassesOwn.never rfl (pi_range1 rfl T.range (pa_cons (pe_callB call_len_str (by rfl) T.len PySem.boot_len (pa_cons (pv 2) pa_nil)) pa_nil)) (pg_name (i := 4) nd rfl (Or.inl rfl))
        (pss_one (ps_dput hu (pe_fld (pv 0) rfl) (pe_slice sl_str (pv 2) po_none (po_some (pv 4))) pe_bl rfl)))))))))))), ?_⟩
  refine ⟨_, rfl, l, _, rfl, .inl (SqL.of hl), _, _, rfl, rfl, false, blF (by rw [List.length_map]; omega), iteF ?_⟩
  intro t nt
  have npt : p ≠ t := ne_of_none hp nt
  have hp1 : (upd H t (.dK [])) p = some (.ins C.plan dx []) := by rw [upd_ne npt]; exact hp
  refine ⟨_, rfl, p, C.plan, dx, [], rfl, hp1, T.clPlan, T.nThings, by show 0 < 1000; decide, ?_⟩
  intro w' nw
  have nwp : w' ≠ p := fun z => by rw [z, upd_same] at nw; cases nw
  have nwp' : (upd H t (.dK [])) w' = none := by rw [upd_ne nwp] at nw; exact nw
  have nwt : w' ≠ t := fun z => by rw [z, upd_same] at nwp'; cases nwp'
  have nw0 : H w' = none := by rw [upd_ne nwt] at nwp'; exact nwp'
  refine ⟨_, rfl, p, C.plan, dx, _, rfl, by rw [upd_ne nwp.symm, upd_same], T.clPlan, T.nWays, by show 1 < 1000; decide, ?_⟩
  refine ⟨_, rfl, l, rfl, ⟨as.map V.ref, SqL.of ?_⟩, ?_⟩
  · rw [upd_ne (ne_of hl hp (by intro y; cases y)), upd_ne (ne_of_none hl nw0), upd_ne (ne_of hl hp (by intro y; cases y)), upd_ne (ne_of_none hl nt)]
    exact hl
  refine for_list (xs := as.map V.ref) (fun i σ H' => H' p = some (.ins C.plan dx (fPlan t w')) ∧ H' t = some (.dK (thingsK (rows.take i))) ∧ (∃ ways : List (Key × V), H' w' = some (.dK ways) ∧ ways.length ≤ 15 * i) ∧ Keep1 H H' p ∧ ∃ u v x, σ = [some (.ref p), some (.ref l), u, v, x]) ?_ (fun i σ H' _ h => ?_) (fun i x σ H' hx h => ?_) (fun σ H' h => ?_)
  · refine ⟨upd_same, ?_, ⟨[], ?_, Nat.le_refl _⟩, ?_, _, _, _, rfl⟩
    · rw [upd_ne npt.symm, upd_ne nwt.symm, upd_ne npt.symm, upd_same]
      rfl
    · rw [upd_ne nwp, upd_same]
    · intro b o e hb
      rw [upd_ne hb, upd_ne (ne_of_none e nw0), upd_ne hb, upd_ne (ne_of_none e nt)]
      exact e
  · exact SqL.of (h.2.2.2.1 _ _ hl (ne_of hl hp (by intro y; cases y)))
  · obtain ⟨h1, h2, ⟨ways, h3, h4⟩, k, u, v, y, rfl⟩ := h
    rw [List.getElem?_map] at hx
    obtain ⟨a, ha, rfl⟩ := Option.map_eq_some_iff.mp hx
    obtain ⟨row, hrow, hat⟩ := he.get ha
    have hi : i < as.length := (List.getElem?_eq_some_iff.mp ha).1
    have hfig := ok.fig row (List.mem_of_getElem? hrow)
    have hat' := k _ _ hat (ne_of hat hp (by intro y; cases y))
    refine ⟨a, _, rfl, SqT.of hat', rfl, _, _, rfl, _, _, rfl, rfl, ?_⟩
    refine ⟨_, rfl, row.1, rfl, hfig, fun H1 sm => ⟨true, rfl, iteF ?_⟩⟩
    refine ⟨_, rfl, _, rfl, p, C.plan, dx, _, _, rfl, sm _ _ h1, T.clPlan, T.nThings, plan_things t w', t, _, rfl, DGet.k (k := Sum.inr row.1) (sm _ _ h2), _, rfl, ?_⟩
    rw [fresh_row ok.nd hrow]
    refine iteF ?_
    refine ⟨_, rfl, _, rfl, p, C.plan, dx, _, _, rfl, sm _ _ h1, T.clPlan, T.nThings, plan_things t w', _, rfl, t, _, rfl, DPut.k (k := Sum.inr row.1) (sm _ _ h2) ?_, ?_⟩
    · unfold thingsK
      rw [List.length_map, List.length_take]
      exact line_big (by omega)
    have epu : putK (thingsK (rows.take i)) (Sum.inr row.1 : Key) (V.int row.2) = thingsK (rows.take (i + 1)) := by
      rw [putK_new _ (fresh_row ok.nd hrow), things_take hrow]
    rw [epu]
    have g1 : (upd H1 t (.dK (thingsK (rows.take (i + 1))))) p = some (.ins C.plan dx (fPlan t w')) := by rw [upd_ne npt]; exact sm _ _ h1
    have g3 : (upd H1 t (.dK (thingsK (rows.take (i + 1))))) w' = some (.dK ways) := by rw [upd_ne nwt]; exact sm _ _ h3
    have gk : Keep1 H (upd H1 t (.dK (thingsK (rows.take (i + 1))))) p := fun b o e hb => by
      rw [upd_ne (ne_of_none e nt)]
      exact sm _ _ (k b o e hb)
    refine ⟨_, rfl, row.1, rfl, fig_sizeLine hfig (by decide), (row.1.length : Int), rfl, by omega, by have := hfig.hi; omega, ?_⟩
    refine for_range (lo := 0) (n := ((row.1.length : Int)).toNat) (fun j σ H' => H' p = some (.ins C.plan dx (fPlan t w')) ∧ H' t = some (.dK (thingsK (rows.take (i + 1)))) ∧ (∃ ways' : List (Key × V), H' w' = some (.dK ways') ∧ ways'.length ≤ 15 * i + j) ∧ Keep1 H H' p ∧ ∃ x, σ = [some (.ref p), some (.ref l), some (.str row.1), some (.int row.2), x])
      ⟨g1, upd_same, ⟨ways, g3, by omega⟩, gk, _, rfl⟩ (fun j σ H' hj h => ?_) (fun σ H' h => ?_)
    · obtain ⟨a1, a2, ⟨wy, a3, a4⟩, ak, x, rfl⟩ := h
      have e0 : (0 : Int) + (j : Nat) = ((j : Nat) : Int) := Int.zero_add _
      refine ⟨_, rfl, p, C.plan, dx, _, _, rfl, a1, T.clPlan, T.nWays, plan_ways t w', _, rfl, _, rfl, _, rfl, row.1, rfl, fig_sizeLine hfig (by decide), w', _, rfl, DPut.k (k := Sum.inr (cutS row.1 none (some (0 + (j : Nat))))) a3 (line_big (by have := hfig.hi; omega)), ?_⟩
      refine ⟨by rw [upd_ne nwp.symm]; exact a1, by rw [upd_ne nwt.symm]; exact a2, ⟨_, upd_same, ?_⟩, fun b o e hb => ?_, _, rfl⟩
      · have := length_putK wy (Sum.inr (cutS row.1 none (some (0 + (j : Nat)))) : Key) (.bl true)
        omega
      · rw [upd_ne (ne_of_none e nw0)]
        exact ak b o e hb
    · obtain ⟨a1, a2, ⟨wy, a3, a4⟩, ak, x, rfl⟩ := h
      exact ⟨a1, a2, ⟨wy, a3, by have := hfig.hi; omega⟩, ak, _, _, _, rfl⟩
  · obtain ⟨h1, h2, _, k, u, v, y, rfl⟩ := h
    rw [List.length_map, hlen, List.take_length] at h2
    exact q H' ⟨dx, t, w', h1, h2⟩ k
theorem scPlanL : FnScope ["self", "number", "size"] ["self", "number"] (defScope sPlanL) := ⟨rfl, rfl, rfl, by decide +kernel, rfl, by decide +kernel, by decide +kernel⟩
theorem ok_planL (F : FnP K "longest" "Plan.longest" sPlanL f fd) (T : Txt w K mg C) : FnOk P w K mg base CX0 1 f fd ["self", "number"] (spPlanL C) := by
  refine F.ok scPlanL (fun vs H Q E h => by obtain ⟨p, z, rows, rfl, _⟩ := h; rfl) (fun cdv A outer s H vs Q E hr h => ?_)
  obtain ⟨p, z, rows, rfl, ⟨dx, t, w', hp, ht⟩, hz, q⟩ := h
  have nd := scPlanL.nd
  have hu := hu_of hr
  have hzl : z.length ≤ sizeLine := Nat.le_of_lt (small1000 hz)
  have hn : z.length = (sg z).length := (Array.length_toList).symm
  refine ⟨_, PSs.nox (pss_cons (ps_for PassesOwn.never rfl (pi_range3 rfl T.range (pa_cons (pe_callB call_len_str (by rfl) T.len PySem.boot_len (pa_cons (pv 1) pa_nil)) (pa_cons pe_int (pa_cons (pe_un un_neg pe_int) pa_nil)))) (pg_name (i := 2) nd rfl (Or.inl rfl))
      (pss_one (ps_if (pt_cmp (pc_din hu (pe_slice sl_str (pv 1) po_none (po_some (pv 2))) (pe_fld (pv 0) rfl))) (pss_one (ps_ret (pe_slice sl_str (pv 1) po_none (po_some (pv 2))))) pss_nil)))
    (pss_one (ps_ret pe_non))), ?_⟩
  refine ⟨_, rfl, z, rfl, hzl, _, rfl, (z.length : Int), 0, -1, ((z.length : Int) - 0).toNat, rfl, RgC.neg (by omega) (by omega) (by decide) (by decide), ?_⟩
  refine for_rangeC (lo := (z.length : Int)) (c := -1) (n := ((z.length : Int) - 0).toNat) (fun i σ H' => H' = H ∧ longest (sgR rows) (sg z) = longN (sgR rows) (sg z) (z.length - i) ∧ ∃ u, σ = [some (.ref p), some (.str z), u]) ⟨rfl, by rw [Nat.sub_zero, hn]; rfl, _, rfl⟩ (fun i σ H' hi h => ?_) (fun σ H' h => ?_)
  · obtain ⟨rfl, h1, u, rfl⟩ := h
    have ei : (z.length : Int) + (i : Nat) * (-1) = ((z.length - i : Nat) : Int) := by omega
    obtain ⟨m, hm⟩ : ∃ m, z.length - i = m + 1 := ⟨z.length - i - 1, by omega⟩
    rw [ei, hm]
    refine ⟨_, rfl, _, rfl, _, rfl, z, rfl, hzl, _, rfl, p, C.plan, dx, _, _, rfl, hp, T.clPlan, T.nThings, plan_things t w', t, _, rfl, DGet.k (k := Sum.inr (cutS z none (some ((m + 1 : Nat) : Int)))) ht, _, rfl, ?_⟩
    have h2 : longest (sgR rows) (sg z) = if ((sgR rows).lookup ((sg z).take (m + 1))).isSome then some ((sg z).take (m + 1)) else longN (sgR rows) (sg z) m := by rw [h1, hm]; rfl
    have ev : (valV (thingsK rows) (Sum.inr (cutS z none (some ((m + 1 : Nat) : Int))) : Key)).isSome = ((sgR rows).lookup ((sg z).take (m + 1))).isSome := by
      rw [val_things, sg_cut]
      exact Option.isSome_map
    rw [ev]
    cases c : ((sgR rows).lookup ((sg z).take (m + 1))).isSome with
    | true =>
      rw [c, if_pos rfl] at h2
      rw [h2] at q
      refine iteT ⟨_, rfl, _, rfl, _, rfl, z, rfl, hzl, ?_⟩
      rw [str_cut]
      exact q
    | false =>
      rw [c, if_neg Bool.false_ne_true] at h2
      refine iteF ⟨rfl, ?_, _, rfl⟩
      rw [h2]
      congr 1
      omega
  · obtain ⟨rfl, h1, u, rfl⟩ := h
    have e0 : z.length - ((z.length : Int) - 0).toNat = 0 := by omega
    rw [e0] at h1
    rw [h1] at q
    exact q
theorem scPlanF : FnScope ["self", "number", "beginning"] ["self", "number"] (defScope sPlanF) := ⟨rfl, rfl, rfl, by decide +kernel, rfl, by decide +kernel, by decide +kernel⟩
theorem ok_planF {fL : Addr} {fdL : FuncData} (F : FnP K "found" "Plan.found" sPlanF f fd) (T : Txt w K mg C) (mL : Meth K C.plan "longest" fL) (GL : FnOk P w K mg base CX0 1 fL fdL ["self", "number"] (spPlanL C)) (bL : Binds K fdL ["self", "number"] []) : FnOk P w K mg base CX0 2 f fd ["self", "number"] (spPlanF C) := by
  refine F.ok scPlanF (fun vs H Q E h => by obtain ⟨p, z, rows, rfl, _⟩ := h; rfl) (fun cdv A outer s H vs Q E hr h => ?_)
  obtain ⟨p, z, rows, rfl, ha, hz, qn, qs⟩ := h
  have nd := scPlanF.nd
  have hu := hu_of hr
  have hzl : z.length ≤ sizeLine := Nat.le_of_lt (small1000 hz)
  have ha2 := ha
  obtain ⟨dx, t, w', hp, ht⟩ := ha2
  refine ⟨_, PSs.nox (pss_cons (ps_set (i := 2) nd rfl (Or.inl rfl) (pe_meth (pv 0) T.clPlan mL GL hr bL .nil pass0 (pa_cons (pv 1) pa_nil)))
    (pss_cons (ps_if (pt_cmpR op_isN (pv 2) pe_non (nomark _)) (pss_one (ps_ret pe_non)) pss_nil)
    (pss_one (ps_ret (pe_tup (pa_cons (pv 2) (pa_cons (pe_dget hu (pe_fld (pv 0) rfl) (pv 2) (fun _ _ => rfl)) (pa_cons (pe_slice sl_str (pv 1) (po_some (pe_callB call_len_str (by rfl) T.len PySem.boot_len (pa_cons (pv 2) pa_nil))) po_none) pa_nil)))))))), ?_⟩
  have nl : (fPlan t w').lookup ("longest" : Str) = none := (lk_ne (by decide +kernel)).trans ((lk_ne (by decide +kernel)).trans rfl)
  refine ⟨_, rfl, p, dx, _, rfl, hp, nl, _, rfl, p, z, rows, rfl, ha, hz, ?_⟩
  cases e : longest (sgR rows) (sg z) with
  | none =>
    have ew : wireOf (sgR rows) (sg z) = none := by unfold wireOf; rw [e]; rfl
    exact ⟨_, rfl, rfl, _, rfl, iteT (qn ew)⟩
  | some g =>
    obtain ⟨⟨k, k0, k1, k2, k3⟩, _⟩ := longN_some e
    obtain ⟨wv, hw⟩ := Option.isSome_iff_exists.mp k3
    have ew : wireOf (sgR rows) (sg z) = some wv := by unfold wireOf; rw [e]; exact hw
    have hgl : (⟨g.toArray⟩ : Str).length ≤ sizeLine := by
      show g.toArray.size ≤ sizeLine
      rw [List.size_toArray, k2, List.length_take]
      have hn : z.length = (sg z).length := (Array.length_toList).symm
      omega
    refine ⟨_, rfl, rfl, _, rfl, iteF ?_⟩
    refine ⟨_, rfl, _, rfl, p, C.plan, dx, _, _, rfl, hp, T.clPlan, T.nThings, plan_things t w', _, rfl, t, .int wv, rfl, ?_, ?_⟩
    · have hd := DGet.k (k := Sum.inr (⟨g.toArray⟩ : Str)) ht
      rw [val_things, sg_mk, hw] at hd
      exact hd
    · refine ⟨_, rfl, _, rfl, _, rfl, hgl, _, rfl, z, rfl, hzl, by show 3 ≤ sizeLine; decide, fun p' np' => qs wv ew p' _ _ np'⟩
end
end K55
set_option maxHeartbeats 4100000
/-! k55: is_busy as the law makes it; rung -/
namespace K55
open PySem PySem.Spec PyProof.Rows L2 LamX NdefX
def forBody (s : Stmt) : List Stmt := match s with
  | .For _ _ b _ _ => b
  | _ => []
def asgVal (s : Stmt) : Expr := match s with
  | .Assign _ v _ => v
  | _ => .Constant .none 0 ⟨0, 0, 0, 0⟩
def callArg (i : Nat) (e : Expr) : Expr := match e with
  | .Call _ es _ _ => es.getD i (.Constant .none 0 ⟨0, 0, 0, 0⟩)
  | _ => .Constant .none 0 ⟨0, 0, 0, 0⟩
def lamA (e : Expr) : Arguments := match e with
  | .Lambda a _ _ _ => a
  | _ => { posonlyargs := [], args := [], vararg := none, kwonlyargs := [], kw_defaults := [], kwarg := none, defaults := [] }
def lamB (e : Expr) : Expr := match e with
  | .Lambda _ b _ _ => b
  | _ => .Constant .none 0 ⟨0, 0, 0, 0⟩
def lamS (e : Expr) : Scope := match e with
  | .Lambda _ _ s _ => s
  | _ => { kind := .function, names := [], isGenerator := false, isCoroutine := false }
abbrev hLam : Expr := callArg 2 (asgVal ((forBody ((defBody sLaw).getD 5 (.Pass ⟨0, 0, 0, 0⟩))).getD 6 (.Pass ⟨0, 0, 0, 0⟩)))
def qHeld : Str := (("law" : Str) ++ (".<locals>." : Str)) ++ ("<lambda>" : Str)
abbrev heldF (cell c' : Addr) : NF := lamF qHeld (lamA hLam) (lamS hLam) [("_law_held", cell)] c'
/-- is_busy as the law makes it: held is what its cell holds -/
structure HeldFn (H : Hp) (f : Addr) (held : List Int) : Prop where
  ex : ∃ cell c' l, H f = some (LamO f (heldF cell c') (lamB hLam)) ∧ H c' = some (CodeO c' qHeld) ∧ Cell H cell (.ref l) ∧ H l = some (.lst (held.map V.int))
theorem HeldFn.ext {H H' : Hp} {f : Addr} {held : List Int} (t : HeldFn H f held) (e : ExtN H H') : HeldFn H' f held := by
  obtain ⟨cell, c', l, h1, h2, h3, h4⟩ := t.ex
  exact ⟨cell, c', l, e _ _ h1 lamO_ne, e _ _ h2 codeO_ne, h3.ext e, e _ _ h4 (fun ps z => by cases z)⟩
theorem scHeld : NScope ["_law_one", "_law_held"] ["_law_one"] ["_law_held"] (lamS hLam) := nscope_by (by decide +kernel)
def tCallL (i : Nat) (t : TA) : TE := fun σ H Q => ∃ (f : Addr) (held : List Int), σ[i]? = some (some (.ref f)) ∧ HeldFn H f held ∧ t σ H fun vs H1 => ∃ w : Int, vs = [.int w] ∧ HeldFn H1 f held ∧ Q (.bl (decide (w ∈ held))) H1
section
variable {X : Cx} {C : CA} {i k : Nat} {x : Str} {p pos : Pos} {e : Expr} {es : List Expr} {t : TA}
theorem pe_callL (hr : Room k X.A) (hk : 1 ≤ k) (hN : X.N[i]? = some x) (hv : Vis X.env.scope x) (ha : PA X (e :: es) t)
    (hd : (x == ("__debug__" : Str)) = false := by decide) (hcd : (x == ("__classdict__" : Str)) = false := by decide)
    (he : starEach (e :: es) X.env = (false, eval e X.env) :: starEach es X.env := by rfl) (hpl : (backTo pos (starEach es X.env)).any (·.1) = false := by rfl) :
    PE X (.Call (.Name x p) (e :: es) [] pos) (tCallL i t) := by
  refine ⟨fun pins s σ H Q I h => ?_⟩
  obtain ⟨f, held, hs, hT, ht⟩ := h
  refine wpAny_Call_Name_kw (thn ((pe_var (pos := p) hN hv hd hcd).run pins s σ H (fun v H1 => v = .ref f ∧ H1 = H) I ⟨.ref f, hs, rfl, rfl⟩) fun v s1 ⟨v', H1, I1, r1, q1⟩ => ?_)
  obtain ⟨ev, eH⟩ := q1
  subst ev
  rw [eH] at I1
  have ev2 : v = Value.ref f := r1
  subst ev2
  obtain ⟨cell0, c0, l0, hf0, _, _, _⟩ := hT.ex
  have fAt : ∀ {s' : Shared} {H' : Hp} {F : NF} {b : Expr}, L2.Inv X pins σ H' s' → H' f = some (LamO f F b) → PySem.W.FnAt f s'.heap := fun {s' H' F b} I' z => by
    obtain ⟨pm, ctv, ho⟩ := lamO_at I'.hok z
    exact ⟨_, _, _, _, ho⟩
  refine PySem.W.callWith_F (first := []) (fAt I1 hf0) (thn (ha.run pos pins s1 σ H _ I1 ht) fun us s2 ⟨vs, H2, I2, rv, w, evs, hT2, q⟩ => ?_) he hpl
  subst evs
  obtain ⟨cell, c', l, hf, hc', hcell, hl⟩ := hT2.ex
  obtain ⟨o, uu, ho, hd2, ru⟩ := hcell.ex
  refine ⟨fAt I2 hf, ?_⟩
  show wpAny _ _ (call (.ref f) us) _ _ _
  have e0 := I2.env0
  have nf : f ≠ cell := fun z => by rw [z, ho] at hf; cases hf
  have nc : c' ≠ cell := fun z => by rw [z, ho] at hc'; cases hc'
  have nl : l ≠ cell := fun z => by rw [z, ho] at hl; cases hl
  obtain ⟨hob, _⟩ := e0.hok cell _ ho
  have hone : ∀ {y : Str} {c : Addr}, ([(("_law_held" : Str), cell)] : List (Str × Addr)).lookup y = some c → y = "_law_held" ∧ c = cell := fun {y c} hy => by
    rw [List.lookup_cons] at hy
    cases z : (y == ("_law_held" : Str)) with
    | true =>
      rw [z] at hy
      exact ⟨eq_of_beq z, (Option.some.inj hy).symm⟩
    | false =>
      rw [z] at hy
      cases hy
  have CA : CellsAt (heldF cell c').cl ["_law_held"] [some (.ref l)] s2.heap (era H2 cell) := by
    refine ⟨rfl, fun y c hy => ?_, fun y y' c h1 h2 => by rw [(hone h1).1, (hone h2).1], fun j y hj => ?_⟩
    · rw [(hone hy).2]
      exact ⟨era_same, some uu, o, hob, hd2⟩
    · match j, hj with
      | 0, hj =>
        have ey : ("_law_held" : Str) = y := Option.some.inj hj
        refine ⟨cell, by rw [← ey]; rfl, fun v hv => ?_⟩
        have ev : V.ref l = v := Option.some.inj (Option.some.inj hv)
        rw [← ev]
        exact ⟨uu, ru, o, hob, hd2⟩
      | j + 1, hj => exact absurd hj (by simp)
  refine wpAny_call (codeAny_mono (run_lam (CX := CX0) (P := X.prog) (w := X.w) (K := X.K) (mg := X.mg) (base := X.base) (N := ["_law_one", "_law_held"]) (F := heldF cell c') (f := f) (b := lamB hLam) (A := X.A) (outer := X.stack) (s := s2) (H := era H2 cell) (us := us) (vs := [.int w]) (ws := [some (.ref l)]) (k := 0)
    (Q := fun v H3 => v = .bl (decide (w ∈ held)) ∧ H3 = era H2 cell) (E := E0) scHeld (fun pm ctv => by
      cases rv with
      | cons r1 r2 => cases r2; rfl) rfl (hr.mono hk) (env0_era e0 ho) (by rw [era_ne nf]; exact hf) (show era H2 cell c' = some (CodeO c' qHeld) by rw [era_ne nc]; exact hc') CA rv
    (pe_cmpR op_in_seq (pv 0 (x := "_law_one")) (pv 1 (x := "_law_held")) (by rfl)) ?_) fun fl s3 hq => ?_)
  · refine ⟨_, rfl, _, rfl, l, _, rfl, .inl (SqL.of (by rw [era_ne nl]; exact hl)), rfl, flat_ints held, ?_, rfl⟩
    exact congrArg V.bl (inV_ints w held)
  cases fl with
  | error e => exact (show False from hq).elim
  | ok fl =>
    cases fl with
    | ret v =>
      obtain ⟨v2, H3, z1, z2, un, hk3, rv2, H4, ⟨ev3, eH4⟩, eH3⟩ := ce_era e0 ho hq
      rw [eH4, upd_era ho] at eH3
      subst eH3 ev3
      exact I2.after ⟨_, _, z1, z2, un, hk3, rv2, q⟩
    | next => exact False.elim hq
    | brk => exact False.elim hq
    | cont => exact False.elim hq
end
/-! ### rung -/
theorem PT.Ok.to {p : PT} (h : p.Ok) {a : Int} {b : Bool} {t : Int} {z : Str} (e : p.to a b t = some z) : Fig 15 z := by
  cases p with
  | stays => cases e
  | always y => cases e; exact h
  | busy y =>
    have e' : (if b = true then some y else none) = some z := e
    split at e'
    · cases e'; exact h
    · cases e'
  | hours lo hi y =>
    have e' : (if inHours lo hi (t % 86400) = true then some y else none) = some z := e
    split at e'
    · cases e'; exact h.2.2
    · cases e'
  | fromW ws y =>
    have e' : (if a ∈ ws then some y else none) = some z := e
    split at e'
    · cases e'; exact h.2.2.2
    · cases e'
theorem Told.Ok.to {u : Told} (h : u.Ok) {a : Int} {b : Bool} {t : Int} {z : Str} (e : u.to a b t = some z) : Fig 15 z := by
  cases u with
  | plain p => exact PT.Ok.to h e
  | first ps =>
    obtain ⟨p, hp, e2⟩ := List.exists_of_findSome?_eq_some e
    exact PT.Ok.to (h.2 p hp) e2
abbrev Houses := Int → Option Told
def nextOf (hs : Houses) (held : List Int) (a t : Int) : Int → Option Str := fun w => (hs w).bind fun u => u.to a (decide (w ∈ held)) t
/-- the dict of closures -/
structure TurnsAt (C : CA) (H : Hp) (d : Addr) (hs : Houses) (n : Nat) : Prop where
  ex : ∃ kvs : List (Key × V), H d = some (.dK kvs) ∧ kvs.length ≤ n ∧ ∀ w, match hs w with
    | none => valV kvs (Sum.inl w : Key) = none
    | some u => ∃ f r, valV kvs (Sum.inl w : Key) = some (.ref f) ∧ Turned H f r ∧ RuleAt C H r u
theorem TurnsAt.ext {C : CA} {H H' : Hp} {d : Addr} {hs : Houses} {n : Nat} (h : TurnsAt C H d hs n) (e : ExtN H H') : TurnsAt C H' d hs n := by
  obtain ⟨kvs, h1, h2, h3⟩ := h.ex
  refine ⟨kvs, e _ _ h1 (fun ps z => by cases z), h2, fun w => ?_⟩
  have q := h3 w
  cases z : hs w with
  | none => rw [z] at q; exact q
  | some u =>
    rw [z] at q
    obtain ⟨f, r, a, b, c⟩ := q
    exact ⟨f, r, a, b.ext e, c.ext (Ext.ofN e)⟩
def HousesOk (hs : Houses) : Prop := ∀ w u, hs w = some u → u.Ok
theorem next_fig {hs : Houses} {held : List Int} {a t w : Int} {z : Str} (h : HousesOk hs) (e : nextOf hs held a t w = some z) : Fig 15 z := by
  unfold nextOf at e
  obtain ⟨u, hu, e2⟩ := Option.bind_eq_some_iff.mp e
  exact (h w u hu).to e2
def spRung (C : CA) : Sp := fun vs H Q _ => ∃ (p tn f : Addr) (a : Int) (z : Str) (tm : Int) (rows : PRows) (hs : Houses) (n : Nat) (held : List Int), vs = [.ref p, .ref tn, .ref f, .int a, .str z, .int tm] ∧ PlanAt C H p rows ∧ RowsOk rows ∧
  TurnsAt C H tn hs n ∧ HousesOk hs ∧ HeldFn H f held ∧ Fig 15 z ∧ ∀ (word : Str) (come : List Int) (H' : Hp) (x c : Addr), Same H H' → H' x = some (.tup [.str word, .ref c]) → H' c = some (.lst (come.map V.int)) → Right (sgR rows) (nextOf hs held a tm) held z word come → Q (.ref x) H'
theorem wire_ok {rows : PRows} (h : RowsOk rows) {z : List Nat} {w : Int} (e : wireOf (sgR rows) z = some w) : 0 ≤ w ∧ w ≤ 9 := by
  unfold wireOf at e
  obtain ⟨f, hf, e2⟩ := Option.bind_eq_some_iff.mp e
  obtain ⟨p, hp, e3⟩ := List.mem_map.mp (mem_of_lookup e2)
  have e4 : p.2 = w := congrArg Prod.snd e3
  rw [← e4]
  exact h.wire p hp
theorem scRung : FnScope ["plan", "turns", "is_busy", "asker", "number", "time", "come", "found", "wire", "busy", "turned"] ["plan", "turns", "is_busy", "asker", "number", "time"] (defScope sRung) := ⟨rfl, rfl, rfl, by decide +kernel, rfl, by decide +kernel, by decide +kernel⟩
section
variable {P : Program} {w : World} {K : PySem.W.Frag} {mg : Str → Option Value} {base : Heap} {f : Addr} {fd : FuncData} {C : CA}
theorem ok_rung {fF : Addr} {fdF : FuncData} (F : FnP K "rung" "rung" sRung f fd) (T : Txt w K mg C) (mF : Meth K C.plan "found" fF) (GF : FnOk P w K mg base CX0 2 fF fdF ["self", "number"] (spPlanF C)) (bF : Binds K fdF ["self", "number"] [])
    (hS : ∀ D sp, STo C D sp → MethOf P w K mg base CX0 2 "to" D sp) : FnOk P w K mg base CX0 4 f fd ["plan", "turns", "is_busy", "asker", "number", "time"] (spRung C) := by
  refine F.ok scRung (fun vs H Q E h => by obtain ⟨p, tn, f, a, z, tm, rows, hs, n, held, rfl, _⟩ := h; rfl) (fun cdv A outer s H vs Q E hr h => ?_)
  obtain ⟨p, tn, fb, a, z, tm, rows, hs, n, held, rfl, hp, ok, htn, hok, hfb, fz, q⟩ := h
  have nd := scRung.nd
  have hu := hu_of hr
  refine ⟨_, PSs.nox (pss_cons (ps_set (i := 6) nd rfl (Or.inl rfl) (pe_lst pa_nil))
    (pss_cons (ps_while PassesOwn.never (pt_cmpR op_notN (pv 4) pe_non (nomark _))
      (pss_cons (ps_set (i := 7) nd rfl (Or.inl rfl) (pe_meth (pv 0) T.clPlan mF GF (hr.mono (by decide)) bF .nil pass0 (pa_cons (pv 4) pa_nil)))
      (pss_cons (ps_if (pt_cmpR op_isN (pv 7) pe_non (nomark _)) (pss_one (ps_ret (pe_tup (pa_cons pe_str (pa_cons (pv 6) pa_nil))))) pss_nil)
      (pss_cons (ps_set (i := 8) nd rfl (Or.inl rfl) (pe_ix ix_tup (pv 7) pe_int (fun _ _ => rfl)))
      (pss_cons (ps_if (pt_cmpR op_in_seq (pv 8) (pv 6) (by rfl)) (pss_one (ps_ret (pe_tup (pa_cons pe_str (pa_cons (pv 6) pa_nil))))) pss_nil)
      (pss_cons (ps_expr (pe_bm PySem.F.plainAttrs_list PySem.F.slot_list_append PySem.F.type_list_append mt_append (pv 6) (pa_cons (pv 8) pa_nil)))
      (pss_cons (ps_set (i := 9) nd rfl (Or.inl rfl) (pe_callL (i := 2) hr (by decide) rfl (Or.inl rfl) (pa_cons (pv 8) pa_nil)))
      (pss_cons (ps_set (i := 4) nd rfl (Or.inl rfl) pe_non)
      (pss_one (ps_if (pt_cmp (pc_din hu (pv 8) (pv 1))) (pss_cons (ps_set (i := 10) nd rfl (Or.inl rfl) (pe_dget hu (pv 1) (pv 8) (fun _ _ => rfl)))
        (pss_one (ps_set (i := 4) nd rfl (Or.inl rfl) (pe_callT (C := C) (i := 10) hS hr (by decide) rfl (Or.inl rfl) (pa_cons (pv 3) (pa_cons (pv 9) (pa_cons (pv 5) pa_nil))))))) pss_nil))))))))))
    (pss_one (ps_ret (pe_tup (pa_cons (pe_ifExp (pt_val (pv 9)) pe_str pe_str) (pa_cons (pv 6) pa_nil))))))), ?_⟩
  refine ⟨by show 0 ≤ sizeLine; exact Nat.zero_le _, fun c nc => ?_⟩
  refine ⟨fun m σ H' => ∃ (come : List Int) (cur : Option Str) (u7 u8 u9 u10 : Option V), m = 10 - come.length ∧ σ = [some (.ref p), some (.ref tn), some (.ref fb), some (.int a), some (optV cur), some (.int tm), some (.ref c), u7, u8, u9, u10] ∧
    Same H H' ∧ H' c = some (.lst (come.map V.int)) ∧ come.Nodup ∧ (∀ w ∈ come, 0 ≤ w ∧ w ≤ 9) ∧ follow (sgR rows) (nextOf hs held a tm) come (some z) = some cur ∧ (∀ y, cur = some y → Fig 15 y) ∧
    (cur = none → ∃ w, come.getLast? = some w ∧ u9 = some (.bl (decide (w ∈ held)))), ⟨_, [], some z, none, none, none, none, rfl, rfl, same_upd nc, upd_same, List.nodup_nil, fun w hw => (by cases hw), rfl, fun y e => (by cases e; exact fz), fun e => (by cases e)⟩, ?_⟩
  rintro m σ H' ⟨come, cur, u7, u8, u9, u10, em, rfl, eN, hc, nd1, h09, hfo, hfig, hlast⟩
  have hlen := ten nd1 h09
  cases cur with
  | none =>
    refine ⟨_, rfl, rfl, _, rfl, iteF ?_⟩
    obtain ⟨w, hw, rfl⟩ := hlast rfl
    refine ⟨_, rfl, _, rfl, ?_⟩
    cases hb : decide (w ∈ held) with
    | true =>
      refine iteT ⟨_, rfl, (show 2 ≤ sizeLine by decide), fun x nx => ?_⟩
      refine q "busy" come _ x c (eN.trans (same_upd nx)) upd_same (same_upd nx _ _ hc) ⟨nd1, hlen, none, hfo, w, hw, ?_⟩
      rw [if_pos (of_decide_eq_true hb)]
    | false =>
      refine iteF ⟨_, rfl, (show 2 ≤ sizeLine by decide), fun x nx => ?_⟩
      refine q "rings" come _ x c (eN.trans (same_upd nx)) upd_same (same_upd nx _ _ hc) ⟨nd1, hlen, none, hfo, w, hw, ?_⟩
      rw [if_neg (of_decide_eq_false hb)]
  | some y =>
    have fy := hfig y rfl
    refine ⟨_, rfl, rfl, _, rfl, iteT ?_⟩
    have hp' := hp.ext (Ext.ofS eN)
    obtain ⟨dx, t, w', hpo, hpt⟩ := id hp'
    have nl : (fPlan t w').lookup ("found" : Str) = none := (lk_ne (by decide +kernel)).trans ((lk_ne (by decide +kernel)).trans rfl)
    refine ⟨fun σ2 H2 => ∃ m', m' < m ∧ ∃ (come : List Int) (cur : Option Str) (u7 u8 u9 u10 : Option V), m' = 10 - come.length ∧ σ2 = [some (.ref p), some (.ref tn), some (.ref fb), some (.int a), some (optV cur), some (.int tm), some (.ref c), u7, u8, u9, u10] ∧
      Same H H2 ∧ H2 c = some (.lst (come.map V.int)) ∧ come.Nodup ∧ (∀ w ∈ come, 0 ≤ w ∧ w ≤ 9) ∧ follow (sgR rows) (nextOf hs held a tm) come (some z) = some cur ∧ (∀ y, cur = some y → Fig 15 y) ∧
      (cur = none → ∃ w, come.getLast? = some w ∧ u9 = some (.bl (decide (w ∈ held)))), fun σ2 H2 h => h, ?_⟩
    refine ⟨_, rfl, p, dx, _, rfl, hpo, nl, _, rfl, p, y, rows, rfl, hp', Nat.le_trans fy.hi (by decide), fun hn => ?_, fun wv hw p' u v np => ?_⟩
    · refine ⟨_, rfl, rfl, _, rfl, iteT ⟨_, rfl, (show 2 ≤ sizeLine by decide), fun x nx => ?_⟩⟩
      refine q "none" come _ x c (eN.trans (same_upd nx)) upd_same (same_upd nx _ _ hc) ⟨nd1, hlen, some y, hfo, ?_⟩
      show (match wireOf (sgR rows) (sg y) with | none => _ | some w => _)
      rw [hn]
    · have s1 : Same H' (upd H' p' (.tup [u, .int wv, v])) := same_upd np
      have h09w := wire_ok ok hw
      have hc1 := s1 _ _ hc
      refine ⟨_, rfl, rfl, _, rfl, iteF ?_⟩
      refine ⟨_, rfl, p', _, 1, .int wv, rfl, rfl, SqT.of upd_same, rfl, ?_⟩
      refine ⟨_, rfl, _, rfl, c, _, rfl, .inl (SqL.of hc1), rfl, flat_ints come, decide (wv ∈ come), congrArg V.bl (inV_ints wv come), ?_⟩
      cases hin : decide (wv ∈ come) with
      | true =>
        refine iteT ⟨_, rfl, (show 2 ≤ sizeLine by decide), fun x nx => ?_⟩
        refine q "round" come _ x c (eN.trans (s1.trans (same_upd nx))) upd_same (same_upd nx _ _ hc1) ⟨nd1, hlen, some y, hfo, ?_⟩
        show (match wireOf (sgR rows) (sg y) with | none => _ | some w => _)
        rw [hw]
        exact ⟨rfl, of_decide_eq_true hin⟩
      | false =>
        have hni := of_decide_eq_false hin
        have nd2 : (come ++ [wv]).Nodup := List.nodup_append.mpr ⟨nd1, List.nodup_cons.mpr ⟨by simp, List.nodup_nil⟩, fun x hx y hy e => hni (by rw [← List.mem_singleton.mp hy, ← e]; exact hx)⟩
        have h092 : ∀ w ∈ come ++ [wv], 0 ≤ w ∧ w ≤ 9 := fun w hw => (List.mem_append.mp hw).elim (h09 w) fun z => by rw [List.mem_singleton.mp z]; exact h09w
        have hlen2 := ten nd2 h092
        rw [List.length_append] at hlen2
        have hlen3 : come.length + 1 ≤ 10 := hlen2
        refine iteF ⟨_, rfl, .inl ⟨rfl, _, SqL.of hc1⟩, _, rfl, c, _, _, rfl, rfl, hc1, by rw [List.length_map]; exact small1000 (by omega), ?_⟩
        have nc0 : ∀ {b o}, H b = some o → b ≠ c := fun {b o} e => ne_of_none e nc
        have e2 : Same H (upd (upd H' p' (.tup [u, .int wv, v])) c (.lst (come.map V.int ++ [.int wv]))) := fun b o e => by
          rw [upd_ne (nc0 e)]
          exact s1 _ _ (eN b o e)
        have hT2 := htn.ext (extN_ofS e2)
        obtain ⟨kvs, hk1, hk2, hk3⟩ := hT2.ex
        have hc2 : (upd (upd H' p' (.tup [u, .int wv, v])) c (.lst (come.map V.int ++ [.int wv]))) c = some (.lst ((come ++ [wv]).map V.int)) := by
          rw [upd_same, List.map_append]
          rfl
        have hfo2 := follow_snoc hw hfo
        have hla : (come ++ [wv]).getLast? = some wv := by rw [List.getLast?_concat]
        refine ⟨fb, held, rfl, hfb.ext (extN_ofS e2), _, rfl, wv, rfl, hfb.ext (extN_ofS e2), ?_⟩
        refine ⟨_, rfl, _, rfl, tn, _, rfl, DGet.k (k := Sum.inl wv) hk1, _, rfl, ?_⟩
        have h3 := hk3 wv
        cases hh : hs wv with
        | none =>
          rw [hh] at h3
          rw [h3]
          have hno : nextOf hs held a tm wv = none := by unfold nextOf; rw [hh]; rfl
          rw [hno] at hfo2
          refine iteF ⟨10 - (come ++ [wv]).length, ?_, come ++ [wv], none, _, _, _, _, rfl, rfl, e2, hc2, nd2, h092, hfo2, fun y e => (by cases e), fun _ => ⟨wv, hla, rfl⟩⟩
          rw [em, List.length_append]
          show 10 - (come.length + 1) < 10 - come.length
          omega
        | some uo =>
          rw [hh] at h3
          obtain ⟨ft, r, hv, hturn, hrule⟩ := h3
          rw [hv]
          have hno : nextOf hs held a tm wv = uo.to a (decide (wv ∈ held)) tm := by unfold nextOf; rw [hh]; rfl
          refine iteT ⟨_, rfl, _, rfl, tn, .ref ft, rfl, ?_, ?_⟩
          · have hd := DGet.k (k := Sum.inl wv) hk1
            rw [hv] at hd
            exact hd
          refine ⟨ft, r, uo, rfl, hturn, _, rfl, _, rfl, _, rfl, a, decide (wv ∈ held), tm, rfl, hturn, hrule, ?_⟩
          refine ⟨10 - (come ++ [wv]).length, ?_, come ++ [wv], uo.to a (decide (wv ∈ held)) tm, _, _, _, _, rfl, rfl, e2, hc2, nd2, h092, by rw [← hno]; exact hfo2, fun y e => (hok wv uo hh).to e, fun _ => ⟨wv, hla, rfl⟩⟩
          rw [em, List.length_append]
          show 10 - (come.length + 1) < 10 - come.length
          omega
end
end K55
set_option maxHeartbeats 4100000
/-! k55: the law's own makers: numbers, figures, rows -/
namespace K55
open PySem PySem.Spec PyProof.Rows L2 LamX NdefX
theorem atI_mem {α : Type} {xs : List α} {i : Int} (h0 : 0 ≤ i) (h1 : i < xs.length) : ∃ x, x ∈ xs ∧ atI xs i = some x := by
  obtain ⟨n, rfl⟩ := Int.eq_ofNat_of_zero_le h0
  have hn : n < xs.length := by omega
  refine ⟨xs[n], List.getElem_mem hn, ?_⟩
  unfold atI ixN
  rw [if_pos h0, if_pos h1]
  show xs[((n : Int)).toNat]? = _
  rw [Int.toNat_natCast, List.getElem?_eq_getElem hn]
/-- one of a few ints -/
theorem atI_int {zs : List Int} {i : Int} (h0 : 0 ≤ i) (h1 : i < zs.length) : ∃ z ∈ zs, atI (zs.map V.int) i = some (.int z) := by
  obtain ⟨x, hx, e⟩ := atI_mem (xs := zs.map V.int) h0 (by rw [List.length_map]; exact h1)
  obtain ⟨z, hz, rfl⟩ := List.mem_map.mp hx
  exact ⟨z, hz, e⟩
theorem inV_strs (z : Str) (ws : List Str) : inV (.str z) (ws.map V.str) = decide (z ∈ ws) := by
  unfold inV
  induction ws with
  | nil => rfl
  | cons y r ih =>
    have e : eqV (.str y) (.str z) = decide (z = y) := by
      show (y == z) = _
      by_cases c : z = y
      · rw [decide_eq_true c, c]; exact beq_self_eq_true y
      · rw [decide_eq_false c]; exact beq_eq_false_iff_ne.mpr fun q => c q.symm
    rw [List.map_cons, List.any_cons, ih, e]
    by_cases c : z = y
    · rw [decide_eq_true c, Bool.true_or, decide_eq_true (c ▸ List.mem_cons_self)]
    · rw [decide_eq_false c, Bool.false_or]
      by_cases d : z ∈ r
      · rw [decide_eq_true d, decide_eq_true (List.mem_cons_of_mem _ d)]
      · rw [decide_eq_false d, decide_eq_false fun q => (List.mem_cons.mp q).elim c d]
theorem flat_strs (ws : List Str) : (ws.map V.str).all flatV = true := by
  rw [List.all_eq_true]
  intro x hx
  obtain ⟨z, _, rfl⟩ := List.mem_map.mp hx
  rfl
def spMixed : Sp := fun vs H Q _ => ∃ c k : Int, vs = [.int c, .int k] ∧ ∀ n : Int, 0 ≤ n → n < 2147483629 → Q (.int n) H
def spCellAt (K : PySem.W.Frag) : Sp := fun vs H Q _ => ∃ (l : Addr) (ns : List Int), vs = [.ref l, .int 0] ∧ SqL K H l (ns.map V.int) ∧ ∀ c : Int, Q (.int c) H
def spTime : Sp := fun vs H Q _ => ∃ c : Int, vs = [.int c] ∧ ∀ (t : Int) (H' : Hp), Same H H' → Q (.int t) H'
def spFigures : Sp := fun vs H Q _ => ∃ (c : Int) (n : Nat), vs = [.int c, .int (n : Int)] ∧ 1 ≤ n ∧ n ≤ 15 ∧ ∀ (z : Str) (H' : Hp), Same H H' → Fig n z → Q (.str z) H'
def spPlanRows : Sp := fun vs H Q _ => ∃ c : Int, vs = [.int c] ∧ ∀ (l : Addr) (rows : PRows) (H' : Hp), Same H H' → RowsAt H' l rows → RowsOk rows → Q (.ref l) H'
theorem emod_bd (n : Int) {m : Int} (h : 0 < m) : 0 ≤ n % m ∧ n % m < m := ⟨Int.emod_nonneg _ (by omega), Int.emod_lt_of_pos _ h⟩
/-- figures joined -/
theorem join_sg : ∀ ys : List Str, sg (Txt.join "" ys) = (ys.map sg).flatten := fun ys => by
  have h := TL.tl_join "" ys
  rw [← TL.join_eq] at h
  show TL.tl (Txt.join "" ys) = _
  rw [h]
  have key : ∀ L : List (List Nat), TL.joinL [] L = L.flatten := by
    intro L
    induction L with
    | nil => rfl
    | cons p r ih =>
      cases r with
      | nil => show p = (p :: []).flatten; simp
      | cons q r => show p ++ ([] ++ TL.joinL [] (q :: r)) = _; rw [ih]; rfl
  exact key _
theorem fig_join {n : Nat} {ys : List Str} (h1 : 1 ≤ ys.length) (hn : ys.length ≤ n) (hy : ∀ y ∈ ys, ∃ c, sg y = [c] ∧ (c = 48 ∨ c = 49 ∨ c = 50 ∨ c = 51)) : Fig n (Txt.join "" ys) := by
  have hs := join_sg ys
  have hl : (sg (Txt.join "" ys)).length = ys.length := by
    rw [hs]
    clear hs h1 hn
    induction ys with
    | nil => rfl
    | cons y r ih =>
      obtain ⟨c, e, _⟩ := hy y List.mem_cons_self
      rw [List.map_cons, List.flatten_cons, List.length_append, ih (fun z hz => hy z (List.mem_cons_of_mem _ hz)), e]
      show 1 + r.length = r.length + 1
      omega
  have hl2 : (Txt.join "" ys).length = ys.length := by rw [← hl]; exact (Array.length_toList).symm
  refine ⟨by rw [hl2]; exact h1, by rw [hl2]; exact hn, fun c hc => ?_⟩
  rw [hs] at hc
  obtain ⟨l, hl, hcl⟩ := List.mem_flatten.mp hc
  obtain ⟨y, hy', rfl⟩ := List.mem_map.mp hl
  obtain ⟨d, e, q⟩ := hy y hy'
  rw [e] at hcl
  rw [List.mem_singleton.mp hcl]
  exact q
theorem pick4 {i : Int} (h0 : 0 ≤ i) (h1 : i < 4) : ∃ c, atI ("0123" : Str).cps.toList i = some c ∧ (c = 48 ∨ c = 49 ∨ c = 50 ∨ c = 51) := by
  obtain ⟨x, hx, e⟩ := atI_mem (xs := ("0123" : Str).cps.toList) h0 (by show i < 4; exact h1)
  refine ⟨x, e, ?_⟩
  have e2 : ("0123" : Str).cps.toList = [48, 49, 50, 51] := by decide +kernel
  rw [e2] at hx
  simpa using hx
section
variable {P : Program} {w : World} {K : PySem.W.Frag} {mg : Str → Option Value} {base : Heap} {f : Addr} {fd : FuncData} {C : CA}
abbrev GMix (P : Program) (w : World) (K : PySem.W.Frag) (mg : Str → Option Value) (base : Heap) : Prop := Glob P w K mg base 1 "_law_mixed" ["_law_cell", "_law_k"] spMixed
theorem scMixed : FnScope ["_law_cell", "_law_k", "_law_number"] ["_law_cell", "_law_k"] (defScope sMixed) := ⟨rfl, rfl, rfl, by decide +kernel, rfl, by decide +kernel, by decide +kernel⟩
theorem ok_mixed (F : FnP K "_law_mixed" "_law_mixed" sMixed f fd) : FnOk P w K mg base CX0 1 f fd ["_law_cell", "_law_k"] spMixed := by
  refine F.ok scMixed (fun vs H Q E h => by obtain ⟨c, k, rfl, _⟩ := h; rfl) (fun cdv A outer s H vs Q E hr h => ?_)
  obtain ⟨c, k, rfl, q⟩ := h
  have nd := scMixed.nd
  refine ⟨_, PSs.nox (pss_cons (ps_set (i := 2) nd rfl (Or.inl rfl) (pe_op op_mod (pe_op op_mul (pe_op op_add (pv 0) (pe_op op_mul pe_int (pv 1))) pe_int) pe_int))
    (pss_one (ps_ret (pe_op op_mod (pe_op op_mul (pv 2) (pe_op op_add (pe_op op_add (pv 2) (pe_op op_mul pe_int (pv 1))) pe_int)) pe_int)))), ?_⟩
  have hb := emod_bd ((c + 7919 * k) * 48271) (m := 2147483647) (by decide)
  refine ⟨_, rfl, _, rfl, _, _, rfl, rfl, Or.inl ⟨by decide, by decide⟩, _, _, rfl, rfl, _, _, rfl, rfl, Or.inr ⟨by decide, by decide⟩, _, _, rfl, rfl, (by show (0 : Int) < _; decide), ?_⟩
  refine ⟨_, rfl, _, rfl, _, rfl, _, _, rfl, rfl, Or.inl ⟨by decide, by decide⟩, _, _, rfl, rfl, _, _, rfl, rfl, _, _, rfl, rfl, Or.inl ⟨by omega, by omega⟩, _, _, rfl, rfl, (by show (0 : Int) < _; decide), ?_⟩
  have hb2 := emod_bd (((c + 7919 * k) * 48271 % 2147483647) * ((c + 7919 * k) * 48271 % 2147483647 + 2 * k + 1)) (m := 2147483629) (by decide)
  exact q _ hb2.1 hb2.2
theorem scCellAt : FnScope ["_law_script", "_law_k"] ["_law_script", "_law_k"] (defScope sCellAt) := ⟨rfl, rfl, rfl, by decide +kernel, rfl, by decide +kernel, by decide +kernel⟩
theorem ok_cellAt (F : FnP K "_law_cell_at" "_law_cell_at" sCellAt f fd) (T : Txt w K mg C) (GM : GMix P w K mg base) : FnOk P w K mg base CX0 2 f fd ["_law_script", "_law_k"] (spCellAt K) := by
  refine F.ok scCellAt (fun vs H Q E h => by obtain ⟨l, ns, rfl, _⟩ := h; rfl) (fun cdv A outer s H vs Q E hr h => ?_)
  obtain ⟨l, ns, rfl, hl, q⟩ := h
  refine ⟨_, PSs.nox (pss_cons (ps_if (pt_cmpR op_lt (pv 1) (pe_callB call_len_seq (by rfl) T.len PySem.boot_len (pa_cons (pv 0) pa_nil)) (nomark _)) (pss_one (ps_ret (pe_callG GM hr (by decide) rfl (pa_cons (pe_ix ix_list (pv 0) (pv 1) (fun _ _ => rfl)) (pa_cons (pv 1) pa_nil))))) pss_nil)
    (pss_one (ps_ret pe_int))), ?_⟩
  refine ⟨_, rfl, _, rfl, l, _, rfl, .inl hl, _, _, rfl, rfl, ?_⟩
  cases ns with
  | nil => exact ⟨false, rfl, iteF (q 0)⟩
  | cons c r =>
    refine ⟨true, blT (by rw [List.length_map, List.length_cons]; omega), iteT ?_⟩
    exact ⟨_, rfl, _, rfl, l, _, 0, .int c, rfl, rfl, hl, by
      unfold atI ixN
      rw [if_pos (by decide), if_pos (by rw [List.length_map, List.length_cons]; omega)]
      rfl, _, rfl, c, 0, rfl, fun n _ _ => q n⟩
theorem scTime : FnScope ["_law_cell", "_law_far", "_law_midnight"] ["_law_cell"] (defScope sTime) := ⟨rfl, rfl, rfl, by decide +kernel, rfl, by decide +kernel, by decide +kernel⟩
theorem ok_time (F : FnP K "_law_time" "_law_time" sTime f fd) (T : Txt w K mg C) (GM : GMix P w K mg base) : FnOk P w K mg base CX0 2 f fd ["_law_cell"] spTime := by
  refine F.ok scTime (fun vs H Q E h => by obtain ⟨c, rfl, _⟩ := h; rfl) (fun cdv A outer s H vs Q E hr h => ?_)
  obtain ⟨c, rfl, q⟩ := h
  have nd := scTime.nd
  refine ⟨_, PSs.nox (pss_cons (ps_set (i := 1) nd rfl (Or.inl rfl) (pe_op op_add (pe_op op_mul (pe_callG GM hr (by decide) rfl (pa_cons (pv 0) (pa_cons pe_int pa_nil))) pe_int) (pe_callG GM hr (by decide) rfl (pa_cons (pv 0) (pa_cons pe_int pa_nil)))))
    (pss_cons (ps_set (i := 2) nd rfl (Or.inl rfl) (pe_callB (call_max2 rfl) (by rfl) T.max (by decide +kernel) (pa_cons pe_int (pa_cons (pe_op op_sub (pe_op op_add (pe_op op_mul (pe_op op_mod (pv 1) pe_int) pe_int) (pe_op op_mod (pe_callG GM hr (by decide) rfl (pa_cons (pv 0) (pa_cons pe_int pa_nil))) pe_int)) pe_int) pa_nil))))
    (pss_one (ps_ret (pe_ix ix_list (pe_lst (pa_cons (pe_op op_mod (pv 1) pe_int) (pa_cons (pv 2) (pa_cons (pe_op op_mod (pv 1) (pe_op op_add (pe_op op_pow pe_int pe_int) pe_int)) (pa_cons (pe_op op_sub (pe_op op_pow pe_int pe_int) (pe_op op_mod (pv 1) pe_int)) pa_nil)))))
      (pe_op op_mod (pe_callG GM hr (by decide) rfl (pa_cons (pv 0) (pa_cons pe_int pa_nil))) pe_int) (fun _ _ => rfl)))))), ?_⟩
  refine ⟨_, rfl, _, _, rfl, fun n1 _ _ => ?_⟩
  refine ⟨_, _, rfl, rfl, Or.inr ⟨by decide, by decide⟩, _, rfl, _, _, rfl, fun n2 _ _ => ?_⟩
  refine ⟨_, _, rfl, rfl, ?_⟩
  refine ⟨_, rfl, _, _, rfl, rfl, (by show (0 : Int) < _; decide), _, _, rfl, rfl, Or.inr ⟨by decide, by decide⟩, _, rfl, _, _, rfl, fun n3 _ _ => ?_⟩
  refine ⟨_, _, rfl, rfl, (by show (0 : Int) < _; decide), _, _, rfl, rfl, _, _, rfl, rfl, _, _, rfl, ?_⟩
  refine ⟨_, rfl, _, _, rfl, rfl, (by show (0 : Int) < _; decide), _, rfl, _, rfl, _, _, rfl, rfl, ⟨by decide, by decide, by decide⟩, _, _, rfl, rfl, _, _, rfl, rfl, (by show (0 : Int) < _; decide), _, _, rfl, rfl, ⟨by decide, by decide, by decide⟩, _, rfl, _, _, rfl, rfl, (by show (0 : Int) < _; decide), _, _, rfl, rfl, (show 4 ≤ sizeLine by decide), fun p np => ?_⟩
  refine ⟨_, rfl, _, _, rfl, fun n4 _ _ => ?_⟩
  refine ⟨_, _, rfl, rfl, (by show (0 : Int) < _; decide), ?_⟩
  have hb := emod_bd n4 (m := 4) (by decide)
  obtain ⟨x, hx, e⟩ := atI_mem (xs := ([.int (((n1 * 2147483629 + n2)) % 864000), .int (if (n1 * 2147483629 + n2) % 11574074074 * 86400 + n3 % 3 - 1 > 0 then (n1 * 2147483629 + n2) % 11574074074 * 86400 + n3 % 3 - 1 else 0), .int ((n1 * 2147483629 + n2) % (10 ^ ((15 : Int)).toNat + 1)), .int (10 ^ ((15 : Int)).toNat - (n1 * 2147483629 + n2) % 90000)] : List V)) hb.1 (by show n4 % 4 < 4; exact hb.2)
  have hi : ∃ t, x = .int t := by
    rcases List.mem_cons.mp hx with rfl | hx
    · exact ⟨_, rfl⟩
    rcases List.mem_cons.mp hx with rfl | hx
    · exact ⟨_, rfl⟩
    rcases List.mem_cons.mp hx with rfl | hx
    · exact ⟨_, rfl⟩
    exact ⟨_, List.mem_singleton.mp hx⟩
  obtain ⟨t, rfl⟩ := hi
  exact ⟨p, _, _, .int t, rfl, rfl, SqL.of upd_same, e, q t _ (same_upd np)⟩
theorem scFigures : FnScope ["_law_cell", "_law_most", "_law_k"] ["_law_cell", "_law_most"] (defScope sFigures) := ⟨rfl, rfl, rfl, by decide +kernel, rfl, by decide +kernel, by decide +kernel⟩
theorem ok_figures (F : FnP K "_law_figures" "_law_figures" sFigures f fd) (T : Txt w K mg C) (GM : GMix P w K mg base) : FnOk P w K mg base CX0 2 f fd ["_law_cell", "_law_most"] spFigures := by
  refine F.ok scFigures (fun vs H Q E h => by obtain ⟨c, n, rfl, _⟩ := h; rfl) (fun cdv A outer s H vs Q E hr h => ?_)
  obtain ⟨c, n, rfl, n1, n15, q⟩ := h
  have nd := scFigures.nd
  refine ⟨_, PSs.nox (pss_one (ps_ret (pe_join pe_str (pe_lc (own := [("_law_k", 2)]) (g := gName 2) (tt := tYes) rfl nd (pi_range1 rfl T.range (pa_cons (pe_op op_add pe_int (pe_op op_mod (pe_callG GM hr (by decide) rfl (pa_cons (pv 0) (pa_cons pe_int pa_nil))) (pv 1))) pa_nil))
    (blkOk_by (N := ["_law_cell", "_law_most", "_law_k"]) (sc := defScope sFigures) (by decide +kernel)) (fun _ _ _ _ _ => pg_name (i := 2) nd rfl (Or.inl rfl)) (fun _ _ _ _ _ => pts_nil)
    (fun _ _ _ _ _ => pe_ix ix_str pe_str (pe_op op_mod (pe_callG GM hr (by decide) rfl (pa_cons (pv 0) (pa_cons (pe_op op_add pe_int (pv 2)) pa_nil))) pe_int) (fun _ _ => rfl)))))), ?_⟩
  refine ⟨⟨_, rfl⟩, _, rfl, c, 229, rfl, fun m _ _ => ?_⟩
  have hb := emod_bd m (m := (n : Int)) (by omega)
  refine ⟨_, rfl, _, _, rfl, rfl, (show (0 : Int) < n by omega), _, _, rfl, rfl, _, rfl, by omega, by omega, fun D nD => ?_⟩
  refine lc_range (lo := 0) (n := (1 + m % (n : Int)).toNat) (fun i H2 => Same H H2 ∧ ∃ ys : List Str, H2 D = some (.lst (ys.map V.str)) ∧ ys.length = i ∧ ∀ y ∈ ys, ∃ c, sg y = [c] ∧ (c = 48 ∨ c = 49 ∨ c = 50 ∨ c = 51)) ⟨same_upd nD, [], upd_same, rfl, fun y hy => (by cases hy)⟩ (fun i H2 hi hh => ?_) (fun H2 hh => ?_)
  · obtain ⟨sm, ys, hD, hl, hy⟩ := hh
    refine ⟨rfl, lc_yes ?_⟩
    refine ⟨_, rfl, _, rfl, _, _, rfl, rfl, _, _, rfl, fun m2 _ _ => ?_⟩
    have hb2 := emod_bd m2 (m := 4) (by decide)
    obtain ⟨x, hx, hc⟩ := pick4 hb2.1 hb2.2
    refine ⟨_, _, rfl, rfl, (by show (0 : Int) < _; decide), "0123", _, x, rfl, rfl, by decide +kernel, hx, ?_⟩
    refine ⟨_, hD, by rw [List.length_map]; exact small1000 (by omega), upd_free sm nD, ys ++ [⟨#[x]⟩], ?_, ?_, fun y hy2 => ?_⟩
    · rw [upd_same, List.map_append]
      rfl
    · rw [List.length_append, hl]
      rfl
    · rcases List.mem_append.mp hy2 with z | z
      · exact hy y z
      · rw [List.mem_singleton.mp z]
        exact ⟨x, rfl, hc⟩
  · obtain ⟨sm, ys, hD, hl, hy⟩ := hh
    have hlen : ys.length ≤ n := by omega
    refine ⟨"", D, ys, rfl, rfl, .inl (SqL.of hD), ?_, q _ H2 sm (fig_join (by omega) hlen hy)⟩
    have hsum : (ys.map (·.length)).sum = ys.length := by
      clear hl hD hlen
      induction ys with
      | nil => rfl
      | cons y r ih =>
        obtain ⟨c, e, _⟩ := hy y List.mem_cons_self
        have e2 : y.length = 1 := by
          show y.cps.size = 1
          rw [← Array.length_toList]
          show (sg y).length = 1
          rw [e]
          rfl
        rw [List.map_cons, List.sum_cons, e2, ih (fun z hz => hy z (List.mem_cons_of_mem _ hz)), List.length_cons]
        omega
    rw [hsum]
    show ys.length + ys.length * 0 ≤ _
    omega
abbrev GFig (P : Program) (w : World) (K : PySem.W.Frag) (mg : Str → Option Value) (base : Heap) : Prop := Glob P w K mg base 2 "_law_figures" ["_law_cell", "_law_most"] spFigures
theorem scPlanRows : FnScope ["_law_cell", "_law_rows", "_law_k", "_law_figures_here", "_law_row"] ["_law_cell"] (defScope sPlanRows) := ⟨rfl, rfl, rfl, by decide +kernel, rfl, by decide +kernel, by decide +kernel⟩
theorem ok_planRows (F : FnP K "_law_plan_rows" "_law_plan_rows" sPlanRows f fd) (T : Txt w K mg C) (GM : GMix P w K mg base) (GF : GFig P w K mg base) : FnOk P w K mg base CX0 3 f fd ["_law_cell"] spPlanRows := by
  refine F.ok scPlanRows (fun vs H Q E h => by obtain ⟨c, rfl, _⟩ := h; rfl) (fun cdv A outer s H vs Q E hr h => ?_)
  obtain ⟨c, rfl, q⟩ := h
  have nd := scPlanRows.nd
  refine ⟨_, PSs.nox (pss_cons (ps_set (i := 1) nd rfl (Or.inl rfl) (pe_lst pa_nil))
    (pss_cons (ps_for PassesOwn.never rfl (pi_range1 rfl T.range (pa_cons (pe_op op_add pe_int (pe_op op_mod (pe_callG GM hr (by decide) rfl (pa_cons (pv 0) (pa_cons pe_int pa_nil))) pe_int)) pa_nil)) (pg_name (i := 2) nd rfl (Or.inl rfl))
      (pss_cons (ps_set (i := 3) nd rfl (Or.inl rfl) (pe_callG GF hr (by decide) rfl (pa_cons (pe_callG GM hr (by decide) rfl (pa_cons (pv 0) (pa_cons (pe_op op_add pe_int (pv 2)) pa_nil))) (pa_cons pe_int pa_nil))))
      (pss_one (ps_if (pt_cmpR op_notIn_seq (pv 3) (pe_lc (own := [("_law_row", 4)]) (g := gName 4) (tt := tYes) rfl nd (pi_list (pv 1)) (blkOk_by (N := ["_law_cell", "_law_rows", "_law_k", "_law_figures_here", "_law_row"]) (sc := defScope sPlanRows) (by decide +kernel))
          (fun _ _ _ _ _ => pg_name (i := 4) nd rfl (Or.inl rfl)) (fun _ _ _ _ _ => pts_nil) (fun _ _ _ _ _ => pe_ix (r := rIxT K) ix_tup (pv 4) pe_int (fun _ _ => rfl))) (by rfl))
        (pss_one (ps_expr (pe_bm PySem.F.plainAttrs_list PySem.F.slot_list_append PySem.F.type_list_append mt_append (pv 1) (pa_cons (pe_tup (pa_cons (pv 3) (pa_cons (pe_op op_mod (pe_callG GM hr (by decide) rfl (pa_cons (pv 0) (pa_cons (pe_op op_add pe_int (pv 2)) pa_nil))) pe_int) pa_nil))) pa_nil)))) pss_nil))))
    (pss_one (ps_ret (pv 1))))), ?_⟩
  refine ⟨by show 0 ≤ sizeLine; exact Nat.zero_le _, fun l nl => ?_⟩
  refine ⟨_, rfl, c, 240, rfl, fun m _ _ => ?_⟩
  have hb := emod_bd m (m := 12) (by decide)
  refine ⟨_, _, rfl, rfl, (by show (0 : Int) < _; decide), _, _, rfl, rfl, _, rfl, by omega, by omega, ?_⟩
  refine for_range (lo := 0) (n := (2 + m % 12).toNat) (fun i σ H' => Same H H' ∧ ∃ rows, RowsAt H' l rows ∧ RowsOk rows ∧ rows.length ≤ i ∧ ∃ u v x, σ = [some (.int c), some (.ref l), u, v, x]) ?_ (fun i σ H' hi h => ?_) (fun σ H' h => ?_)
  · exact ⟨same_upd nl, [], ⟨⟨[], upd_same, Each.nil⟩⟩, ⟨List.nodup_nil, fun p hp => (by cases hp), fun p hp => (by cases hp), Nat.zero_le _⟩, Nat.le_refl _, _, _, _, rfl⟩
  · obtain ⟨sm, rows, ⟨as, hl, he⟩, ok, hlen, u, v, x, rfl⟩ := h
    refine ⟨_, rfl, _, rfl, _, _, rfl, rfl, c, _, rfl, fun n2 _ _ => ?_⟩
    refine ⟨n2, 3, rfl, by decide, by decide, fun z H1 sm1 fz => ?_⟩
    have hl1 := sm1 _ _ hl
    refine ⟨_, rfl, _, rfl, l, rfl, ⟨_, SqL.of hl1⟩, fun D nD => ?_⟩
    refine lc_list (xs := as.map V.ref) (fun i H2 => Same H1 H2 ∧ H2 D = some (.lst ((rows.take i).map fun p => V.str p.1))) ⟨same_upd nD, upd_same⟩ (fun i H2 _ hh => SqL.of (hh.1 _ _ hl1)) (fun i x H2 hx hh => ?_) (fun H2 hh => ?_)
    · obtain ⟨s2, hD⟩ := hh
      rw [List.getElem?_map] at hx
      obtain ⟨y, hy, rfl⟩ := Option.map_eq_some_iff.mp hx
      obtain ⟨p, hp, hat⟩ := he.get hy
      have hi2 : i < as.length := (List.getElem?_eq_some_iff.mp hy).1
      refine ⟨rfl, lc_yes ?_⟩
      refine ⟨_, rfl, y, _, 0, .str p.1, rfl, rfl, SqT.of (s2 _ _ (sm1 _ _ hat)), rfl, ?_⟩
      refine ⟨_, hD, ?_, upd_free s2 nD, ?_⟩
      · rw [List.length_map, List.length_take]
        exact small1000 (by have := ok.len; omega)
      · rw [upd_same, List.take_add_one, hp, List.map_append]
        rfl
    · obtain ⟨s2, hD⟩ := hh
      have eD : ((rows.take (as.map V.ref).length).map fun p => V.str p.1) = (rows.map (·.1)).map V.str := by
        rw [List.length_map, he.len, List.take_length, List.map_map]
        rfl
      rw [eD] at hD
      refine ⟨D, _, rfl, .inl (SqL.of hD), rfl, flat_strs _, ?_⟩
      have hl2 := s2 _ _ hl1
      have sA : Same H H2 := sm.trans (sm1.trans s2)
      cases hin : decide (z ∈ rows.map (·.1)) with
      | true =>
        have hiv : inV (.str z) ((rows.map (·.1)).map V.str) = true := (inV_strs z _).trans hin
        refine ⟨false, congrArg (fun b => V.bl (!b)) hiv, iteF ?_⟩
        exact ⟨sA, rows, ⟨⟨as, hl2, he.imp fun a p z => s2 _ _ (sm1 _ _ z)⟩⟩, ok, by omega, _, _, _, rfl⟩
      | false =>
        have hni := of_decide_eq_false hin
        have hiv : inV (.str z) ((rows.map (·.1)).map V.str) = false := (inV_strs z _).trans hin
        refine ⟨true, congrArg (fun b => V.bl (!b)) hiv, iteT ?_⟩
        refine ⟨_, rfl, .inl ⟨rfl, _, SqL.of hl2⟩, _, rfl, _, rfl, _, rfl, _, _, rfl, rfl, c, _, rfl, fun n3 _ _ => ?_⟩
        have hb3 := emod_bd n3 (m := 10) (by decide)
        refine ⟨_, _, rfl, rfl, (by show (0 : Int) < _; decide), (show 2 ≤ sizeLine by decide), fun p np => ?_⟩
        have s3 : Same H2 (upd H2 p (.tup [.str z, .int (n3 % 10)])) := same_upd np
        refine ⟨l, _, _, rfl, rfl, s3 _ _ hl2, ?_, ?_⟩
        · rw [List.length_map]
          exact small1000 (by have := he.len; omega)
        have nlH : H l = none := nl
        refine ⟨upd_free (sA.trans s3) nlH, rows ++ [(z, n3 % 10)], ⟨⟨as ++ [p], ?_, ?_⟩⟩, ⟨?_, fun r hr => ?_, fun r hr => ?_, ?_⟩, ?_, _, _, _, rfl⟩
        · rw [upd_same, List.map_append]
          rfl
        · refine (he.imp fun a r z => ?_).snoc ?_
          · rw [upd_ne (ne_of z hl (by intro y; cases y))]
            exact s3 _ _ (s2 _ _ (sm1 _ _ z))
          · rw [upd_ne (fun y => by rw [y, hl2] at np; cases np), upd_same]
        · unfold sgR
          rw [List.map_append, List.map_append]
          refine List.nodup_append.mpr ⟨ok.nd, List.nodup_cons.mpr ⟨by simp, List.nodup_nil⟩, fun a ha b hb e => hni ?_⟩
          have e2 : b = sg z := List.mem_singleton.mp hb
          rw [e, e2] at ha
          obtain ⟨r, hr, er⟩ := List.mem_map.mp ha
          obtain ⟨r', hr', rfl⟩ := List.mem_map.mp hr
          have e3 : r'.1 = z := sg_inj er
          rw [← e3]
          exact List.mem_map.mpr ⟨r', hr', rfl⟩
        · rcases List.mem_append.mp hr with z | z
          · exact ok.fig r z
          · rw [List.mem_singleton.mp z]
            exact fz.mono (by decide)
        · rcases List.mem_append.mp hr with z | z
          · exact ok.wire r z
          · rw [List.mem_singleton.mp z]
            exact ⟨hb3.1, by have := hb3.2; show n3 % 10 ≤ 9; omega⟩
        · rw [List.length_append]
          show rows.length + 1 ≤ 100
          omega
        · rw [List.length_append]
          show rows.length + 1 ≤ i + 1
          omega
  · obtain ⟨sm, rows, hR, ok, _, u, v, x, rfl⟩ := h
    exact ⟨_, rfl, q l rows H' sm hR ok⟩
end
end K55
set_option maxHeartbeats 4100000
/-! k55: what the law makes of a house -/
namespace K55
open PySem PySem.Spec PyProof.Rows L2 LamX NdefX
/-- a tuple that is new since H -/
structure NT (H H' : Hp) (a : Addr) (xs : List V) : Prop where
  nw : H a = none
  at_ : H' a = some (.tup xs)
theorem NT.step {H H' H2 : Hp} {a : Addr} {xs : List V} (h : NT H H' a xs) (s : Same H' H2) : NT H H2 a xs := ⟨h.nw, s _ _ h.at_⟩
theorem NT.made {H H' : Hp} {a : Addr} {xs : List V} (s : Same H H') (n : H' a = none) : NT H (upd H' a (.tup xs)) a xs := ⟨s.free n, upd_same⟩
theorem NT.era {H H' : Hp} {a : Addr} {xs : List V} (h : NT H H' a xs) {b : Addr} {o : HO} (hb : H b = some o) : era H' b a = some (.tup xs) := by
  have e : a ≠ b := fun z => by rw [← z, h.nw] at hb; cases hb
  rw [era_ne e]
  exact h.at_
/-- a told rule, all of it new -/
def PNew (H H' : Hp) (a : Addr) (p : PT) : Prop := PTold H' a p ∧ ∀ b o, H b = some o → PTold (era H' b) a p
def spPlain : Sp := fun vs H Q _ => ∃ (c : Int) (z : Str), vs = [.int c, .str z] ∧ Fig 15 z ∧ ∀ (a : Addr) (p : PT) (H' : Hp), Same H H' → p.Ok → PNew H H' a p → Q (.ref a) H'
def spHouse : Sp := fun vs H Q _ => ∃ c : Int, vs = [.int c] ∧ ∀ (a : Addr) (u : Told) (H' : Hp), Same H H' → u.Ok → ToldAt H' a u → Q (.ref a) H'
section
variable {P : Program} {w : World} {K : PySem.W.Frag} {mg : Str → Option Value} {base : Heap} {f : Addr} {fd : FuncData} {C : CA}
theorem scPlain : FnScope ["_law_cell", "_law_number", "_law_begin", "_law_end", "_law_wires", "_law_k", "_law_wire", "_law_some"] ["_law_cell", "_law_number"] (defScope sPlain) := ⟨rfl, rfl, rfl, by decide +kernel, rfl, by decide +kernel, by decide +kernel⟩
theorem ok_plain (F : FnP K "_law_plain" "_law_plain" sPlain f fd) (T : Txt w K mg C) (GM : GMix P w K mg base) : FnOk P w K mg base CX0 2 f fd ["_law_cell", "_law_number"] spPlain := by
  refine F.ok scPlain (fun vs H Q E h => by obtain ⟨c, z, rfl, _⟩ := h; rfl) (fun cdv A outer s H vs Q E hr h => ?_)
  obtain ⟨c, z, rfl, fz, q⟩ := h
  have nd := scPlain.nd
  refine ⟨_, PSs.nox (pss_cons (ps_par (i := 2) (j := 3) (by rfl) nd rfl rfl (by decide) rfl rfl (pa_cons (pe_op op_mod (pe_callG GM hr (by decide) rfl (pa_cons (pv 0) (pa_cons pe_int pa_nil))) pe_int) (pa_cons (pe_op op_mod (pe_callG GM hr (by decide) rfl (pa_cons (pv 0) (pa_cons pe_int pa_nil))) pe_int) pa_nil)) (by rfl))
    (C8.pss_cut (ps_if (pt_cmpR op_eq (pe_op op_mod (pe_callG GM hr (by decide) rfl (pa_cons (pv 0) (pa_cons pe_int pa_nil))) pe_int) pe_int (nomark _))
      (pss_one (ps_asg (pe_ix ix_list (pe_lst (pa_cons (pe_tup (pa_cons pe_int (pa_cons pe_int pa_nil))) (pa_cons (pe_tup (pa_cons pe_int (pa_cons pe_int pa_nil))) (pa_cons (pe_tup (pa_cons (pv 2) (pa_cons (pv 2) pa_nil))) (pa_cons (pe_tup (pa_cons pe_int (pa_cons pe_int pa_nil))) (pa_cons (pe_tup (pa_cons pe_int (pa_cons pe_int pa_nil))) pa_nil))))))
        (pe_op op_mod (pe_callG GM hr (by decide) rfl (pa_cons (pv 0) (pa_cons pe_int pa_nil))) pe_int) (fun _ _ => rfl)) (pg_tup rfl (pgs_cons (pg_name (i := 2) nd rfl (Or.inl rfl)) (pgs_cons (pg_name (i := 3) nd rfl (Or.inl rfl)) pgs_nil))))) pss_nil)
    (pss_cons (ps_set (i := 4) nd rfl (Or.inl rfl) (pe_lst pa_nil))
    (pss_cons (ps_for PassesOwn.never rfl (pi_range1 rfl T.range (pa_cons (pe_op op_add pe_int (pe_op op_mod (pe_callG GM hr (by decide) rfl (pa_cons (pv 0) (pa_cons pe_int pa_nil))) (pe_ix ix_list (pe_lst (pa_cons pe_int (pa_cons pe_int (pa_cons pe_int pa_nil)))) (pe_op op_mod (pe_callG GM hr (by decide) rfl (pa_cons (pv 0) (pa_cons pe_int pa_nil))) pe_int) (fun _ _ => rfl)))) pa_nil)) (pg_name (i := 5) nd rfl (Or.inl rfl))
      (pss_cons (ps_set (i := 6) nd rfl (Or.inl rfl) (pe_op op_mod (pe_callG GM hr (by decide) rfl (pa_cons (pv 0) (pa_cons (pe_op op_add pe_int (pv 5)) pa_nil))) pe_int))
      (pss_one (ps_if (pt_cmpR op_notIn_seq (pv 6) (pv 4) (by rfl)) (pss_one (ps_expr (pe_bm PySem.F.plainAttrs_list PySem.F.slot_list_append PySem.F.type_list_append mt_append (pv 4) (pa_cons (pv 6) pa_nil)))) pss_nil))))
    (pss_cons (ps_set (i := 7) nd rfl (Or.inl rfl) (pe_lst (pa_cons (pe_tup (pa_cons pe_str pa_nil)) (pa_cons (pe_tup (pa_cons pe_str (pa_cons (pv 1) pa_nil))) (pa_cons (pe_tup (pa_cons pe_str (pa_cons (pv 1) pa_nil))) (pa_cons (pe_tup (pa_cons pe_str (pa_cons (pv 2) (pa_cons (pv 3) (pa_cons (pv 1) pa_nil))))) pa_nil))))))
    (pss_one (ps_ret (pe_ix ix_list (pe_op op_cat (pv 7) (pe_lst (pa_cons (pe_tup (pa_cons pe_str (pa_cons (pv 2) (pa_cons (pv 3) (pa_cons (pv 1) pa_nil))))) (pa_cons (pe_tup (pa_cons pe_str (pa_cons (pv 4) (pa_cons (pv 1) pa_nil)))) pa_nil))))
      (pe_op op_mod (pe_callG GM hr (by decide) rfl (pa_cons (pv 0) (pa_cons pe_int pa_nil))) pe_int) (fun _ _ => rfl))))))))), ?_⟩
  refine ⟨_, rfl, c, 4, rfl, fun n1 _ _ => ⟨_, _, rfl, rfl, (by show (0 : Int) < _; decide), ?_⟩⟩
  refine ⟨_, rfl, c, 5, rfl, fun n2 _ _ => ⟨_, _, rfl, rfl, (by show (0 : Int) < _; decide), ?_⟩⟩
  have hb1 := emod_bd n1 (m := 86400) (by decide)
  have hb2 := emod_bd n2 (m := 86400) (by decide)
  refine ⟨_, _, rfl, ?_⟩
  refine ⟨fun σ' H' => Same H H' ∧ ∃ b e : Int, (0 ≤ b ∧ b ≤ 86399) ∧ (0 ≤ e ∧ e ≤ 86399) ∧ σ' = [some (.int c), some (.str z), some (.int b), some (.int e), none, none, none, none], ?_, ?_⟩
  · refine ⟨_, rfl, c, 6, rfl, fun n3 _ _ => ⟨_, _, rfl, rfl, (by show (0 : Int) < _; decide), ?_⟩⟩
    refine ⟨rfl, _, rfl, ite2 (fun _ => ?_) (fun _ => ?_)⟩
    · refine ⟨(show 2 ≤ sizeLine by decide), fun p1 np1 => ⟨(show 2 ≤ sizeLine by decide), fun p2 np2 => ⟨_, rfl, _, rfl, (show 2 ≤ sizeLine by decide), fun p3 np3 => ⟨(show 2 ≤ sizeLine by decide), fun p4 np4 => ⟨(show 2 ≤ sizeLine by decide), fun p5 np5 => ⟨(show 5 ≤ sizeLine by decide), fun l nl => ?_⟩⟩⟩⟩⟩⟩
      refine ⟨_, rfl, c, 7, rfl, fun n4 _ _ => ⟨_, _, rfl, rfl, (by show (0 : Int) < _; decide), ?_⟩⟩
      have hb4 := emod_bd n4 (m := 5) (by decide)
      have s1 := same_upd (o := .tup [.int 0, .int 86399]) np1
      have s2 := same_upd (o := .tup [.int 86399, .int 0]) np2
      have s3 := same_upd (o := .tup [.int (n1 % 86400), .int (n1 % 86400)]) np3
      have s4 := same_upd (o := .tup [.int 0, .int 0]) np4
      have s5 := same_upd (o := .tup [.int 0, .int 1]) np5
      have s6 := same_upd (o := .lst [.ref p1, .ref p2, .ref p3, .ref p4, .ref p5]) nl
      obtain ⟨x, hx, e⟩ := atI_mem (xs := ([.ref p1, .ref p2, .ref p3, .ref p4, .ref p5] : List V)) hb4.1 (by show n4 % 5 < 5; exact hb4.2)
      have sA := s1.trans (s2.trans (s3.trans (s4.trans (s5.trans s6))))
      have hi : ∃ (p : Addr) (u v : Int), x = .ref p ∧ (upd (upd (upd (upd (upd (upd H p1 (.tup [.int 0, .int 86399])) p2 (.tup [.int 86399, .int 0])) p3 (.tup [.int (n1 % 86400), .int (n1 % 86400)])) p4 (.tup [.int 0, .int 0])) p5 (.tup [.int 0, .int 1])) l (.lst [.ref p1, .ref p2, .ref p3, .ref p4, .ref p5])) p = some (.tup [.int u, .int v]) ∧ (0 ≤ u ∧ u ≤ 86399) ∧ (0 ≤ v ∧ v ≤ 86399) := by
        rcases List.mem_cons.mp hx with rfl | hx
        · exact ⟨p1, 0, 86399, rfl, s6 _ _ (s5 _ _ (s4 _ _ (s3 _ _ (s2 _ _ upd_same)))), by omega, by omega⟩
        rcases List.mem_cons.mp hx with rfl | hx
        · exact ⟨p2, 86399, 0, rfl, s6 _ _ (s5 _ _ (s4 _ _ (s3 _ _ upd_same))), by omega, by omega⟩
        rcases List.mem_cons.mp hx with rfl | hx
        · exact ⟨p3, _, _, rfl, s6 _ _ (s5 _ _ (s4 _ _ upd_same)), by omega, by omega⟩
        rcases List.mem_cons.mp hx with rfl | hx
        · exact ⟨p4, 0, 0, rfl, s6 _ _ (s5 _ _ upd_same), by omega, by omega⟩
        rw [List.mem_singleton.mp hx]
        exact ⟨p5, 0, 1, rfl, s6 _ _ upd_same, by omega, by omega⟩
      obtain ⟨p, u, v, rfl, ht, hu1, hv1⟩ := hi
      exact ⟨l, _, _, .ref p, rfl, rfl, SqL.of upd_same, e, p, _, rfl, SqT.of ht, rfl, _, _, rfl, _, _, rfl, rfl, sA, u, v, hu1, hv1, rfl⟩
    · exact ⟨Same.refl H, _, _, ⟨hb1.1, by omega⟩, ⟨hb2.1, by omega⟩, rfl⟩
  rintro σ' H1 ⟨sm0, b, e, hb, he, rfl⟩
  refine ⟨by show 0 ≤ sizeLine; exact Nat.zero_le _, fun lw nlw => ?_⟩
  refine ⟨_, rfl, c, 8, rfl, fun n5 _ _ => ⟨(show 3 ≤ sizeLine by decide), fun l3 nl3 => ⟨_, rfl, c, 9, rfl, fun n6 _ _ => ⟨_, _, rfl, rfl, (by show (0 : Int) < _; decide), ?_⟩⟩⟩⟩
  have hb6 := emod_bd n6 (m := 3) (by decide)
  obtain ⟨m, hm, em⟩ := atI_int (zs := [3, 3, 20]) hb6.1 (by show n6 % 3 < 3; exact hb6.2)
  have hm2 : 0 < m ∧ m ≤ 20 := by
    rcases List.mem_cons.mp hm with rfl | hm
    · omega
    rcases List.mem_cons.mp hm with rfl | hm
    · omega
    rw [List.mem_singleton.mp hm]
    omega
  refine ⟨l3, _, _, .int m, rfl, rfl, SqL.of upd_same, em, _, _, rfl, rfl, hm2.1, _, _, rfl, rfl, ?_⟩
  have hb5 := emod_bd n5 hm2.1
  refine ⟨_, rfl, by omega, by omega, ?_⟩
  have nlw0 : H lw = none := sm0.free nlw
  have nl3w : l3 ≠ lw := fun y => by rw [y, upd_same] at nl3; cases nl3
  have s3 : Same H1 (upd (upd H1 lw (.lst [])) l3 (.lst [.int 3, .int 3, .int 20])) := (same_upd nlw).trans (same_upd nl3)
  refine for_range (lo := 0) (n := (1 + n5 % m).toNat) (fun i σ H' => Same H H' ∧ ∃ ws : List Int, H' lw = some (.lst (ws.map V.int)) ∧ ws.length ≤ i ∧ (1 ≤ i → 1 ≤ ws.length) ∧ ws.Nodup ∧ (∀ w ∈ ws, 0 ≤ w ∧ w ≤ 63) ∧ ∃ u v, σ = [some (.int c), some (.str z), some (.int b), some (.int e), some (.ref lw), u, v, none]) ?_ (fun i σ H' hi h => ?_) (fun σ H2 h => ?_)
  · exact ⟨sm0.trans s3, [], by rw [upd_ne nl3w.symm, upd_same]; rfl, Nat.le_refl _, by omega, List.nodup_nil, fun w hw => (by cases hw), _, _, rfl⟩
  · obtain ⟨sm, ws, hl, hlen, hone, nd1, h63, u, v, rfl⟩ := h
    refine ⟨_, rfl, _, rfl, _, _, rfl, rfl, c, _, rfl, fun n7 _ _ => ⟨_, _, rfl, rfl, (by show (0 : Int) < _; decide), ?_⟩⟩
    have hb7 := emod_bd n7 (m := 64) (by decide)
    refine ⟨_, rfl, _, rfl, lw, _, rfl, .inl (SqL.of hl), rfl, flat_ints ws, ?_⟩
    cases hin : decide (n7 % 64 ∈ ws) with
    | true =>
      have hiv : inV (.int (n7 % 64)) (ws.map V.int) = true := (inV_ints _ _).trans hin
      refine ⟨false, congrArg (fun b => V.bl (!b)) hiv, iteF ?_⟩
      exact ⟨sm, ws, hl, by omega, fun _ => List.length_pos_of_mem (of_decide_eq_true hin), nd1, h63, _, _, rfl⟩
    | false =>
      have hni := of_decide_eq_false hin
      have hiv : inV (.int (n7 % 64)) (ws.map V.int) = false := (inV_ints _ _).trans hin
      refine ⟨true, congrArg (fun b => V.bl (!b)) hiv, iteT ?_⟩
      refine ⟨_, rfl, .inl ⟨rfl, _, SqL.of hl⟩, _, rfl, lw, _, _, rfl, rfl, hl, by rw [List.length_map]; exact small1000 (by omega), ?_⟩
      refine ⟨upd_free sm nlw0, ws ++ [n7 % 64], by rw [upd_same, List.map_append]; rfl, by rw [List.length_append]; show ws.length + 1 ≤ i + 1; omega, fun _ => by rw [List.length_append]; show 1 ≤ ws.length + 1; omega,
        List.nodup_append.mpr ⟨nd1, List.nodup_cons.mpr ⟨by simp, List.nodup_nil⟩, fun x hx y hy e => hni (by rw [← List.mem_singleton.mp hy, ← e]; exact hx)⟩, fun w hw => ?_, _, _, rfl⟩
      rcases List.mem_append.mp hw with y | y
      · exact h63 w y
      · rw [List.mem_singleton.mp y]
        exact ⟨hb7.1, by omega⟩
  obtain ⟨sm, ws, hl, hlen, hone, nd1, h63, u, v, rfl⟩ := h
  have okW : PT.Ok (.fromW ws z) := ⟨⟨hone (by omega), by omega⟩, nd1, h63, fz⟩
  have okH : PT.Ok (.hours b e z) := ⟨hb, he, fz⟩
  refine ⟨(show 1 ≤ sizeLine by decide), fun p1 np1 => ⟨_, rfl, (show 2 ≤ sizeLine by decide), fun p2 np2 => ⟨_, rfl, (show 2 ≤ sizeLine by decide), fun p3 np3 => ⟨_, rfl, _, rfl, _, rfl, (show 4 ≤ sizeLine by decide), fun p4 np4 => ⟨(show 4 ≤ sizeLine by decide), fun l4 nl4 => ?_⟩⟩⟩⟩⟩
  have t1 := same_upd (o := .tup [.str "stays"]) np1
  have t2 := same_upd (o := .tup [.str "always", .str z]) np2
  have t3 := same_upd (o := .tup [.str "busy", .str z]) np3
  have t4 := same_upd (o := .tup [.str "hours", .int b, .int e, .str z]) np4
  have t5 := same_upd (o := .lst [.ref p1, .ref p2, .ref p3, .ref p4]) nl4
  refine ⟨_, rfl, ?_⟩
  refine ⟨_, rfl, _, rfl, _, rfl, (show 4 ≤ sizeLine by decide), fun p5 np5 => ⟨_, rfl, _, rfl, (show 3 ≤ sizeLine by decide), fun p6 np6 => ⟨(show 2 ≤ sizeLine by decide), fun l5 nl5 => ?_⟩⟩⟩
  have t6 := same_upd (o := .tup [.str "hours", .int b, .int e, .str z]) np5
  have t7 := same_upd (o := .tup [.str "from", .ref lw, .str z]) np6
  have t8 := same_upd (o := .lst [.ref p5, .ref p6]) nl5
  refine ⟨l4, l5, _, _, rfl, rfl, t8 _ _ (t7 _ _ (t6 _ _ upd_same)), upd_same, (show 6 ≤ sizeLine by decide), fun l6 nl6 => ?_⟩
  have t9 := same_upd (o := .lst ([.ref p1, .ref p2, .ref p3, .ref p4] ++ [.ref p5, .ref p6])) nl6
  refine ⟨_, rfl, c, 3, rfl, fun n8 _ _ => ⟨_, _, rfl, rfl, (by show (0 : Int) < _; decide), ?_⟩⟩
  have hb8 := emod_bd n8 (m := 6) (by decide)
  obtain ⟨x, hx, ex⟩ := atI_mem (xs := ([.ref p1, .ref p2, .ref p3, .ref p4] ++ [.ref p5, .ref p6] : List V)) hb8.1 (by show n8 % 6 < 6; exact hb8.2)
  have u5 := t5.trans (t6.trans (t7.trans (t8.trans t9)))
  have sF := sm.trans (t1.trans (t2.trans (t3.trans (t4.trans u5))))
  have n1 : NT H _ p1 _ := (NT.made (xs := [.str "stays"]) sm np1).step (t2.trans (t3.trans (t4.trans u5)))
  have n2 : NT H _ p2 _ := (NT.made (xs := [.str "always", .str z]) (sm.trans t1) np2).step (t3.trans (t4.trans u5))
  have n3 : NT H _ p3 _ := (NT.made (xs := [.str "busy", .str z]) (sm.trans (t1.trans t2)) np3).step (t4.trans u5)
  have n4 : NT H _ p4 _ := (NT.made (xs := [.str "hours", .int b, .int e, .str z]) (sm.trans (t1.trans (t2.trans t3))) np4).step u5
  have n5' : NT H _ p5 _ := (NT.made (xs := [.str "hours", .int b, .int e, .str z]) (sm.trans (t1.trans (t2.trans (t3.trans (t4.trans t5))))) np5).step (t7.trans (t8.trans t9))
  have n6' : NT H _ p6 _ := (NT.made (xs := [.str "from", .ref lw, .str z]) (sm.trans (t1.trans (t2.trans (t3.trans (t4.trans (t5.trans t6)))))) np6).step (t8.trans t9)
  have hlF := (t1.trans (t2.trans (t3.trans (t4.trans u5)))) _ _ hl
  have fin : ∀ (a : Addr) (p : PT), p.Ok → PNew H _ a p → Q (.ref a) _ := fun a p hp hn => q a p _ sF hp hn
  suffices hs : ∃ a, x = .ref a ∧ Q (.ref a) _ by
    obtain ⟨a, rfl, hq⟩ := hs
    exact ⟨l6, _, _, .ref a, rfl, rfl, SqL.of upd_same, ex, hq⟩
  rcases List.mem_cons.mp hx with rfl | hx
  · exact ⟨p1, rfl, fin p1 .stays trivial ⟨n1.at_, fun b o hb => n1.era hb⟩⟩
  rcases List.mem_cons.mp hx with rfl | hx
  · exact ⟨p2, rfl, fin p2 (.always z) fz ⟨n2.at_, fun b o hb => n2.era hb⟩⟩
  rcases List.mem_cons.mp hx with rfl | hx
  · exact ⟨p3, rfl, fin p3 (.busy z) fz ⟨n3.at_, fun b o hb => n3.era hb⟩⟩
  rcases List.mem_cons.mp hx with rfl | hx
  · exact ⟨p4, rfl, fin p4 (.hours b e z) okH ⟨n4.at_, fun b o hb => n4.era hb⟩⟩
  rcases List.mem_cons.mp hx with rfl | hx
  · exact ⟨p5, rfl, fin p5 (.hours b e z) okH ⟨n5'.at_, fun b o hb => n5'.era hb⟩⟩
  rcases List.mem_cons.mp hx with rfl | hx
  · refine ⟨p6, rfl, fin p6 (.fromW ws z) okW ⟨⟨lw, n6'.at_, hlF⟩, fun b o hb => ⟨lw, n6'.era hb, ?_⟩⟩⟩
    rw [era_ne (fun y => by rw [y, hb] at nlw0; cases nlw0)]
    exact hlF
  · cases hx
end
end K55
set_option maxHeartbeats 4100000
/-! k55: a house -/
namespace K55
open PySem PySem.Spec PyProof.Rows L2 LamX NdefX
theorem PNew.keep {H H' H2 : Hp} {a : Addr} {p : PT} (h : PNew H H' a p) (s : Same H' H2) : PNew H H2 a p := by
  refine ⟨h.1.ext (Ext.ofS s), fun b o hb => (h.2 b o hb).ext (era_mono s)⟩
section
variable {P : Program} {w : World} {K : PySem.W.Frag} {mg : Str → Option Value} {base : Heap} {f : Addr} {fd : FuncData} {C : CA}
abbrev GPlain (P : Program) (w : World) (K : PySem.W.Frag) (mg : Str → Option Value) (base : Heap) : Prop := Glob P w K mg base 2 "_law_plain" ["_law_cell", "_law_number"] spPlain
theorem scHouse : FnScope ["_law_cell", "_law_some", "_law_k", "_law_one"] ["_law_cell"] (defScope sHouse) := ⟨rfl, rfl, rfl, by decide +kernel, rfl, by decide +kernel, by decide +kernel⟩
theorem ok_house (F : FnP K "_law_house" "_law_house" sHouse f fd) (T : Txt w K mg C) (GM : GMix P w K mg base) (GF : GFig P w K mg base) (GP : GPlain P w K mg base) : FnOk P w K mg base CX0 3 f fd ["_law_cell"] spHouse := by
  refine F.ok scHouse (fun vs H Q E h => by obtain ⟨c, rfl, _⟩ := h; rfl) (fun cdv A outer s H vs Q E hr h => ?_)
  obtain ⟨c, rfl, q⟩ := h
  have nd := scHouse.nd
  refine ⟨_, PSs.nox (pss_cons (ps_if (pt_cmpR op_gt (pe_op op_mod (pe_callG GM hr (by decide) rfl (pa_cons (pv 0) (pa_cons pe_int pa_nil))) pe_int) pe_int (nomark _))
      (pss_one (ps_ret (pe_callG GP hr (by decide) rfl (pa_cons (pv 0) (pa_cons (pe_callG GF hr (by decide) rfl (pa_cons (pv 0) (pa_cons pe_int pa_nil))) pa_nil))))) pss_nil)
    (pss_cons (ps_setLc (i := 1) (own := [("_law_k", 2)]) (g := gName 2) (tt := tYes) (by rfl) nd rfl rfl (sw_true rfl rfl rfl (by decide +kernel)) (pi_range1 rfl T.range (pa_cons (pe_op op_add pe_int (pe_op op_mod (pe_callG GM hr (by decide) rfl (pa_cons (pv 0) (pa_cons pe_int pa_nil))) pe_int)) pa_nil))
      (blkOk_by (N := ["_law_cell", "_law_some", "_law_k", "_law_one"]) (sc := defScope sHouse) (by decide +kernel)) (fun _ _ _ _ _ => pg_name (i := 2) nd rfl (Or.inl rfl)) (fun _ _ _ _ _ => pts_nil)
      (fun _ _ _ _ _ => pe_callG GM hr (by decide) rfl (pa_cons (pv 0) (pa_cons (pe_op op_add pe_int (pv 2)) pa_nil))))
    (pss_one (ps_ret (pe_tup (pa_cons pe_str (pa_cons (pe_lc (own := [("_law_one", 3)]) (g := gName 3) (tt := tYes) rfl nd (pi_list (pv 1)) (blkOk_by (N := ["_law_cell", "_law_some", "_law_k", "_law_one"]) (sc := defScope sHouse) (by decide +kernel))
      (fun _ _ _ _ _ => pg_name (i := 3) nd rfl (Or.inl rfl)) (fun _ _ _ _ _ => pts_nil) (fun _ _ _ _ _ => pe_callG GP hr (by decide) rfl (pa_cons (pv 3) (pa_cons (pe_callG GF hr (by decide) rfl (pa_cons (pv 3) (pa_cons pe_int pa_nil))) pa_nil)))) pa_nil))))))), ?_⟩
  refine ⟨_, rfl, c, 270, rfl, fun n1 _ _ => ⟨_, _, rfl, rfl, (by show (0 : Int) < _; decide), ?_⟩⟩
  refine ⟨_, _, rfl, rfl, _, rfl, ite2 (fun _ => ?_) (fun _ => ?_)⟩
  · refine ⟨_, rfl, _, rfl, c, 4, rfl, by decide, by decide, fun z H1 s1 fz => ?_⟩
    refine ⟨c, z, rfl, fz.mono (by decide), fun a p H2 s2 ok hn => ?_⟩
    exact q a (.plain p) H2 (s1.trans s2) ok hn.1
  · refine ⟨_, rfl, c, 271, rfl, fun n2 _ _ => ⟨_, _, rfl, rfl, (by show (0 : Int) < _; decide), ?_⟩⟩
    have hb := emod_bd n2 (m := 3) (by decide)
    refine ⟨_, _, rfl, rfl, _, rfl, by omega, by omega, fun D nD => ?_⟩
    refine lc_range (lo := 0) (n := (1 + n2 % 3).toNat) (fun i H2 => Same H H2 ∧ ∃ ns : List Int, H2 D = some (.lst (ns.map V.int)) ∧ ns.length = i) ⟨same_upd nD, [], upd_same, rfl⟩ (fun i H2 hi hh => ?_) (fun H2 hh => ?_)
    · obtain ⟨sm, ns, hD, hl⟩ := hh
      refine ⟨rfl, lc_yes ?_⟩
      refine ⟨_, rfl, _, rfl, _, _, rfl, rfl, c, _, rfl, fun n3 _ _ => ?_⟩
      refine ⟨_, hD, by rw [List.length_map]; exact small1000 (by omega), upd_free sm nD, ns ++ [n3], ?_, ?_⟩
      · rw [upd_same, List.map_append]
        rfl
      · rw [List.length_append, hl]
        rfl
    · obtain ⟨sm, ns, hD, hl⟩ := hh
      refine ⟨_, rfl, D, rfl, ⟨_, SqL.of hD⟩, fun B nB => ?_⟩
      refine lc_list (xs := ns.map V.int) (fun i H3 => Same H2 H3 ∧ ∃ (as : List Addr) (ps : List PT), H3 B = some (.lst (as.map V.ref)) ∧ as.length = i ∧ Each (fun a p => PTold (era H3 B) a p) as ps ∧ ∀ p ∈ ps, p.Ok) ⟨same_upd nB, [], [], upd_same, rfl, Each.nil, fun p hp => (by cases hp)⟩ (fun i H3 _ hh => SqL.of (hh.1 _ _ hD)) (fun i x H3 hx hh => ?_) (fun H3 hh => ?_)
      · obtain ⟨s3, as, ps, hB, hla, he, hok⟩ := hh
        rw [List.getElem?_map] at hx
        obtain ⟨y, hy, rfl⟩ := Option.map_eq_some_iff.mp hx
        have hi : i < ns.length := (List.getElem?_eq_some_iff.mp hy).1
        refine ⟨rfl, lc_yes ?_⟩
        refine ⟨_, rfl, _, rfl, y, 4, rfl, by decide, by decide, fun z H4 s4 fz => ?_⟩
        refine ⟨y, z, rfl, fz.mono (by decide), fun a p H5 s5 ok hn => ?_⟩
        have s45 := s4.trans s5
        refine ⟨_, s45 _ _ hB, by rw [List.length_map]; exact small1000 (by omega), upd_free (s3.trans s45) nB, as ++ [a], ps ++ [p], ?_, ?_, ?_, fun r hr => ?_⟩
        · rw [upd_same, List.map_append]
          rfl
        · rw [List.length_append, hla]
          rfl
        · rw [era_upd2]
          exact (he.imp fun a p z => z.ext (era_mono s45)).snoc (hn.2 _ _ (s4 _ _ hB))
        · rcases List.mem_append.mp hr with y | y
          · exact hok r y
          · rw [List.mem_singleton.mp y]
            exact ok
      · obtain ⟨s3, as, ps, hB, hla, he, hok⟩ := hh
        refine ⟨(show 2 ≤ sizeLine by decide), fun p np => ?_⟩
        have s4 : Same H3 (upd H3 p (.tup [.str "first", .ref B])) := same_upd np
        have hlp := he.len
        rw [List.length_map] at hla
        exact q p (.first ps) _ (sm.trans (s3.trans s4)) ⟨⟨by omega, by omega⟩, hok⟩ ⟨B, as, upd_same, s4 _ _ hB, he.imp fun a p z => (z.ext era_of).ext (Ext.ofS s4)⟩
end
end K55
set_option maxHeartbeats 4100000
/-! k55: what the law reads off a told rule -/
namespace K55
open PySem PySem.Spec PyProof.Rows L2 LamX NdefX
def spToP : Sp := fun vs H Q _ => ∃ (a : Addr) (k : Int) (b : Bool) (t : Int) (p : PT), vs = [.ref a, .int k, .bl b, .int t] ∧ PTold H a p ∧ ∀ H', Same H H' → Q (optV (p.to k b t)) H'
def spToF : Sp := fun vs H Q _ => ∃ (a : Addr) (k : Int) (b : Bool) (t : Int) (ps : List PT), vs = [.ref a, .int k, .bl b, .int t] ∧ ToldAt H a (.first ps) ∧ ps.length ≤ 6 ∧ ∀ H', Same H H' → Q (optV ((Told.first ps).to k b t)) H'
def spTo : Sp := fun vs H Q _ => ∃ (a : Addr) (k : Int) (b : Bool) (t : Int) (u : Told), vs = [.ref a, .int k, .bl b, .int t] ∧ ToldAt H a u ∧ u.Ok ∧ ∀ H', Same H H' → Q (optV (u.to k b t)) H'
theorem hours_leaf {lo hi k t : Int} {b g : Bool} {z : Str} (h : g = inHours lo hi (t % 86400)) : (if g = true then V.str z else .non) = optV ((PT.hours lo hi z).to k b t) := by
  show _ = optV (if inHours lo hi (t % 86400) = true then some z else none)
  rw [← h]
  cases g <;> rfl
theorem g_one {g : Bool} {last : V} {o : Option Str} (h : (if g = true then last else .non) = optV o) : atI [V.non, last] (if g = true then (1 : Int) else 0) = some (optV o) := by
  rw [← h]
  cases g <;> rfl
section
variable {P : Program} {w : World} {K : PySem.W.Frag} {mg : Str → Option Value} {base : Heap} {f : Addr} {fd : FuncData} {C : CA}
theorem scTo : FnScope ["_law_told", "_law_asker", "_law_busy", "_law_time_here", "_law_numbers", "_law_good", "_law_second", "_law_one", "_law_number"] ["_law_told", "_law_asker", "_law_busy", "_law_time_here"] (defScope sTo) := ⟨rfl, rfl, rfl, by decide +kernel, rfl, by decide +kernel, by decide +kernel⟩
theorem ok_toP (F : FnP K "_law_to" "_law_to" sTo f fd) (T : Txt w K mg C) : FnOk P w K mg base CX0 1 f fd ["_law_told", "_law_asker", "_law_busy", "_law_time_here"] spToP := by
  refine F.ok scTo (fun vs H Q E h => by obtain ⟨a, k, b, t, p, rfl, _⟩ := h; rfl) (fun cdv A outer s H vs Q E hr h => ?_)
  obtain ⟨a, k, b, t, p, rfl, ha, q⟩ := h
  have nd := scTo.nd
  refine ⟨_, PSs.nox (pss_cons (ps_if (pt_cmpR op_eq (pe_ix ix_tup (pv 0) pe_int (fun _ _ => rfl)) pe_str (nomark _)) pss_never pss_nil)
    (pss_cons (ps_set (i := 5) nd rfl (Or.inl rfl) (pe_or (pe_cmpR op_eq (pe_ix ix_tup (pv 0) pe_int (fun _ _ => rfl)) pe_str (nomark _))
      (pe_or (pe_and (pe_cmpR op_eq (pe_ix ix_tup (pv 0) pe_int (fun _ _ => rfl)) pe_str (nomark _)) (pe_one (pv 2)))
      (pe_one (pe_and (pe_cmpR op_eq (pe_ix ix_tup (pv 0) pe_int (fun _ _ => rfl)) pe_str (nomark _)) (pe_one (pe_cmpR op_in_seq (pv 1) (pe_ix ix_tup (pv 0) pe_int (fun _ _ => rfl)) (by rfl))))))))
    (pss_cons (ps_if (pt_cmpR op_eq (pe_ix ix_tup (pv 0) pe_int (fun _ _ => rfl)) pe_str (nomark _))
      (pss_cons (ps_set (i := 6) nd rfl (Or.inl rfl) (pe_op op_mod (pv 3) pe_int))
      (pss_cons (ps_set (i := 5) nd rfl (Or.inl rfl) (pe_chain op_le op_lt (pe_ix ix_tup (pv 0) pe_int (fun _ _ => rfl)) (pv 6) (pe_ix ix_tup (pv 0) pe_int (fun _ _ => rfl))))
      (pss_one (ps_if (pt_cmpR op_le (pe_ix ix_tup (pv 0) pe_int (fun _ _ => rfl)) (pe_ix ix_tup (pv 0) pe_int (fun _ _ => rfl)) (nomark _))
        (pss_one (ps_set (i := 5) nd rfl (Or.inl rfl) (pe_not (pe_chain op_le op_lt (pe_ix ix_tup (pv 0) pe_int (fun _ _ => rfl)) (pv 6) (pe_ix ix_tup (pv 0) pe_int (fun _ _ => rfl)))))) pss_nil)))) pss_nil)
    (pss_one (ps_ret (pe_ix ix_list (pe_lst (pa_cons pe_non (pa_cons (pe_ix ix_tup (pv 0) (pe_un un_neg pe_int) (fun _ _ => rfl)) pa_nil))) (pe_callTy call_int1 (by rfl) T.int (by decide +kernel) (pa_cons (pv 5) pa_nil)) (fun _ _ => rfl))))))), ?_⟩
  cases p with
  | stays =>
    have h0 : H a = some (.tup [.str "stays"]) := ha
    refine ⟨_, rfl, a, _, 0, .str "stays", rfl, rfl, SqT.of h0, rfl, rfl, _, rfl, strF (by decide +kernel) ?_⟩
    refine ⟨_, rfl, a, _, 0, .str "stays", rfl, rfl, SqT.of h0, rfl, rfl, _, rfl, strF (by decide +kernel) ?_⟩
    refine ⟨_, rfl, a, _, 0, .str "stays", rfl, rfl, SqT.of h0, rfl, rfl, _, rfl, strF (by decide +kernel) ⟨_, rfl, iteF ?_⟩⟩
    refine ⟨_, rfl, a, _, 0, .str "stays", rfl, rfl, SqT.of h0, rfl, rfl, _, rfl, strF (by decide +kernel) ?_⟩
    refine ⟨_, rfl, a, _, 0, .str "stays", rfl, rfl, SqT.of h0, rfl, rfl, _, rfl, strF (by decide +kernel) ?_⟩
    refine ⟨_, rfl, 1, rfl, a, _, -1, .str "stays", rfl, rfl, SqT.of h0, rfl, (show 2 ≤ sizeLine by decide), fun y ny => ⟨_, rfl, .inr ⟨false, rfl, ?_⟩⟩⟩
    exact ⟨y, _, _, _, rfl, rfl, SqL.of upd_same, g_one (g := false) (last := .str "stays") rfl, q _ (same_upd ny)⟩
  | always z =>
    have h0 : H a = some (.tup [.str "always", .str z]) := ha
    refine ⟨_, rfl, a, _, 0, .str "always", rfl, rfl, SqT.of h0, rfl, rfl, _, rfl, strF (by decide +kernel) ?_⟩
    refine ⟨_, rfl, a, _, 0, .str "always", rfl, rfl, SqT.of h0, rfl, rfl, _, rfl, strT ?_⟩
    refine ⟨_, rfl, a, _, 0, .str "always", rfl, rfl, SqT.of h0, rfl, rfl, _, rfl, strF (by decide +kernel) ?_⟩
    refine ⟨_, rfl, 1, rfl, a, _, -1, .str z, rfl, rfl, SqT.of h0, rfl, (show 2 ≤ sizeLine by decide), fun y ny => ⟨_, rfl, .inr ⟨true, rfl, ?_⟩⟩⟩
    exact ⟨y, _, _, _, rfl, rfl, SqL.of upd_same, g_one (g := true) (last := .str z) rfl, q _ (same_upd ny)⟩
  | busy z =>
    have h0 : H a = some (.tup [.str "busy", .str z]) := ha
    refine ⟨_, rfl, a, _, 0, .str "busy", rfl, rfl, SqT.of h0, rfl, rfl, _, rfl, strF (by decide +kernel) ?_⟩
    refine ⟨_, rfl, a, _, 0, .str "busy", rfl, rfl, SqT.of h0, rfl, rfl, _, rfl, strF (by decide +kernel) ?_⟩
    refine ⟨_, rfl, a, _, 0, .str "busy", rfl, rfl, SqT.of h0, rfl, rfl, _, rfl, strT ⟨_, rfl, _, rfl, ?_⟩⟩
    cases b with
    | true =>
      refine iteT ?_
      refine ⟨_, rfl, a, _, 0, .str "busy", rfl, rfl, SqT.of h0, rfl, rfl, _, rfl, strF (by decide +kernel) ?_⟩
      refine ⟨_, rfl, 1, rfl, a, _, -1, .str z, rfl, rfl, SqT.of h0, rfl, (show 2 ≤ sizeLine by decide), fun y ny => ⟨_, rfl, .inr ⟨true, rfl, ?_⟩⟩⟩
      exact ⟨y, _, _, _, rfl, rfl, SqL.of upd_same, g_one (g := true) (last := .str z) rfl, q _ (same_upd ny)⟩
    | false =>
      refine iteF ?_
      refine ⟨_, rfl, a, _, 0, .str "busy", rfl, rfl, SqT.of h0, rfl, rfl, _, rfl, strF (by decide +kernel) ?_⟩
      refine ⟨_, rfl, a, _, 0, .str "busy", rfl, rfl, SqT.of h0, rfl, rfl, _, rfl, strF (by decide +kernel) ?_⟩
      refine ⟨_, rfl, 1, rfl, a, _, -1, .str z, rfl, rfl, SqT.of h0, rfl, (show 2 ≤ sizeLine by decide), fun y ny => ⟨_, rfl, .inr ⟨false, rfl, ?_⟩⟩⟩
      exact ⟨y, _, _, _, rfl, rfl, SqL.of upd_same, g_one (g := false) (last := .str z) rfl, q _ (same_upd ny)⟩
  | hours lo hi z =>
    have h0 : H a = some (.tup [.str "hours", .int lo, .int hi, .str z]) := ha
    refine ⟨_, rfl, a, _, 0, .str "hours", rfl, rfl, SqT.of h0, rfl, rfl, _, rfl, strF (by decide +kernel) ?_⟩
    refine ⟨_, rfl, a, _, 0, .str "hours", rfl, rfl, SqT.of h0, rfl, rfl, _, rfl, strF (by decide +kernel) ?_⟩
    refine ⟨_, rfl, a, _, 0, .str "hours", rfl, rfl, SqT.of h0, rfl, rfl, _, rfl, strF (by decide +kernel) ⟨_, rfl, iteF ?_⟩⟩
    refine ⟨_, rfl, a, _, 0, .str "hours", rfl, rfl, SqT.of h0, rfl, rfl, _, rfl, strF (by decide +kernel) ?_⟩
    refine ⟨_, rfl, a, _, 0, .str "hours", rfl, rfl, SqT.of h0, rfl, rfl, _, rfl, strT ?_⟩
    refine ⟨_, rfl, _, _, rfl, rfl, (by show (0 : Int) < _; decide), ?_⟩
    refine ⟨_, rfl, a, _, 1, .int lo, rfl, rfl, SqT.of h0, rfl, _, rfl, _, _, rfl, rfl, _, rfl, ite2 (fun c1 => ?_) (fun c1 => ?_)⟩
    · refine ⟨_, rfl, a, _, 2, .int hi, rfl, rfl, SqT.of h0, rfl, _, _, rfl, rfl, ?_⟩
      refine ⟨_, rfl, a, _, 2, .int hi, rfl, rfl, SqT.of h0, rfl, _, rfl, a, _, 1, .int lo, rfl, rfl, SqT.of h0, rfl, _, _, rfl, rfl, _, rfl, ite2 (fun c2 => ?_) (fun c2 => ?_)⟩
      · refine ⟨_, rfl, a, _, 2, .int hi, rfl, rfl, SqT.of h0, rfl, _, rfl, _, _, rfl, rfl, _, rfl, ite2 (fun c3 => ?_) (fun c3 => ?_)⟩
        · refine ⟨_, rfl, a, _, 1, .int lo, rfl, rfl, SqT.of h0, rfl, _, _, rfl, rfl, _, rfl, ?_⟩
          refine ⟨_, rfl, 1, rfl, a, _, -1, .str z, rfl, rfl, SqT.of h0, rfl, (show 2 ≤ sizeLine by decide), fun y ny => ⟨_, rfl, .inr ⟨(!decide (t % 86400 < lo)), rfl, ?_⟩⟩⟩
          exact ⟨y, _, _, _, rfl, rfl, SqL.of upd_same, g_one (g := (!decide (t % 86400 < lo))) (last := .str z) (hours_leaf (by
          unfold inHours
          simp only [decide_eq_true_eq] at c1 c2
          try simp only [decide_eq_true_eq] at c3
          first
          | (simp [c1, c2] <;> omega)
          | (rw [if_pos c2, decide_eq_false c1, decide_eq_false (show ¬ t % 86400 < hi by omega), decide_eq_true (show t % 86400 < lo by omega)]; rfl))), q _ (same_upd ny)⟩
        · refine ⟨_, rfl, ?_⟩
          refine ⟨_, rfl, 1, rfl, a, _, -1, .str z, rfl, rfl, SqT.of h0, rfl, (show 2 ≤ sizeLine by decide), fun y ny => ⟨_, rfl, .inr ⟨(!false), rfl, ?_⟩⟩⟩
          exact ⟨y, _, _, _, rfl, rfl, SqL.of upd_same, g_one (g := (!false)) (last := .str z) (hours_leaf (by
          unfold inHours
          simp only [decide_eq_true_eq] at c1 c2
          try simp only [decide_eq_true_eq] at c3
          first
          | (simp [c1, c2] <;> omega)
          | (rw [if_pos c2, decide_eq_false c1, decide_eq_false (show ¬ t % 86400 < hi by omega), decide_eq_true (show t % 86400 < lo by omega)]; rfl))), q _ (same_upd ny)⟩
      · refine ⟨_, rfl, 1, rfl, a, _, -1, .str z, rfl, rfl, SqT.of h0, rfl, (show 2 ≤ sizeLine by decide), fun y ny => ⟨_, rfl, .inr ⟨(decide (t % 86400 < hi)), rfl, ?_⟩⟩⟩
        exact ⟨y, _, _, _, rfl, rfl, SqL.of upd_same, g_one (g := (decide (t % 86400 < hi))) (last := .str z) (hours_leaf (by
          unfold inHours
          simp only [decide_eq_true_eq] at c1 c2
          try simp only [decide_eq_true_eq] at c3
          first
          | (simp [c1, c2] <;> omega)
          | (rw [if_pos c2, decide_eq_false c1, decide_eq_false (show ¬ t % 86400 < hi by omega), decide_eq_true (show t % 86400 < lo by omega)]; rfl))), q _ (same_upd ny)⟩
    · refine ⟨_, rfl, a, _, 2, .int hi, rfl, rfl, SqT.of h0, rfl, _, rfl, a, _, 1, .int lo, rfl, rfl, SqT.of h0, rfl, _, _, rfl, rfl, _, rfl, ite2 (fun c2 => ?_) (fun c2 => ?_)⟩
      · refine ⟨_, rfl, a, _, 2, .int hi, rfl, rfl, SqT.of h0, rfl, _, rfl, _, _, rfl, rfl, _, rfl, ite2 (fun c3 => ?_) (fun c3 => ?_)⟩
        · refine ⟨_, rfl, a, _, 1, .int lo, rfl, rfl, SqT.of h0, rfl, _, _, rfl, rfl, _, rfl, ?_⟩
          refine ⟨_, rfl, 1, rfl, a, _, -1, .str z, rfl, rfl, SqT.of h0, rfl, (show 2 ≤ sizeLine by decide), fun y ny => ⟨_, rfl, .inr ⟨(!decide (t % 86400 < lo)), rfl, ?_⟩⟩⟩
          exact ⟨y, _, _, _, rfl, rfl, SqL.of upd_same, g_one (g := (!decide (t % 86400 < lo))) (last := .str z) (hours_leaf (by
          unfold inHours
          simp only [decide_eq_true_eq] at c1 c2
          try simp only [decide_eq_true_eq] at c3
          first
          | (simp [c1, c2] <;> omega)
          | (rw [if_pos c2, decide_eq_false c1, decide_eq_false (show ¬ t % 86400 < hi by omega), decide_eq_true (show t % 86400 < lo by omega)]; rfl))), q _ (same_upd ny)⟩
        · refine ⟨_, rfl, ?_⟩
          refine ⟨_, rfl, 1, rfl, a, _, -1, .str z, rfl, rfl, SqT.of h0, rfl, (show 2 ≤ sizeLine by decide), fun y ny => ⟨_, rfl, .inr ⟨(!false), rfl, ?_⟩⟩⟩
          exact ⟨y, _, _, _, rfl, rfl, SqL.of upd_same, g_one (g := (!false)) (last := .str z) (hours_leaf (by
          unfold inHours
          simp only [decide_eq_true_eq] at c1 c2
          try simp only [decide_eq_true_eq] at c3
          first
          | (simp [c1, c2] <;> omega)
          | (rw [if_pos c2, decide_eq_false c1, decide_eq_false (show ¬ t % 86400 < hi by omega), decide_eq_true (show t % 86400 < lo by omega)]; rfl))), q _ (same_upd ny)⟩
      · refine ⟨_, rfl, 1, rfl, a, _, -1, .str z, rfl, rfl, SqT.of h0, rfl, (show 2 ≤ sizeLine by decide), fun y ny => ⟨_, rfl, .inr ⟨false, rfl, ?_⟩⟩⟩
        exact ⟨y, _, _, _, rfl, rfl, SqL.of upd_same, g_one (g := false) (last := .str z) (hours_leaf (by
          unfold inHours
          simp only [decide_eq_true_eq] at c1 c2
          try simp only [decide_eq_true_eq] at c3
          first
          | (simp [c1, c2] <;> omega)
          | (rw [if_pos c2, decide_eq_false c1, decide_eq_false (show ¬ t % 86400 < hi by omega), decide_eq_true (show t % 86400 < lo by omega)]; rfl))), q _ (same_upd ny)⟩
  | fromW ws z =>
    obtain ⟨l, h0, hl⟩ := ha
    refine ⟨_, rfl, a, _, 0, .str "from", rfl, rfl, SqT.of h0, rfl, rfl, _, rfl, strF (by decide +kernel) ?_⟩
    refine ⟨_, rfl, a, _, 0, .str "from", rfl, rfl, SqT.of h0, rfl, rfl, _, rfl, strF (by decide +kernel) ?_⟩
    refine ⟨_, rfl, a, _, 0, .str "from", rfl, rfl, SqT.of h0, rfl, rfl, _, rfl, strF (by decide +kernel) ⟨_, rfl, iteF ?_⟩⟩
    refine ⟨_, rfl, a, _, 0, .str "from", rfl, rfl, SqT.of h0, rfl, rfl, _, rfl, strT ?_⟩
    refine ⟨_, rfl, _, rfl, a, _, 1, .ref l, rfl, rfl, SqT.of h0, rfl, l, _, rfl, .inl (SqL.of hl), rfl, flat_ints ws, ?_⟩
    refine ⟨_, rfl, a, _, 0, .str "from", rfl, rfl, SqT.of h0, rfl, rfl, _, rfl, strF (by decide +kernel) ?_⟩
    have ei : (inV (.int k) (ws.map V.int)) = decide (k ∈ ws) := inV_ints k ws
    refine ⟨_, rfl, 1, rfl, a, _, -1, .str z, rfl, rfl, SqT.of h0, rfl, (show 2 ≤ sizeLine by decide), fun y ny => ⟨_, rfl, .inr ⟨(inV (.int k) (ws.map V.int)), rfl, ?_⟩⟩⟩
    exact ⟨y, _, _, _, rfl, rfl, SqL.of upd_same, g_one (g := (inV (.int k) (ws.map V.int))) (last := .str z) (by
      rw [ei]
      show _ = optV (if k ∈ ws then some z else none)
      by_cases c : k ∈ ws
      · rw [decide_eq_true c, if_pos c]; rfl
      · rw [decide_eq_false c, if_neg c]; rfl), q _ (same_upd ny)⟩
end
end K55
set_option maxHeartbeats 4100000
/-! k55: told rules that lead on; what comes next -/
namespace K55
open PySem PySem.Spec PyProof.Rows L2 LamX NdefX
theorem head_first (ps : List PT) (k : Int) (b : Bool) (t : Int) : atI (((ps.filterMap fun p => p.to k b t).map V.str) ++ [V.non]) 0 = some (optV ((Told.first ps).to k b t)) := by
  have e : (Told.first ps).to k b t = (ps.filterMap fun p => p.to k b t).head? := by
    rw [List.head?_filterMap]
    rfl
  rw [e]
  cases h : ps.filterMap fun p => p.to k b t with
  | nil => rfl
  | cons y r =>
    unfold atI ixN
    rw [if_pos (by decide), if_pos (by rw [List.length_append, List.map_cons, List.length_cons]; omega)]
    rfl
structure HousesAt (H : Hp) (d : Addr) (hs : Houses) (n : Nat) : Prop where
  ex : ∃ kvs : List (Key × V), H d = some (.dK kvs) ∧ kvs.length ≤ n ∧ ∀ w, match hs w with
    | none => valV kvs (Sum.inl w : Key) = none
    | some u => ∃ a, valV kvs (Sum.inl w : Key) = some (.ref a) ∧ ToldAt H a u
theorem HousesAt.ext {H H' : Hp} {d : Addr} {hs : Houses} {n : Nat} (h : HousesAt H d hs n) (e : Ext H H') : HousesAt H' d hs n := by
  obtain ⟨kvs, h1, h2, h3⟩ := h.ex
  refine ⟨kvs, ext_dK e h1, h2, fun w => ?_⟩
  have q := h3 w
  cases z : hs w with
  | none => rw [z] at q; exact q
  | some u =>
    rw [z] at q
    obtain ⟨a, b, c⟩ := q
    exact ⟨a, b, c.ext e⟩
def spNext : Sp := fun vs H Q _ => ∃ (d l : Addr) (w a t : Int) (hs : Houses) (n : Nat) (held : List Int), vs = [.ref d, .ref l, .int w, .int a, .int t] ∧ HousesAt H d hs n ∧ HousesOk hs ∧ H l = some (.lst (held.map V.int)) ∧ ∀ H', Same H H' → Q (optV (nextOf hs held a t w)) H'
section
variable {P : Program} {w : World} {K : PySem.W.Frag} {mg : Str → Option Value} {base : Heap} {f : Addr} {fd : FuncData} {C : CA}
theorem ok_toF (F : FnP K "_law_to" "_law_to" sTo f fd) (T : Txt w K mg C) (G1 : Glob P w K mg base 1 "_law_to" ["_law_told", "_law_asker", "_law_busy", "_law_time_here"] spToP) : FnOk P w K mg base CX0 2 f fd ["_law_told", "_law_asker", "_law_busy", "_law_time_here"] spToF := by
  refine F.ok scTo (fun vs H Q E h => by obtain ⟨a, k, b, t, p, rfl, _⟩ := h; rfl) (fun cdv A outer s H vs Q E hr h => ?_)
  obtain ⟨a, k, b, t, ps, rfl, ⟨l, as, h0, hl, he⟩, h6, q⟩ := h
  have nd := scTo.nd
  refine ⟨_, PSs.nox (pss_cons (ps_if (pt_cmpR op_eq (pe_ix ix_tup (pv 0) pe_int (fun _ _ => rfl)) pe_str (nomark _))
    (pss_cons (ps_setLc (i := 4) (own := [("_law_one", 7)]) (g := gName 7) (tt := tYes) (by rfl) nd rfl rfl (sw_true rfl rfl rfl (by decide +kernel)) (pi_list (pe_ix ix_tup (pv 0) pe_int (fun _ _ => rfl)))
      (blkOk_by (N := ["_law_told", "_law_asker", "_law_busy", "_law_time_here", "_law_numbers", "_law_good", "_law_second", "_law_one", "_law_number"]) (sc := defScope sTo) (by decide +kernel)) (fun _ _ _ _ _ => pg_name (i := 7) nd rfl (Or.inl rfl)) (fun _ _ _ _ _ => pts_nil)
      (fun _ _ _ _ _ => pe_callG G1 hr (by decide) rfl (pa_cons (pv 7) (pa_cons (pv 1) (pa_cons (pv 2) (pa_cons (pv 3) pa_nil))))))
    (pss_one (ps_ret (pe_ix ix_list (pe_op op_cat (pe_lc (own := [("_law_number", 8)]) (g := gName 8) rfl nd (pi_list (pv 4))
        (blkOk_by (N := ["_law_told", "_law_asker", "_law_busy", "_law_time_here", "_law_numbers", "_law_good", "_law_second", "_law_one", "_law_number"]) (sc := defScope sTo) (by decide +kernel)) (fun _ _ _ _ _ => pg_name (i := 8) nd rfl (Or.inl rfl))
        (fun _ _ _ _ _ => pts_one (pt_cmpR op_notN (pv 8) pe_non (nomark _))) (fun _ _ _ _ _ => pv 8)) (pe_lst (pa_cons pe_non pa_nil))) pe_int (fun _ _ => rfl))))) pss_nil) pss_never), ?_⟩
  refine ⟨_, rfl, a, _, 0, .str "first", rfl, rfl, SqT.of h0, rfl, rfl, _, rfl, strT ?_⟩
  refine ⟨_, rfl, a, _, 1, .ref l, rfl, rfl, SqT.of h0, rfl, l, rfl, ⟨_, SqL.of hl⟩, fun D nD => ?_⟩
  have hlen := he.len
  refine lc_list (xs := as.map V.ref) (fun i H2 => Same H H2 ∧ H2 D = some (.lst ((ps.take i).map fun p => optV (p.to k b t)))) ⟨same_upd nD, upd_same⟩ (fun i H2 _ hh => SqL.of (hh.1 _ _ hl)) (fun i x H2 hx hh => ?_) (fun H2 hh => ?_)
  · obtain ⟨sm, hD⟩ := hh
    rw [List.getElem?_map] at hx
    obtain ⟨y, hy, rfl⟩ := Option.map_eq_some_iff.mp hx
    obtain ⟨p, hp, hat⟩ := he.get hy
    refine ⟨rfl, lc_yes ?_⟩
    refine ⟨_, rfl, _, rfl, _, rfl, _, rfl, y, k, b, t, p, rfl, hat.ext (Ext.ofS sm), fun H3 s3 => ?_⟩
    refine ⟨_, s3 _ _ hD, ?_, upd_free (sm.trans s3) nD, ?_⟩
    · rw [List.length_map, List.length_take]
      exact small1000 (by omega)
    · rw [upd_same, List.take_add_one, hp, List.map_append]
      rfl
  · obtain ⟨sm, hD⟩ := hh
    rw [List.length_map, hlen, List.take_length] at hD
    refine ⟨_, rfl, D, rfl, ⟨_, SqL.of hD⟩, fun B nB => ?_⟩
    refine lc_list (xs := ps.map fun p => optV (p.to k b t)) (fun i H3 => Same H2 H3 ∧ H3 B = some (.lst (((ps.take i).filterMap fun p => p.to k b t).map V.str))) ⟨same_upd nB, upd_same⟩ (fun i H3 _ hh => SqL.of (hh.1 _ _ hD)) (fun i x H3 hx hh => ?_) (fun H3 hh => ?_)
    · obtain ⟨s3, hB⟩ := hh
      rw [List.getElem?_map] at hx
      obtain ⟨p, hp, rfl⟩ := Option.map_eq_some_iff.mp hx
      have et : ps.take (i + 1) = ps.take i ++ [p] := by rw [List.take_add_one, hp]; rfl
      refine ⟨rfl, ?_⟩
      refine ⟨_, rfl, rfl, _, rfl, ?_⟩
      cases eo : p.to k b t with
      | none =>
        refine iteF ⟨s3, ?_⟩
        rw [et, List.filterMap_append, List.filterMap_cons, eo, List.filterMap_nil, List.append_nil]
        exact hB
      | some z =>
        refine iteT ⟨_, rfl, _, hB, ?_, upd_free s3 nB, ?_⟩
        · rw [List.length_map]
          have h1 := List.length_filterMap_le (fun p : PT => p.to k b t) (ps.take i)
          rw [List.length_take] at h1
          exact small1000 (by omega)
        · rw [upd_same, et, List.filterMap_append, List.filterMap_cons, eo, List.filterMap_nil, List.map_append]
          rfl
    · obtain ⟨s3, hB⟩ := hh
      rw [List.length_map, List.take_length] at hB
      refine ⟨(show 1 ≤ sizeLine by decide), fun e ne => ?_⟩
      have s4 : Same H3 (upd H3 e (.lst [.non])) := same_upd ne
      refine ⟨B, e, _, _, rfl, rfl, s4 _ _ hB, upd_same, ?_, fun g ng => ?_⟩
      · rw [List.length_map]
        have h1 := List.length_filterMap_le (fun p : PT => p.to k b t) ps
        exact Nat.le_of_lt (small1000 (by show _ + 1 ≤ 1000; omega))
      · exact ⟨g, _, 0, _, rfl, rfl, SqL.of upd_same, head_first ps k b t, q _ (sm.trans (s3.trans (s4.trans (same_upd ng))))⟩
theorem ok_to (G1 : FnOk P w K mg base CX0 1 f fd ["_law_told", "_law_asker", "_law_busy", "_law_time_here"] spToP) (G2 : FnOk P w K mg base CX0 2 f fd ["_law_told", "_law_asker", "_law_busy", "_law_time_here"] spToF) : FnOk P w K mg base CX0 2 f fd ["_law_told", "_law_asker", "_law_busy", "_law_time_here"] spTo := by
  refine (fn_or (G1.mono (by decide)) G2).imp fun vs H Q E h => ?_
  obtain ⟨a, k, b, t, u, rfl, ha, ok, q⟩ := h
  cases u with
  | plain p => exact .inl ⟨a, k, b, t, p, rfl, ha, q⟩
  | first ps => exact .inr ⟨a, k, b, t, ps, rfl, ha, ok.1.2, q⟩
theorem scNext : FnScope ["_law_houses", "_law_held", "_law_wire", "_law_asker", "_law_time_here"] ["_law_houses", "_law_held", "_law_wire", "_law_asker", "_law_time_here"] (defScope sNext) := ⟨rfl, rfl, rfl, by decide +kernel, rfl, by decide +kernel, by decide +kernel⟩
theorem ok_next (F : FnP K "_law_next" "_law_next" sNext f fd) (G : Glob P w K mg base 2 "_law_to" ["_law_told", "_law_asker", "_law_busy", "_law_time_here"] spTo) : FnOk P w K mg base CX0 3 f fd ["_law_houses", "_law_held", "_law_wire", "_law_asker", "_law_time_here"] spNext := by
  refine F.ok scNext (fun vs H Q E h => by obtain ⟨d, l, w, a, t, hs, n, held, rfl, _⟩ := h; rfl) (fun cdv A outer s H vs Q E hr h => ?_)
  obtain ⟨d, l, wi, a, t, hs, n, held, rfl, ⟨kvs, hd, hn, hk⟩, ok, hl, q⟩ := h
  have hu := hu_of hr
  refine ⟨_, PSs.nox (pss_cons (ps_if (pt_cmp (pc_dnotin hu (pv 2) (pv 0))) (pss_one (ps_ret pe_non)) pss_nil)
    (pss_one (ps_ret (pe_callG G hr (by decide) rfl (pa_cons (pe_dget hu (pv 0) (pv 2) (fun _ _ => rfl)) (pa_cons (pv 3) (pa_cons (pe_cmpR op_in_seq (pv 2) (pv 1) (by rfl)) (pa_cons (pv 4) pa_nil)))))))), ?_⟩
  refine ⟨_, rfl, _, rfl, d, _, rfl, DGet.k (k := Sum.inl wi) hd, _, rfl, ?_⟩
  have h3 := hk wi
  cases hh : hs wi with
  | none =>
    rw [hh] at h3
    rw [h3]
    have hno : nextOf hs held a t wi = none := by unfold nextOf; rw [hh]; rfl
    rw [hno] at q
    exact iteT (q H (Same.refl H))
  | some u =>
    rw [hh] at h3
    obtain ⟨at', hv, hat⟩ := h3
    rw [hv]
    have hno : nextOf hs held a t wi = u.to a (decide (wi ∈ held)) t := by unfold nextOf; rw [hh]; rfl
    rw [hno] at q
    refine iteF ⟨_, rfl, _, rfl, d, .ref at', rfl, ?_, ?_⟩
    · have hd2 := DGet.k (k := Sum.inl wi) hd
      rw [hv] at hd2
      exact hd2
    refine ⟨_, rfl, _, rfl, _, rfl, l, _, rfl, .inl (SqL.of hl), rfl, flat_ints held, _, rfl, at', a, decide (wi ∈ held), t, u, ?_, hat, ok wi u hh, q⟩
    rw [show (inV (.int wi) (held.map V.int)) = decide (wi ∈ held) from inV_ints wi held]
    rfl
end
end K55
set_option maxHeartbeats 4100000
/-! k55: sorted by the sizes of the beginnings; what the law finds -/
namespace K55
open PySem PySem.Spec PyProof.Rows L2 LamX NdefX
def forIter (s : Stmt) : Expr := match s with
  | .For _ it _ _ _ => it
  | _ => .Constant .none 0 ⟨0, 0, 0, 0⟩
def callKw (i : Nat) (e : Expr) : Expr := match e with
  | .Call _ _ ks _ => ((ks.map fun k => k.value)).getD i (.Constant .none 0 ⟨0, 0, 0, 0⟩)
  | _ => .Constant .none 0 ⟨0, 0, 0, 0⟩
abbrev kLam : Expr := callKw 0 (forIter ((defBody sFound).getD 1 (.Pass ⟨0, 0, 0, 0⟩)))
def qKey : Str := (("_law_found" : Str) ++ (".<locals>." : Str)) ++ ("<lambda>" : Str)
abbrev keyF (c' : Addr) : NF := lamF qKey (lamA kLam) (lamS kLam) [] c'
abbrev TupAt (H : Hp) : Addr → Str × Int → Prop := fun a p => H a = some (.tup [.str p.1, .int p.2])
section
variable {P : Program} {w : World}
/-- one call of the key -/
theorem key_turn {A : Around} {s : Shared} {f a c' : Addr} {its : Array Value} {z : Str} {t : Tok} {pm ctv : Value} {mg mb : Str → Option Value} (hroom : A.depth < recursionLimit) (hf : s.heap.get? f = some (PySem.W.kla_obj "<lambda>" qKey (lamA kLam) (lamB kLam) (lamS kLam) [] pm c' ctv))
    (hc : s.heap.CodeRec (.ref c') qKey) (lim : s.heap.NoLimit) (hg : s.heap.Ns mainGlobals mg) (hm : mg "len" = none) (hb : s.heap.Ns builtinsNs mb) (hv : mb "len" = some (.builtin "len")) (ht : IsTup s.heap a its) (h0 : its[0]? = some (.str z t)) (hz : z.length ≤ 1000) :
    wpAny (model P w) A (call (.ref f) [.ref a]) (PySem.W.KeyPure (.int z.length) s) (fun _ _ => False) s := by
  refine wpAny_call ?_
  refine PySem.W.kla_callFunE hroom hf rfl rfl rfl rfl hc ?_
  have hbind : bindArgs (PySem.W.kla_fn "<lambda>" qKey (lamA kLam) (lamB kLam) (lamS kLam) [] pm (.ref c') ctv) ⟨[.ref a], []⟩ = (pure [(("_law_row" : Str), Value.ref a)] : Sem (List (Str × Value))) := rfl
  rw [hbind]
  refine wpAny_pure (wpAny_newFunctionEnv (show ∀ x ∈ (lamS kLam).names, x.2 ≠ .cell by decide +kernel) (fun x hx => by rw [List.mem_singleton.mp hx]; rfl) (fun h1 hns hsb => ⟨lim.fresh _ hsb, ?_⟩) rfl)
  have kp : ∀ d o, s.heap.get? d = some o → h1.get? d = some o := fun d o e => hsb.extBut d o (Nat.ne_of_lt (Heap.lt_size e)) (Heap.get?_push_of_some _ e)
  refine PySem.W.kla_codeExpr ?_
  refine wpAny_Call_Name_kw (Calls.Name_function_global rfl rfl (Calls.loadGlobal_builtin (hg.keeps kp) hm (hb.keeps kp) hv ?_))
  refine PyProof.Rows.callWith_builtin1 (Calls.spliced_cons ?_)
  refine PyProof.Rows.Subscript_ (wpAny_Name (wpAny_loadName_local (v := .ref a) rfl rfl hns rfl ?_))
  refine wpAny_Constant_int ?_
  have ht1 : IsTup h1 a its := by
    obtain ⟨o, e, h2, n, d⟩ := ht
    exact ⟨o, kp _ _ e, h2, n, d⟩
  have hsz : 0 < its.size := by
    cases e : its.size with
    | zero =>
      have e2 : its = #[] := Array.size_eq_zero_iff.mp e
      rw [e2] at h0
      cases h0
    | succ n => exact Nat.succ_pos n
  have hix : seqIndex? 0 its.size = some 0 := by
    unfold seqIndex?
    simp only [Int.lt_irrefl, if_false]
    simp [hsz]
  refine subscriptTail_builtinR (x := .str z t) (s := _) (T := "tuple") ht1.typeIs slot_tuple_getitem.lookup (getItem_tuple (j := 0) ht1 (by decide) (by decide) hix h0 ⟨rfl, ?_⟩) rfl
  refine Calls.spliced_nil (len_str (by omega) ?_)
  exact ⟨h1, _, rfl, kp, .int _ _⟩
end
theorem each_zip : ∀ (as : List Addr) (rows : PRows) (its : List Value), as.length = rows.length → Vals (as.map V.ref) its → PySem.W.EachIs (fun (v : Value) (x : Addr × (Str × Int)) => v = .ref x.1) its (as.zip rows)
  | [], [], _, _, .nil => .nil
  | a :: as, r :: rows, _, hl, .cons h t => .cons (show _ = Value.ref a from h) (each_zip as rows _ (Nat.succ.inj hl) t)
  | [], _ :: _, _, hl, _ => by cases hl
  | _ :: _, [], _, hl, _ => by cases hl
theorem vals_zip : ∀ (zs : List (Addr × (Str × Int))) (out : List Value), PySem.W.EachIs (fun (v : Value) (x : Addr × (Str × Int)) => v = .ref x.1) out zs → Vals ((zs.map Prod.fst).map V.ref) out
  | [], _, .nil => .nil
  | z :: zs, _, .cons h t => .cons (show RelV (.ref z.1) _ from h) (vals_zip zs _ t)
def rSortK : List V → List V → Hp → VK → Prop := fun xs zs H Q => ∃ (l f c' : Addr) (as : List Addr) (rows : PRows), xs = [.ref l] ∧ zs = [.ref f] ∧ H l = some (.lst (as.map V.ref)) ∧ Each (TupAt H) as rows ∧ rows.length ≤ 1000 ∧ (∀ p ∈ rows, p.1.length ≤ 1000) ∧
  H f = some (LamO f (keyF c') (lamB kLam)) ∧ H c' = some (CodeO c' qKey) ∧ ∀ (bs : List Addr) (rows' : PRows) (p : Addr), Each (TupAt H) bs rows' → rows'.Perm rows → rows'.Pairwise (fun p q => p.1.length ≤ q.1.length) → H p = none → Q (.ref p) (upd H p (.lst (bs.map V.ref)))
section
variable {X : Cx}
theorem call_sortK (hr : Room 1 X.A) (hm : X.mg "len" = none) : CallRK X (.builtin "sorted") ["key"] rSortK := by
  intro pins s σ H xs zs us ws Q I rx rz h
  obtain ⟨l, f, c', as, rows, rfl, rfl, hl, he, h1000, hsz, hf, hc, q⟩ := h
  obtain ⟨u, rfl, ru⟩ := vals1 rx
  obtain ⟨g, rfl, rg⟩ := vals1 rz
  cases ru
  cases rg
  obtain ⟨hz, its, n, rv, hlen, hat⟩ := I.lstM hl
  have ee := each_zip as rows its he.len rv
  have hmem : ∀ x ∈ as.zip rows, TupAt H x.1 x.2 ∧ x.2 ∈ rows := fun x hx => by
    obtain ⟨i, hi⟩ := List.mem_iff_getElem?.mp hx
    rw [List.getElem?_zip_eq_some] at hi
    exact ⟨he.at_ i x.1 x.2 hi.1 hi.2, List.mem_of_getElem? hi.2⟩
  show wpAny (model X.prog X.w) X.A (call (.builtin "sorted") [.ref l] [(Str.ofString "key", .ref f)]) _ _ s
  refine PySem.W.sorted_key_data (b := false) (fun x : Addr × (Str × Int) => .int x.2.1.length) ⟨_, hat, rfl, _, rfl⟩ ee (PySem.W.AllAlike.of fun _ _ => by simp [PySem.W.alike]) (PySem.W.Sortable.others fun x => ⟨(fun z => by cases z), fun _ z => by cases z⟩)
    (by rw [List.length_zip]; exact Nat.le_trans (Nat.min_le_right _ _) (Nat.le_of_lt (small1000 h1000))) (fun x hx => ?_) (PyProof.Rows.ksk_s1 _ _) (fun _ => PyProof.Rows.ksk_l1 _ _) (fun _ => PyProof.Rows.ksk_t1 _ _) (fun v x hv hx h tk kp => ?_) (fun out c h' tk kp fr hD hlo eo => ?_)
  · have hu := hr.units
    show X.A.units + 2 + 0 < cLine
    omega
  · rw [hv]
    have J : L2.Inv X pins σ H { s with heap := h, toks := tk } := I.kept kp
    obtain ⟨pm, ctv, ho⟩ := lamO_at J.hok hf
    obtain ⟨mb, hb1, hb2⟩ := J.mod.blt
    obtain ⟨tits, tr, tt, tz⟩ := J.tuple (SqT.of (K := X.K) (hmem x hx).1)
    obtain ⟨u1, r1, e1, rel1⟩ : ∃ u1 r1, tits = u1 :: r1 ∧ RelV (.str x.2.1) u1 := by
      cases tr with
      | cons a b => exact ⟨_, _, rfl, a⟩
    obtain ⟨t, rfl⟩ := rel1
    exact key_turn (its := tits.toArray) (z := x.2.1) (t := t) (Nat.lt_of_le_of_lt (Nat.le_refl _) hr.depth) ho (codeO_at J.hok hc) J.nolimit (J.mod.glob.keeps J.bk) hm (hb1.keeps J.bk) ((hb2 "len" (by decide)).trans PySem.boot_len) tt (by rw [e1]; rfl) (hsz _ (hmem x hx).2)
  · have J : L2.Inv X pins σ (upd H (s.heap.objs.size + 1) (.lst ((((as.zip rows).mergeSort (PySem.W.dataLe false fun x : Addr × (Str × Int) => .int x.2.1.length)).map Prod.fst).map V.ref))) { s with heap := h', toks := tk } := by
      refine I.laid kp (Nat.le_succ _) ⟨?_, out, c, vals_zip _ _ eo, hD⟩
      rw [List.length_map, List.length_map, List.length_mergeSort, List.length_zip]
      exact Nat.le_trans (Nat.min_le_right _ _) (Nat.le_of_lt (small1000 h1000))
    refine ⟨V.ref (s.heap.objs.size + 1), _, J, rfl, ?_⟩
    have hperm := List.mergeSort_perm (as.zip rows) (PySem.W.dataLe false fun x : Addr × (Str × Int) => .int x.2.1.length)
    have hpw := List.pairwise_mergeSort (le := PySem.W.dataLe false fun x : Addr × (Str × Int) => .int x.2.1.length) (by
      rw [PySem.W.dataLe_int (fun x : Addr × (Str × Int) => (x.2.1.length : Int))]
      intro a b c hab hbc
      simp only [decide_eq_true_eq] at *
      omega) (by
      rw [PySem.W.dataLe_int (fun x : Addr × (Str × Int) => (x.2.1.length : Int))]
      intro a b
      simp only [Bool.or_eq_true, decide_eq_true_eq]
      omega) (as.zip rows)
    generalize hS : (as.zip rows).mergeSort (PySem.W.dataLe false fun x : Addr × (Str × Int) => .int x.2.1.length) = S at *
    refine q (S.map Prod.fst) (S.map Prod.snd) _ ⟨by rw [List.length_map, List.length_map], fun i a p h1 h2 => ?_⟩ ?_ ?_ (I.hok.fresh (Nat.le_succ _))
    · rw [List.getElem?_map] at h1 h2
      obtain ⟨x, hx, rfl⟩ := Option.map_eq_some_iff.mp h1
      rw [hx] at h2
      have e2 : x.2 = p := Option.some.inj h2
      rw [← e2]
      exact (hmem x (hperm.mem_iff.mp (List.mem_of_getElem? hx))).1
    · have h2 := hperm.map Prod.snd
      rw [List.map_snd_zip (by rw [he.len]; exact Nat.le_refl _)] at h2
      exact h2
    · rw [List.pairwise_map]
      refine hpw.imp fun {a b} hab => ?_
      rw [PySem.W.dataLe_int (fun x : Addr × (Str × Int) => (x.2.1.length : Int))] at hab
      have := of_decide_eq_true hab
      omega
end
end K55
set_option maxHeartbeats 4100000
/-! k55: what the law finds in its rows -/
namespace K55
open PySem PySem.Spec PyProof.Rows L2 LamX NdefX
theorem starts_iff (x y : Str) : Txt.startswith x y = decide (sg y <+: sg x) := by
  have e1 : (x.cps.extract 0 (0 + y.length)).toList = (sg x).take y.length := by
    rw [Array.toList_extract]
    show ((sg x).drop 0).take (0 + y.length - 0) = _
    rw [List.drop_zero, Nat.zero_add, Nat.sub_zero]
  have el : y.length = (sg y).length := (Array.length_toList).symm
  have exl : x.length = (sg x).length := (Array.length_toList).symm
  unfold Txt.startswith Builtin.Str.subAt
  by_cases h : sg y <+: sg x
  · rw [decide_eq_true h]
    have hl := h.length_le
    have e2 : x.cps.extract 0 (0 + y.length) = y.cps := Array.toList_inj.mp (by rw [e1, el]; exact (List.prefix_iff_eq_take.mp h).symm)
    rw [e2, decide_eq_true (by omega : 0 + y.length ≤ x.length), Bool.true_and]
    exact beq_self_eq_true _
  · rw [decide_eq_false h]
    refine Bool.eq_false_iff.mpr fun z => h ?_
    rw [Bool.and_eq_true] at z
    have e2 : x.cps.extract 0 (0 + y.length) = y.cps := eq_of_beq z.2
    have e3 : sg y = (sg x).take y.length := by rw [← e1, e2]; rfl
    rw [e3]
    exact List.take_prefix _ _
def optI : Option Int → V
  | none => .non
  | some w => .int w
def spFound (T : List (Addr × Str)) : Sp := fun vs H Q _ => ∃ (l : Addr) (z : Str) (rows : PRows), vs = [.ref l, .str z] ∧ RowsAt H l rows ∧ RowsOk rows ∧ Tabs T H ∧ ∀ H', ExtN H H' → Tabs T H' → Q (optI (wireOf (sgR rows) (sg z))) H'
theorem freeKey : ∀ y ∈ (lamS kLam).names, y.2 = .free → (defScope sFound).names.lookup y.1 = some .cell ∨ (defScope sFound).names.lookup y.1 = some .free := by decide +kernel
theorem scFound : FnScope ["_law_rows", "_law_number", "_law_found_here", "_law_figures_here", "_law_wire"] ["_law_rows", "_law_number"] (defScope sFound) := ⟨rfl, rfl, rfl, by decide +kernel, rfl, by decide +kernel, by decide +kernel⟩
section
variable {P : Program} {w : World} {K : PySem.W.Frag} {mg : Str → Option Value} {base : Heap} {f c Pt : Addr} {fd : FuncData} {C : CA} {T : List (Addr × Str)}
theorem ok_found (F : FnP K "_law_found" "_law_found" sFound f fd) (hc : fd.code = .ref c) (TX : Txt w K mg C) (TB : TabB base mg c Pt) (hm : (Pt, qKey) ∈ T) (hu : ∀ p ∈ T, p.1 = Pt → p.2 = qKey) : FnOk P w K mg base CX0 2 f fd ["_law_rows", "_law_number"] (spFound T) := by
  refine okC F hc scFound (fun vs H Q E h => by obtain ⟨l, z, rows, rfl, _⟩ := h; rfl) (fun A outer s H vs Q E hr h => ?_)
  obtain ⟨l, z, rows, rfl, hR, ok, hT, q⟩ := h
  have nd := scFound.nd
  refine ⟨_, PSs.nox (pss_cons (ps_set (i := 2) nd rfl (Or.inl rfl) pe_non)
    (pss_cons (ps_for PassesOwn.never rfl (pi_list (pe_callBK (call_sortK hr TX.len) (by rfl) TX.sorted (by decide +kernel) (pa_cons (pv 0) pa_nil) (pk_cons (pe_lam (q := qKey) TB rfl rfl hm hu rfl freeKey) pk_nil))) (pg_tup rfl (pgs_cons (pg_name (i := 3) nd rfl (Or.inl rfl)) (pgs_cons (pg_name (i := 4) nd rfl (Or.inl rfl)) pgs_nil)))
      (pss_one (ps_if (pt_val (pe_bm PySem.F.plainAttrs_str PySem.F.slot_str_startswith PySem.F.type_str_startswith mt_startswith (pv 1) (pa_cons (pv 3) pa_nil))) (pss_one (ps_set (i := 2) nd rfl (Or.inl rfl) (pv 4))) pss_nil)))
    (pss_one (ps_ret (pv 2))))), ?_⟩
  refine ⟨_, rfl, hT, fun fl c' H1 eN T1 hfl hc' => ?_⟩
  obtain ⟨as, hl, he⟩ := (hR.ext (Ext.ofN eN)).ex
  refine ⟨l, fl, c', as, rows, rfl, rfl, hl, he, Nat.le_trans ok.len (by decide), fun p hp => Nat.le_trans (ok.fig p hp).hi (by decide), hfl, hc', fun bs rows' p hE hperm hpw np => ?_⟩
  have s1 : Same H1 (upd H1 p (.lst (bs.map V.ref))) := same_upd np
  refine ⟨p, rfl, ⟨_, SqL.of upd_same⟩, ?_⟩
  have hlen := hE.len
  refine for_list (xs := bs.map V.ref) (fun i σ H' => H' = upd H1 p (.lst (bs.map V.ref)) ∧ ∃ u v, σ = [some (.ref l), some (.str z), some (optI (lastPre (sgR (rows'.take i)) (sg z))), u, v]) ⟨rfl, _, _, rfl⟩ (fun i σ H' _ h => by rw [h.1]; exact SqL.of upd_same) (fun i x σ H' hx h => ?_) (fun σ H' h => ?_)
  · obtain ⟨rfl, u, v, rfl⟩ := h
    rw [List.getElem?_map] at hx
    obtain ⟨a, ha, rfl⟩ := Option.map_eq_some_iff.mp hx
    obtain ⟨row, hrow, hat⟩ := hE.get ha
    have e3 : sgR (rows'.take (i + 1)) = sgR (rows'.take i) ++ [(sg row.1, row.2)] := by
      unfold sgR
      rw [List.take_add_one, hrow, List.map_append]
      rfl
    have e4 := lastPre_snoc (sgR (rows'.take i)) (sg z) (sg row.1, row.2)
    refine ⟨a, _, rfl, SqT.of (s1 _ _ hat), rfl, _, _, rfl, _, _, rfl, rfl, ?_⟩
    refine ⟨_, rfl, rfl, _, rfl, z, row.1, rfl, rfl, _, rfl, ?_⟩
    rw [starts_iff]
    by_cases hp : sg row.1 <+: sg z
    · rw [decide_eq_true hp]
      rw [if_pos hp] at e4
      refine iteT ⟨_, rfl, rfl, some (.str row.1), some (.int row.2), ?_⟩
      rw [e3, e4]
      rfl
    · rw [decide_eq_false hp]
      rw [if_neg hp] at e4
      refine iteF ⟨rfl, some (.str row.1), some (.int row.2), ?_⟩
      rw [e3, e4]
      rfl
  · obtain ⟨rfl, u, v, rfl⟩ := h
    refine ⟨_, rfl, ?_⟩
    rw [List.length_map, hlen, List.take_length]
    have hperm2 : (sgR rows').Perm (sgR rows) := hperm.map _
    have hpw2 : (sgR rows').Pairwise (fun p q => p.1.length ≤ q.1.length) := by
      unfold sgR
      rw [List.pairwise_map]
      refine hpw.imp fun {a b} hab => ?_
      have ea : a.1.length = (sg a.1).length := (Array.length_toList).symm
      have eb : b.1.length = (sg b.1).length := (Array.length_toList).symm
      show (sg a.1).length ≤ (sg b.1).length
      omega
    rw [lastPre_wire ok.nd ok.ne hperm2 hpw2]
    exact q _ (eN.trans (extN_ofS s1)) (T1.ext s1)
end
end K55
set_option maxHeartbeats 4100000
/-! k55: a ringing followed; an answer weighed -/
namespace K55
open PySem PySem.Spec PyProof.Rows L2 LamX NdefX
/-- what stands while an answer is weighed -/
structure Stands (T : List (Addr × Str)) (H : Hp) (r d l : Addr) (rows : PRows) (hs : Houses) (n : Nat) (held : List Int) : Prop where
  rws : RowsAt H r rows
  ok : RowsOk rows
  houses : HousesAt H d hs n
  hok : HousesOk hs
  held : H l = some (.lst (held.map V.int))
  tabs : Tabs T H
theorem Stands.ext {T : List (Addr × Str)} {H H' : Hp} {r d l : Addr} {rows : PRows} {hs : Houses} {n : Nat} {held : List Int} (h : Stands T H r d l rows hs n held) (e : ExtN H H') (t : Tabs T H') : Stands T H' r d l rows hs n held :=
  ⟨h.rws.ext (Ext.ofN e), h.ok, h.houses.ext (Ext.ofN e), h.hok, ext_lst (Ext.ofN e) h.held, t⟩
def spFollowed (T : List (Addr × Str)) : Sp := fun vs H Q _ => ∃ (r d l c : Addr) (a : Int) (z : Str) (t : Int) (rows : PRows) (hs : Houses) (n : Nat) (held come : List Int) (behind : Option Str), vs = [.ref r, .ref d, .ref l, .ref c, .int a, .str z, .int t] ∧ Stands T H r d l rows hs n held ∧
  H c = some (.lst (come.map V.int)) ∧ follow (sgR rows) (nextOf hs held a t) come (some z) = some behind ∧ ∀ (H' : Hp) (p : Addr), ExtN H H' → Tabs T H' → H' p = some (.lst [.bl true, optV behind]) → Q (.ref p) H'
def spRight (T : List (Addr × Str)) : Sp := fun vs H Q _ => ∃ (r d l x c : Addr) (a : Int) (z : Str) (t : Int) (rows : PRows) (hs : Houses) (n : Nat) (held come : List Int) (word : Str), vs = [.ref r, .ref d, .ref l, .ref x, .int a, .str z, .int t] ∧ Stands T H r d l rows hs n held ∧
  H x = some (.tup [.str word, .ref c]) ∧ H c = some (.lst (come.map V.int)) ∧ Right (sgR rows) (nextOf hs held a t) held z word come ∧ ∀ H', ExtN H H' → Tabs T H' → Q (.bl true) H'
theorem follow_cons {rows : Rows} {next : Int → Option Str} {w : Int} {ws : List Int} {cur behind : Option Str} (h : follow rows next (w :: ws) cur = some behind) : ∃ y, cur = some y ∧ wireOf rows (sg y) = some w ∧ follow rows next ws (next w) = some behind := by
  cases cur with
  | none => cases h
  | some y =>
    have h' : (if wireOf rows (sg y) = some w then follow rows next ws (next w) else none) = some behind := h
    split at h'
    · rename_i c
      exact ⟨y, rfl, c, h'⟩
    · cases h'
section
variable {P : Program} {w : World} {K : PySem.W.Frag} {mg : Str → Option Value} {base : Heap} {f c Pt : Addr} {fd : FuncData} {C : CA} {T : List (Addr × Str)}
theorem scFollowed : FnScope ["_law_rows", "_law_houses", "_law_held", "_law_come", "_law_asker", "_law_number", "_law_time_here", "_law_wire"] ["_law_rows", "_law_houses", "_law_held", "_law_come", "_law_asker", "_law_number", "_law_time_here"] (defScope sFollowed) := ⟨rfl, rfl, rfl, by decide +kernel, rfl, by decide +kernel, by decide +kernel⟩
theorem ok_followed (F : FnP K "_law_followed" "_law_followed" sFollowed f fd) (GF : Glob P w K mg base 2 "_law_found" ["_law_rows", "_law_number"] (spFound T)) (GN : Glob P w K mg base 3 "_law_next" ["_law_houses", "_law_held", "_law_wire", "_law_asker", "_law_time_here"] spNext) :
    FnOk P w K mg base CX0 4 f fd ["_law_rows", "_law_houses", "_law_held", "_law_come", "_law_asker", "_law_number", "_law_time_here"] (spFollowed T) := by
  refine F.ok scFollowed (fun vs H Q E h => by obtain ⟨r, d, l, c, a, z, t, rows, hs, n, held, come, behind, rfl, _⟩ := h; rfl) (fun cdv A outer s H vs Q E hr h => ?_)
  obtain ⟨r, d, l, c, a, z, t, rows, hs, n, held, come, behind, rfl, st, hc, hfo, q⟩ := h
  have nd := scFollowed.nd
  refine ⟨_, PSs.nox (pss_cons (ps_for PassesOwn.never rfl (pi_list (pv 3)) (pg_name (i := 7) nd rfl (Or.inl rfl))
      (pss_cons (ps_if (PW.pt (pw_or (pt_cmpR op_isN (pv 5) pe_non (nomark _)) (pw_or1 (pt_cmpR op_ne (pe_callG GF hr (by decide) rfl (pa_cons (pv 0) (pa_cons (pv 5) pa_nil))) (pv 7) (nomark _))))) pss_never pss_nil)
      (pss_one (ps_set (i := 5) nd rfl (Or.inl rfl) (pe_callG GN hr (by decide) rfl (pa_cons (pv 1) (pa_cons (pv 2) (pa_cons (pv 7) (pa_cons (pv 4) (pa_cons (pv 6) pa_nil))))))))))
    (pss_one (ps_ret (pe_lst (pa_cons pe_bl (pa_cons (pv 5) pa_nil)))))), ?_⟩
  refine ⟨_, rfl, c, rfl, ⟨_, SqL.of hc⟩, ?_⟩
  refine for_list (xs := come.map V.int) (fun i σ H' => ExtN H H' ∧ Tabs T H' ∧ ∃ (cur : Option Str) (u : Option V), follow (sgR rows) (nextOf hs held a t) (come.drop i) cur = some behind ∧ σ = [some (.ref r), some (.ref d), some (.ref l), some (.ref c), some (.int a), some (optV cur), some (.int t), u])
    ⟨extN_ofS (Same.refl H), st.tabs, some z, none, hfo, rfl⟩ (fun i σ H' _ h => SqL.of (ext_lst (Ext.ofN h.1) hc)) (fun i x σ H' hx h => ?_) (fun σ H' h => ?_)
  · obtain ⟨eN, hT, cur, u, hf, rfl⟩ := h
    rw [List.getElem?_map] at hx
    obtain ⟨wi, hw, rfl⟩ := Option.map_eq_some_iff.mp hx
    have hi : i < come.length := (List.getElem?_eq_some_iff.mp hw).1
    have ed : come.drop i = wi :: come.drop (i + 1) := by
      rw [List.drop_eq_getElem_cons hi]
      congr 1
      exact (List.getElem?_eq_some_iff.mp hw).2
    rw [ed] at hf
    obtain ⟨y, rfl, hwy, hf2⟩ := follow_cons hf
    have st1 := st.ext eN hT
    refine ⟨_, rfl, rfl, _, rfl, iteF ?_⟩
    refine ⟨_, rfl, _, rfl, r, y, rows, rfl, st1.rws, st.ok, hT, fun H2 e2 T2 => ?_⟩
    rw [hwy]
    have st2 := st1.ext e2 T2
    refine ⟨_, rfl, rfl, _, rfl, iteNS rfl ?_⟩
    refine ⟨_, rfl, _, rfl, _, rfl, _, rfl, _, rfl, d, l, wi, a, t, hs, n, held, rfl, st2.houses, st.hok, st2.held, fun H3 s3 => ?_⟩
    exact ⟨eN.trans (e2.trans (extN_ofS s3)), T2.ext s3, _, _, hf2, rfl⟩
  · obtain ⟨eN, hT, cur, u, hf, rfl⟩ := h
    rw [List.length_map, List.drop_length] at hf
    have ec : cur = behind := Option.some.inj hf
    rw [ec]
    refine ⟨_, rfl, (show 2 ≤ sizeLine by decide), fun p np => ?_⟩
    have s1 : Same H' (upd H' p (.lst [.bl true, optV behind])) := same_upd np
    exact q _ p (eN.trans (extN_ofS s1)) (hT.ext s1) upd_same
theorem scRight : FnScope ["_law_rows", "_law_houses", "_law_held", "_law_found_here", "_law_asker", "_law_number", "_law_time_here", "_law_word", "_law_come", "_law_good", "_law_behind", "_law_wire"] ["_law_rows", "_law_houses", "_law_held", "_law_found_here", "_law_asker", "_law_number", "_law_time_here"] (defScope sRight) := ⟨rfl, rfl, rfl, by decide +kernel, rfl, by decide +kernel, by decide +kernel⟩
theorem last_at {come : List Int} {w : Int} (h : come.getLast? = some w) : atI (come.map V.int) (-1) = some (.int w) := by
  obtain ⟨r, rfl⟩ := List.getLast?_eq_some_iff.mp h
  unfold atI ixN
  rw [if_neg (by decide), if_pos (by rw [List.length_map, List.length_append]; show -((r.length + 1 : Nat) : Int) ≤ -1; omega)]
  show ((r ++ [w]).map V.int)[((-1 : Int) + (((r ++ [w]).map V.int).length : Int)).toNat]? = _
  have e : ((-1 : Int) + (((r ++ [w]).map V.int).length : Int)).toNat = r.length := by
    rw [List.length_map, List.length_append]
    show ((-1 : Int) + ((r.length + 1 : Nat) : Int)).toNat = _
    omega
  rw [e, List.map_append, List.getElem?_append_right (by rw [List.length_map]; exact Nat.le_refl _), List.length_map, Nat.sub_self]
  rfl
theorem ok_right (F : FnP K "_law_right" "_law_right" sRight f fd) (TX : Txt w K mg C) (GF : Glob P w K mg base 2 "_law_found" ["_law_rows", "_law_number"] (spFound T))
    (GO : Glob P w K mg base 4 "_law_followed" ["_law_rows", "_law_houses", "_law_held", "_law_come", "_law_asker", "_law_number", "_law_time_here"] (spFollowed T)) :
    FnOk P w K mg base CX0 5 f fd ["_law_rows", "_law_houses", "_law_held", "_law_found_here", "_law_asker", "_law_number", "_law_time_here"] (spRight T) := by
  refine F.ok scRight (fun vs H Q E h => by obtain ⟨r, d, l, x, c, a, z, t, rows, hs, n, held, come, word, rfl, _⟩ := h; rfl) (fun cdv A outer s H vs Q E hr h => ?_)
  obtain ⟨r, d, l, x, c, a, z, t, rows, hs, n, held, come, word, rfl, st, hx, hc, ⟨nd1, h10, behind, hfo, hb⟩, q⟩ := h
  have nd := scRight.nd
  refine ⟨_, PSs.nox (pss_cons (ps_asg (pv 3) (pg_tup rfl (pgs_cons (pg_name (i := 7) nd rfl (Or.inl rfl)) (pgs_cons (pg_name (i := 8) nd rfl (Or.inl rfl)) pgs_nil))))
    (pss_cons (ps_if (PW.pt (pw_or (pt_not (pt_val (pe_callB call_isi (by rfl) TX.isi (by decide +kernel) (pa_cons (pv 8) (pa_cons (pe_bltn (v := .ty "list") (by rfl) TX.list (by decide +kernel) rfl) pa_nil)))))
      (pw_or (pt_cmpR op_ne (RZ.pe_lenSetI (by rfl) TX.len (by rfl) TX.set (pv 8)) (pe_callB call_len_seq (by rfl) TX.len PySem.boot_len (pa_cons (pv 8) pa_nil)) (nomark _))
      (pw_or1 (pt_cmpR op_gt (pe_callB call_len_seq (by rfl) TX.len PySem.boot_len (pa_cons (pv 8) pa_nil)) pe_int (nomark _)))))) pss_never pss_nil)
    (pss_cons (ps_asg (pe_callG GO hr (by decide) rfl (pa_cons (pv 0) (pa_cons (pv 1) (pa_cons (pv 2) (pa_cons (pv 8) (pa_cons (pv 4) (pa_cons (pv 5) (pa_cons (pv 6) pa_nil)))))))) (pg_unl rfl (pgs_cons (pg_name (i := 9) nd rfl (Or.inl rfl)) (pgs_cons (pg_name (i := 10) nd rfl (Or.inl rfl)) pgs_nil))))
    (pss_cons (ps_if (pt_not (pt_val (pv 9))) pss_never pss_nil)
    (pss_cons (ps_if (pt_cmpR op_isN (pv 10) pe_non (nomark _)) (pss_one (ps_ret (pe_cmpR op_eq (pv 7) (pe_ix ix_list (pe_lst (pa_cons pe_str (pa_cons pe_str pa_nil)))
        (pe_callTy call_int1 (by rfl) TX.int (by decide +kernel) (pa_cons (pe_cmpR op_in_seq (pe_ix ix_list (pv 8) (pe_un un_neg pe_int) (fun _ _ => rfl)) (pv 2) (by rfl)) pa_nil)) (fun _ _ => rfl)) (nomark _)))) pss_nil)
    (pss_cons (ps_set (i := 11) nd rfl (Or.inl rfl) (pe_callG GF hr (by decide) rfl (pa_cons (pv 0) (pa_cons (pv 10) pa_nil))))
    (pss_cons (ps_if (pt_cmpR op_isN (pv 11) pe_non (nomark _)) (pss_one (ps_ret (pe_cmpR op_eq (pv 7) pe_str (nomark _)))) pss_nil)
    (pss_one (ps_ret (pe_and (pe_cmpR op_eq (pv 7) pe_str (nomark _)) (pe_one (pe_cmpR op_in_seq (pv 11) (pv 8) (by rfl))))))))))))), ?_⟩
  refine ⟨_, rfl, x, _, rfl, SqT.of hx, rfl, _, _, rfl, _, _, rfl, rfl, ?_⟩
  refine ⟨_, rfl, _, .ty "list", _, _, true, rfl, .ty _, .base (.lst hc), kit_ty (by decide +kernel), true, rfl, iteF ?_⟩
  refine ⟨_, rfl, c, come, rfl, SqL.of hc, nd1, Nat.le_trans h10 (by decide), _, rfl, c, _, rfl, .inl (SqL.of hc), rfl, false, ?_, iteF ?_⟩
  · rw [List.length_map]
    exact congrArg (fun b => V.bl (!b)) (decide_eq_true rfl)
  refine ⟨_, rfl, c, _, rfl, .inl (SqL.of hc), _, _, rfl, rfl, false, blF (by rw [List.length_map]; omega), iteF ?_⟩
  refine ⟨_, rfl, _, rfl, _, rfl, _, rfl, _, rfl, _, rfl, _, rfl, r, d, l, c, a, z, t, rows, hs, n, held, come, behind, rfl, st, hc, hfo, fun H1 p e1 T1 hp => ?_⟩
  have st1 := st.ext e1 T1
  have hc1 := ext_lst (Ext.ofN e1) hc
  refine ⟨p, _, rfl, SqL.of hp, rfl, _, _, rfl, _, _, rfl, rfl, ?_⟩
  refine ⟨_, rfl, true, rfl, iteF ?_⟩
  cases behind with
  | none =>
    obtain ⟨w', hlast, hword⟩ := hb
    refine ⟨_, rfl, rfl, _, rfl, iteT ?_⟩
    refine ⟨_, rfl, (show 2 ≤ sizeLine by decide), fun m nm => ?_⟩
    have s1 : Same H1 (upd H1 m (.lst [.str "rings", .str "busy"])) := same_upd nm
    refine ⟨_, rfl, 1, rfl, c, _, -1, .int w', rfl, rfl, SqL.of (s1 _ _ hc1), last_at hlast, ?_⟩
    refine ⟨_, rfl, l, _, rfl, .inl (SqL.of (s1 _ _ st1.held)), rfl, flat_ints held, .inr ⟨decide (w' ∈ held), congrArg (fun b => [V.bl b]) (inV_ints w' held), ?_⟩⟩
    refine ⟨m, _, _, .str (if w' ∈ held then "busy" else "rings"), rfl, rfl, SqL.of upd_same, ?_, rfl, ?_⟩
    · by_cases h : w' ∈ held
      · rw [decide_eq_true h, if_pos h]; rfl
      · rw [decide_eq_false h, if_neg h]; rfl
    · have ew : word = (if w' ∈ held then ("busy" : Str) else ("rings" : Str)) := hword
      rw [← ew]
      have q2 := q (upd H1 m (.lst [.str "rings", .str "busy"])) (e1.trans (extN_ofS s1)) (T1.ext s1)
      rw [show decide (V.str word = V.str word) = true from decide_eq_true rfl]
      exact q2
  | some y =>
    refine ⟨_, rfl, rfl, _, rfl, iteF ?_⟩
    refine ⟨_, rfl, _, rfl, r, y, rows, rfl, st1.rws, st.ok, T1, fun H2 e2 T2 => ?_⟩
    have hb' : match wireOf (sgR rows) (sg y) with
      | none => word = Str.ofString "none"
      | some w => word = Str.ofString "round" ∧ w ∈ come := hb
    cases hw : wireOf (sgR rows) (sg y) with
    | none =>
      rw [hw] at hb'
      have ew : word = "none" := hb'
      refine ⟨_, rfl, rfl, _, rfl, iteT ⟨_, rfl, rfl, ?_⟩⟩
      rw [ew]
      rw [show decide (V.str "none" = V.str "none") = true from decide_eq_true rfl]
      exact q H2 (e1.trans e2) T2
    | some w' =>
      rw [hw] at hb'
      obtain ⟨ew, hin⟩ := hb'
      refine ⟨_, rfl, rfl, _, rfl, iteF ⟨_, rfl, rfl, _, rfl, ?_⟩⟩
      rw [ew]
      refine strT ?_
      refine ⟨_, rfl, _, rfl, c, _, rfl, .inl (SqL.of (ext_lst (Ext.ofN e2) hc1)), rfl, flat_ints come, ?_⟩
      have ein : (inV (optI (some w')) (come.map V.int)) = true := (inV_ints w' come).trans (decide_eq_true hin)
      show Q (.bl (inV (optI (some w')) (come.map V.int))) H2
      rw [ein]
      exact q H2 (e1.trans e2) T2
end
end K55
set_option maxHeartbeats 4100000
/-! k55: what stands over writes to dicts; a call from where a cell is tracked -/
namespace K55
open PySem PySem.Spec PyProof.Rows L2 LamX NdefX
/-- all but tables and dicts stays -/
def ExtW (H H' : Hp) : Prop := ∀ b o, H b = some o → (∀ ps, o ≠ .tbl ps) → (∀ kvs, o ≠ .dK kvs) → H' b = some o
theorem ExtW.upd {H : Hp} {d : Addr} {kvs : List (Key × V)} {o : HO} (h : H d = some (.dK kvs)) : ExtW H (upd H d o) := fun b u e _ m => by
  have hb : b ≠ d := fun z => by
    rw [z, h] at e
    exact m kvs (Option.some.inj e).symm
  rw [upd_ne hb]
  exact e
theorem extW_ins {H H' : Hp} {r C dx : Addr} {fs : List (Str × V)} (e : ExtW H H') (h : H r = some (.ins C dx fs)) : H' r = some (.ins C dx fs) := e _ _ h (fun _ z => by cases z) (fun _ z => by cases z)
theorem extW_lst {H H' : Hp} {r : Addr} {xs : List V} (e : ExtW H H') (h : H r = some (.lst xs)) : H' r = some (.lst xs) := e _ _ h (fun _ z => by cases z) (fun _ z => by cases z)
theorem extW_tup {H H' : Hp} {r : Addr} {xs : List V} (e : ExtW H H') (h : H r = some (.tup xs)) : H' r = some (.tup xs) := e _ _ h (fun _ z => by cases z) (fun _ z => by cases z)
theorem PRule.extW {C : CA} {H H' : Hp} {r : Addr} {p : PT} (h : PRule C H r p) (e : ExtW H H') : PRule C H' r p := by
  cases p with
  | stays => obtain ⟨dx, a⟩ := h; exact ⟨dx, extW_ins e a⟩
  | always z => obtain ⟨dx, a⟩ := h; exact ⟨dx, extW_ins e a⟩
  | busy z => obtain ⟨dx, a⟩ := h; exact ⟨dx, extW_ins e a⟩
  | hours b d z => obtain ⟨dx, a⟩ := h; exact ⟨dx, extW_ins e a⟩
  | fromW ws z => obtain ⟨dx, l, a, b⟩ := h; exact ⟨dx, l, extW_ins e a, extW_lst e b⟩
theorem RuleAt.extW {C : CA} {H H' : Hp} {r : Addr} {t : Told} (h : RuleAt C H r t) (e : ExtW H H') : RuleAt C H' r t := by
  cases t with
  | plain p => exact PRule.extW h e
  | first ps =>
    obtain ⟨dx, l, rs, a, b, c⟩ := h
    exact ⟨dx, l, rs, extW_ins e a, extW_lst e b, c.imp fun _ _ z => PRule.extW z e⟩
theorem PTold.extW {H H' : Hp} {a : Addr} {p : PT} (h : PTold H a p) (e : ExtW H H') : PTold H' a p := by
  cases p with
  | stays => exact extW_tup e h
  | always z => exact extW_tup e h
  | busy z => exact extW_tup e h
  | hours b d z => exact extW_tup e h
  | fromW ws z => obtain ⟨l, x, y⟩ := h; exact ⟨l, extW_tup e x, extW_lst e y⟩
theorem ToldAt.extW {H H' : Hp} {a : Addr} {t : Told} (h : ToldAt H a t) (e : ExtW H H') : ToldAt H' a t := by
  cases t with
  | plain p => exact PTold.extW h e
  | first ps =>
    obtain ⟨l, as, x, y, z⟩ := h
    exact ⟨l, as, extW_tup e x, extW_lst e y, z.imp fun _ _ q => PTold.extW q e⟩
theorem RowsAt.extW {H H' : Hp} {l : Addr} {rows : PRows} (h : RowsAt H l rows) (e : ExtW H H') : RowsAt H' l rows := by
  obtain ⟨as, a, b⟩ := h.ex
  exact ⟨as, extW_lst e a, b.imp fun _ _ q => extW_tup e q⟩
theorem fnO_dK {f : Addr} {F : NF} (ks : List (Key × V)) : FnO f F ≠ .dK ks := fun z => by
  unfold FnO at z
  cases z
theorem codeO_dK {c : Addr} {q : Str} (ks : List (Key × V)) : CodeO c q ≠ .dK ks := fun z => by
  unfold CodeO at z
  cases z
theorem Turned.extW {H H' : Hp} {f r : Addr} (t : Turned H f r) (e : ExtW H H') : Turned H' f r := by
  obtain ⟨cell, c', h1, h2, h3⟩ := t.ex
  obtain ⟨o, u, k1, k2, k3⟩ := h3.ex
  exact ⟨cell, c', e _ _ h1 fnO_ne fnO_dK, e _ _ h2 codeO_ne codeO_dK, o, u, e _ _ k1 (fun _ z => by cases z) (fun _ z => by cases z), k2, k3⟩
theorem tabs_updD {T : List (Addr × Str)} {H : Hp} {d : Addr} {kvs : List (Key × V)} {o : HO} (t : Tabs T H) (h : H d = some (.dK kvs)) : Tabs T (upd H d o) := fun p hp => by
  obtain ⟨ps, h1, h2, h3⟩ := t p hp
  refine ⟨ps, ?_, h2, fun p' cv hcv => ?_⟩
  · rw [upd_ne (ne_of h1 h (by intro z; cases z))]
    exact h1
  · obtain ⟨c0, e1, e2⟩ := h3 p' cv hcv
    exact ⟨c0, e1, by rw [upd_ne (ne_of e2 h (codeO_dK _))]; exact e2⟩
/-- what stands at a turn of the law -/
structure LInv (T : List (Addr × Str)) (C : CA) (H : Hp) (r pl d tn l q t : Addr) (rows : PRows) (h1 h2 : Houses) (held : List Int) (cs : List V) (i : Nat) : Prop where
  rws : RowsAt H r rows
  plan : ∃ dx wd, H pl = some (.ins C.plan dx (fPlan t wd))
  things : H t = some (.dK (thingsK rows))
  houses : HousesAt H d h1 i
  turns : TurnsAt C H tn h2 i
  hok : HousesOk h1
  heldA : H l = some (.lst (held.map V.int))
  hlen : held.length ≤ i
  cells : H q = some (.lst cs)
  tabs : Tabs T H
section
variable {T : List (Addr × Str)} {C : CA} {H H' : Hp} {r pl d tn l q t : Addr} {rows : PRows} {h1 h2 : Houses} {held : List Int} {cs : List V} {i j : Nat}
theorem LInv.ext (L : LInv T C H r pl d tn l q t rows h1 h2 held cs i) (e : ExtN H H') (tb : Tabs T H') : LInv T C H' r pl d tn l q t rows h1 h2 held cs i :=
  ⟨L.rws.ext (Ext.ofN e), L.plan.imp fun dx h => h.imp fun wd h => ext_ins (Ext.ofN e) h, ext_dK (Ext.ofN e) L.things, L.houses.ext (Ext.ofN e), L.turns.ext e, L.hok, ext_lst (Ext.ofN e) L.heldA, L.hlen, ext_lst (Ext.ofN e) L.cells, tb⟩
theorem LInv.same (L : LInv T C H r pl d tn l q t rows h1 h2 held cs i) (e : Same H H') : LInv T C H' r pl d tn l q t rows h1 h2 held cs i := L.ext (extN_ofS e) (L.tabs.ext e)
theorem LInv.mono (L : LInv T C H r pl d tn l q t rows h1 h2 held cs i) (hij : i ≤ j) : LInv T C H r pl d tn l q t rows h1 h2 held cs j := by
  obtain ⟨k1, a1, a2, a3⟩ := L.houses.ex
  obtain ⟨k2, b1, b2, b3⟩ := L.turns.ex
  exact ⟨L.rws, L.plan, L.things, ⟨k1, a1, Nat.le_trans a2 hij, a3⟩, ⟨k2, b1, Nat.le_trans b2 hij, b3⟩, L.hok, L.heldA, Nat.le_trans L.hlen hij, L.cells, L.tabs⟩
/-- the houses' dict is written -/
theorem LInv.setH (L : LInv T C H r pl d tn l q t rows h1 h2 held cs i) (dt : t ≠ d) (dtn : tn ≠ d) (hij : i ≤ j) {h3 : Houses} (ok3 : HousesOk h3) {kvs : List (Key × V)} (hk : kvs.length ≤ j)
    (hs : ∀ w, match h3 w with
      | none => valV kvs (Sum.inl w : Key) = none
      | some u => ∃ a, valV kvs (Sum.inl w : Key) = some (.ref a) ∧ ToldAt H a u) : LInv T C (upd H d (.dK kvs)) r pl d tn l q t rows h3 h2 held cs j := by
  obtain ⟨k1, a1, a2, a3⟩ := L.houses.ex
  have e : ExtW H (upd H d (.dK kvs)) := ExtW.upd a1
  obtain ⟨k2, b1, b2, b3⟩ := L.turns.ex
  refine ⟨L.rws.extW e, L.plan.imp fun dx h => h.imp fun wd h => extW_ins e h, by rw [upd_ne dt]; exact L.things, ⟨kvs, upd_same, hk, fun w => ?_⟩, ⟨k2, by rw [upd_ne dtn]; exact b1, Nat.le_trans b2 hij, fun w => ?_⟩, ok3, extW_lst e L.heldA, Nat.le_trans L.hlen hij, extW_lst e L.cells, tabs_updD L.tabs a1⟩
  · have z := hs w
    cases y : h3 w with
    | none => rw [y] at z; exact z
    | some u =>
      rw [y] at z
      obtain ⟨a, z1, z2⟩ := z
      exact ⟨a, z1, z2.extW e⟩
  · have z := b3 w
    cases y : h2 w with
    | none => rw [y] at z; exact z
    | some u =>
      rw [y] at z
      obtain ⟨f, r, z1, z2, z3⟩ := z
      exact ⟨f, r, z1, z2.extW e, z3.extW e⟩
/-- the turns' dict is written -/
theorem LInv.setT (L : LInv T C H r pl d tn l q t rows h1 h2 held cs i) (tt : t ≠ tn) (dtn : d ≠ tn) (hij : i ≤ j) {h3 : Houses} {kvs : List (Key × V)} (hk : kvs.length ≤ j)
    (hs : ∀ w, match h3 w with
      | none => valV kvs (Sum.inl w : Key) = none
      | some u => ∃ f r, valV kvs (Sum.inl w : Key) = some (.ref f) ∧ Turned H f r ∧ RuleAt C H r u) : LInv T C (upd H tn (.dK kvs)) r pl d tn l q t rows h1 h3 held cs j := by
  obtain ⟨k1, a1, a2, a3⟩ := L.houses.ex
  obtain ⟨k2, b1, b2, b3⟩ := L.turns.ex
  have e : ExtW H (upd H tn (.dK kvs)) := ExtW.upd b1
  refine ⟨L.rws.extW e, L.plan.imp fun dx h => h.imp fun wd h => extW_ins e h, by rw [upd_ne tt]; exact L.things, ⟨k1, by rw [upd_ne dtn]; exact a1, Nat.le_trans a2 hij, fun w => ?_⟩, ⟨kvs, upd_same, hk, fun w => ?_⟩, L.hok, extW_lst e L.heldA, Nat.le_trans L.hlen hij, extW_lst e L.cells, tabs_updD L.tabs b1⟩
  · have z := a3 w
    cases y : h1 w with
    | none => rw [y] at z; exact z
    | some u =>
      rw [y] at z
      obtain ⟨a, z1, z2⟩ := z
      exact ⟨a, z1, z2.extW e⟩
  · have z := hs w
    cases y : h3 w with
    | none => rw [y] at z; exact z
    | some u =>
      rw [y] at z
      obtain ⟨f, r, z1, z2, z3⟩ := z
      exact ⟨f, r, z1, z2.extW e, z3.extW e⟩
end
/-- a house is set, is taken away -/
def setHs (hs : Houses) (w : Int) (o : Option Told) : Houses := fun x => if x = w then o else hs x
theorem setHs_ok {hs : Houses} {w : Int} {o : Option Told} (h : HousesOk hs) (ho : ∀ u, o = some u → u.Ok) : HousesOk (setHs hs w o) := fun x u e => by
  unfold setHs at e
  split at e
  · exact ho u e
  · exact h x u e
theorem val_drop (kvs : List (Key × V)) (k j : Key) : valV (dropK kvs k) j = if j = k then none else valV kvs j := by
  induction kvs with
  | nil => by_cases e : j = k <;> simp [dropK, valV, e]
  | cons p r ih =>
    unfold dropK at ih ⊢
    rw [List.filter_cons]
    by_cases e : p.1 = k
    · have : (decide (p.1 ≠ k)) = false := decide_eq_false (fun z => z e)
      by_cases ej : j = k
      · rw [if_pos ej] at ih ⊢
        split
        · rename_i c
          exact absurd c (by simp [e])
        · exact ih
      · rw [if_neg ej] at ih ⊢
        split
        · rename_i c
          exact absurd c (by simp [e])
        · rw [ih]
          exact (valV_neg fun z => ej (z.symm.trans e)).symm
    · by_cases ej : j = k
      · rw [if_pos ej] at ih ⊢
        split
        · exact (valV_neg fun z => e (z.trans ej)).trans ih
        · exact ih
      · rw [if_neg ej] at ih ⊢
        split
        · by_cases ep : p.1 = j
          · exact (valV_pos ep).trans (valV_pos ep).symm
          · exact (valV_neg ep).trans (ih.trans (valV_neg ep).symm)
        · rename_i c
          exact absurd e (by simpa using c)
/-! ### a call from where a cell of one's own is told to the one called -/
def tCallLk (sp : Sp) (cell : Addr) (i : Nat) (t : TA) : TE := fun σ H Q => t σ H fun vs H1 => ∃ v : V, σ[i]? = some (some v) ∧
  ∀ (o : Obj) (u : Value), o.data = .cell (some u) → RelV v u → H1 cell = none → sp vs (upd H1 cell (cellO o)) (fun r H2 => H2 cell = some (cellO o) → Q r (era H2 cell)) E0
section
variable {X : Cx} {k j i : Nat} {x y : Str} {ps : List Str} {sp : Sp} {p pos : Pos} {e : Expr} {es : List Expr} {t : TA} {cell : Addr}
theorem pe_callLk (G : Glob X.prog X.w X.K X.mg X.base k x ps sp) (hr : Room j X.A) (hk : k ≤ j) (hg : Gl X x) (hN : X.N[i]? = some y) (hc : X.env.cells.lookup y = some cell) (hy : X.env.scope.names.lookup y = some .cell) (hfn : X.fn y = true) (ha : PA X (e :: es) t)
    (hdb : (x == ("__debug__" : Str)) = false := by decide) (he : starEach (e :: es) X.env = (false, eval e X.env) :: starEach es X.env := by rfl) (hpl : (backTo pos (starEach es X.env)).any (·.1) = false := by rfl) :
    PE X (.Call (.Name x p) (e :: es) [] pos) (tCallLk sp cell i t) := by
  refine ⟨fun pins s σ H Q I h => ?_⟩
  obtain ⟨f, fd, F, hm, kp, hb⟩ := G.ex
  refine wpAny_Call_Name_kw (ld_glob I hg hm ?_ hdb)
  refine PySem.W.callWith_K (h₀ := X.base) I.ok.mod.kin kp (thn (ha.run pos pins s σ H _ I h) fun us s1 ⟨vs, H1, I1, r, v, hv, q⟩ => ⟨I1.kIn, ?_⟩) he hpl
  show wpAny _ _ (call (.ref f) us) _ _ _
  have n1 : H1 cell = none := I1.freeC y cell hc
  have lo : X.s_0.heap.objs.size ≤ cell := I1.ok.cab y cell hfn hc
  have nb : X.base.get? cell = none := Heap.get?_none_of_le (Nat.le_trans I1.ok.bsz lo)
  have nf : cell ∉ frs X.stack := fun z => by
    rcases List.mem_cons.mp (I1.stkSub cell z) with e | hb
    · exact I1.cne y cell hc e
    · obtain ⟨_, o, ho, _⟩ := I1.ok.funs.mem hb
      exact absurd (Nat.lt_of_lt_of_le (Heap.lt_size ho) lo) (Nat.lt_irrefl _)
  obtain ⟨m, hn, hl⟩ := I1.loc
  obtain ⟨u, ru, lk⟩ := hl i y v hN hv (Or.inr (Or.inl hy))
  rcases lk with ⟨z, _⟩ | ⟨_, c2, hc2, oo, ho, hd2⟩
  · have z' : X.env.scope.names.lookup y = some .local := z
    rw [hy] at z'
    cases z'
  · have ec : c2 = cell := by
      rw [hc] at hc2
      exact (Option.some.inj hc2).symm
    rw [ec] at ho
    have hq := q oo u hd2 ru n1
    have hlen : us.length = ps.length := by
      rw [← r.length]
      exact F.len _ _ _ _ hq
    have hbt := hb s1 us I1.kIn (by rw [List.append_nil]; exact hlen)
    rw [List.append_nil] at hbt
    refine wpAny_call (codeAny_mono (F.run X.A X.stack s1 (upd H1 cell (cellO oo)) ⟨us, []⟩ us vs _ E0 (hr.mono hk) (env0_lock I1.env0 n1 nb ho nf) hbt r hq) fun r s' hq2 => ?_)
    cases r with
    | error e => exact (show False from hq2).elim
    | ok fl =>
      cases fl with
      | ret u =>
        obtain ⟨v2, H3, z1, z2, un, hk3, rv2, H2, q2, hc3, eH⟩ := ce_lock n1 ho hq2
        rw [eH] at un hk3
        exact I1.after ⟨v2, _, z1, z2, un, hk3, rv2, q2 hc3⟩
      | next => exact False.elim hq2
      | brk => exact False.elim hq2
      | cont => exact False.elim hq2
end
end K55
set_option maxHeartbeats 8100000
/-! k55: the law -/
namespace K55
open PySem PySem.Spec PyProof.Rows L2 LamX NdefX
def spLaw (K : PySem.W.Frag) (T : List (Addr × Str)) : Sp := fun vs H Q _ => ∃ (a : Addr) (ns : List Int), vs = [.ref a] ∧ SqL K H a (ns.map V.int) ∧ ns.length ≤ 63 ∧ Tabs T H ∧ ∀ H', Q (.bl true) H'
theorem freeHeld : ∀ y ∈ (lamS hLam).names, y.2 = .free → (defScope sLaw).names.lookup y.1 = some .cell ∨ (defScope sLaw).names.lookup y.1 = some .free := by decide +kernel
abbrev nmLaw : List Str := ["_law_script", "_law_rows", "_law_plan", "_law_houses", "_law_turns", "_law_held", "_law_cell", "_law_way", "_law_wire", "_law_asker", "_law_number", "_law_time_here", "_law_found_here", "_law_one"]
theorem scLaw : FnScope nmLaw ["_law_script"] (defScope sLaw) := ⟨rfl, rfl, rfl, by decide +kernel, rfl, by decide +kernel, by decide +kernel⟩
/-- what the law leans on -/
structure Calls (P : Program) (w : World) (K : PySem.W.Frag) (mg : Str → Option Value) (base : Heap) (C : CA) (T : List (Addr × Str)) : Prop where
  mix : GMix P w K mg base
  cellAt : Glob P w K mg base 2 "_law_cell_at" ["_law_script", "_law_k"] (spCellAt K)
  fig : GFig P w K mg base
  time : Glob P w K mg base 2 "_law_time" ["_law_cell"] spTime
  rows : Glob P w K mg base 3 "_law_plan_rows" ["_law_cell"] spPlanRows
  house : Glob P w K mg base 3 "_law_house" ["_law_cell"] spHouse
  plan : MkOf P w K mg base 2 C.plan ["self", "rows"] (spPlanI C)
  closed : Glob P w K mg base 1 "closed" ["rule"] (spClosed T)
  ruleOf : Glob P w K mg base 8 "rule_of" ["told"] (spRuleOf C)
  rung : Glob P w K mg base 4 "rung" ["plan", "turns", "is_busy", "asker", "number", "time"] (spRung C)
  right : Glob P w K mg base 5 "_law_right" ["_law_rows", "_law_houses", "_law_held", "_law_found_here", "_law_asker", "_law_number", "_law_time_here"] (spRight T)
section
variable {P : Program} {w : World} {K : PySem.W.Frag} {mg : Str → Option Value} {base : Heap} {f c Pt : Addr} {fd : FuncData} {C : CA} {T : List (Addr × Str)}
theorem ok_law (F : FnP K "law" "law" sLaw f fd) (hc : fd.code = .ref c) (TX : Txt w K mg C) (G : Calls P w K mg base C T) (TB : TabB base mg c Pt) (hm : (Pt, qHeld) ∈ T) (hut : ∀ p ∈ T, p.1 = Pt → p.2 = qHeld) : FnOk P w K mg base CX0 9 f fd ["_law_script"] (spLaw K T) := by
  refine okC F hc scLaw (fun vs H Q E h => by obtain ⟨a, ns, rfl, _⟩ := h; rfl) (fun A outer s H vs Q E hr h => ?_)
  obtain ⟨sc, ns, rfl, hsc, h63, hT, q⟩ := h
  have nd := scLaw.nd
  have hu := hu_of hr
  refine ⟨_, PSs.nox (pss_cons (ps_set (i := 1) nd rfl (Or.inl rfl) (pe_callG G.rows hr (by decide) rfl (pa_cons (pe_callG G.cellAt hr (by decide) rfl (pa_cons (pv 0) (pa_cons pe_int pa_nil))) pa_nil)))
    (pss_cons (ps_set (i := 2) nd rfl (Or.inl rfl) (pe_makeG G.plan hr (by decide) rfl TX.gPlan (pa_cons (pv 1) pa_nil)))
    (pss_cons (ps_set (i := 3) nd rfl (Or.inl rfl) pe_dnewK)
    (pss_cons (ps_set (i := 4) nd rfl (Or.inl rfl) pe_dnewK)
    (pss_cons (ps_set (i := 5) nd rfl (Or.inr rfl) (pe_lst pa_nil))
    (pss_cons (ps_for PassesOwn.never rfl (pi_list (pe_op op_catR (pv 0) (pe_lst (pa_cons pe_int (pa_cons pe_int (pa_cons pe_int pa_nil)))))) (pg_name (i := 6) nd rfl (Or.inl rfl))
      (pss_cons (ps_set (i := 7) nd rfl (Or.inl rfl) (pe_op op_mod (pe_callG G.mix hr (by decide) rfl (pa_cons (pv 6) (pa_cons pe_int pa_nil))) pe_int))
      (pss_cons (ps_set (i := 8) nd rfl (Or.inr rfl) (pe_op op_mod (pe_callG G.mix hr (by decide) rfl (pa_cons (pv 6) (pa_cons pe_int pa_nil))) pe_int))
      (C8.pss_cut (ps_if (pt_cmpR op_lt (pv 7) pe_int (nomark _))
          (pss_cons (ps_dput hu (pv 3) (pv 8) (pe_callG G.house hr (by decide) rfl (pa_cons (pv 6) pa_nil)) rfl)
          (pss_one (ps_dput hu (pv 4) (pv 8) (pe_callG G.closed hr (by decide) rfl (pa_cons (pe_callG G.ruleOf hr (by decide) rfl (pa_cons (pe_dget hu (pv 3) (pv 8) (fun _ _ => rfl)) pa_nil)) pa_nil)) rfl)))
        (pss_one (ps_if (pt_cmpR op_eq (pv 7) pe_int (nomark _))
          (C8.pss_cut (ps_expr (pe_dpop2 (pv 3) (pv 8) pe_non ⟨rfl, rfl, rfl, rfl⟩))
          (pss_one (ps_expr (pe_dpop2 (pv 4) (pv 8) pe_non ⟨rfl, rfl, rfl, rfl⟩))))
        (pss_one (ps_if (pt_cmpR op_eq (pv 7) pe_int (nomark _))
          (pss_one (ps_set (i := 5) nd rfl (Or.inr rfl) (pe_op op_cat (pe_lc (own := [("_law_one", 13)]) (g := gName 13) rfl nd (pi_list (pv 5)) (blkOk_by (N := nmLaw) (sc := defScope sLaw) (by decide +kernel)) (fun _ _ _ _ _ => pg_name (i := 13) nd rfl (Or.inl rfl))
              (fun _ _ _ _ _ => pts_one (pt_cmpR op_ne (pv 13) (pv 8) (nomark _))) (fun _ _ _ _ _ => pv 13))
            (pe_op op_rep (pe_lst (pa_cons (pv 8) pa_nil)) (pe_callTy call_int1 (by rfl) TX.int (by decide +kernel) (pa_cons (pe_cmpR op_notIn_seq (pv 8) (pv 5) (by rfl)) pa_nil))))))
          pss_nil)))))
      (pss_cons (ps_set (i := 9) nd rfl (Or.inl rfl) (pe_op op_mod (pe_callG G.mix hr (by decide) rfl (pa_cons (pv 6) (pa_cons pe_int pa_nil))) pe_int))
      (pss_cons (ps_set (i := 10) nd rfl (Or.inl rfl) (pe_callG G.fig hr (by decide) rfl (pa_cons (pe_callG G.mix hr (by decide) rfl (pa_cons (pv 6) (pa_cons pe_int pa_nil))) (pa_cons pe_int pa_nil))))
      (pss_cons (ps_set (i := 11) nd rfl (Or.inl rfl) (pe_callG G.time hr (by decide) rfl (pa_cons (pv 6) pa_nil)))
      (pss_cons (ps_set (i := 12) nd rfl (Or.inl rfl) (pe_callLk (i := 5) (y := "_law_held") G.rung hr (by decide) rfl rfl rfl rfl rfl (pa_cons (pv 2) (pa_cons (pv 4) (pa_cons (pe_lam (q := qHeld) TB rfl rfl hm hut rfl freeHeld) (pa_cons (pv 9) (pa_cons (pv 10) (pa_cons (pv 11) pa_nil))))))))
      (pss_one (ps_if (pt_not (pt_val (pe_callG G.right hr (by decide) rfl (pa_cons (pv 1) (pa_cons (pv 3) (pa_cons (pv 5) (pa_cons (pv 12) (pa_cons (pv 9) (pa_cons (pv 10) (pa_cons (pv 11) pa_nil)))))))))) pss_never pss_nil))))))))))
    (pss_one (ps_ret pe_bl)))))))), ?_⟩
  refine ⟨_, rfl, sc, ns, rfl, hsc, fun c0 => ⟨c0, rfl, fun r rows H1 s1 hR ok => ?_⟩⟩
  refine ⟨_, rfl, fun pl dxp npl ndp nep => ⟨pl, dxp, r, rows, rfl, upd_same, hR.ext (Ext.ofS (same_upd2 npl ndp)), ok, fun H2 hP k2 => ⟨rfl, ?_⟩⟩⟩
  have s2 : Same H1 H2 := Keep1.made npl ndp k2
  obtain ⟨dx, t, wd, hpl, ht⟩ := hP.ex
  intro d nd3
  intro tn ntn
  have s3 : Same H2 (upd H2 d (.dK [])) := same_upd nd3
  have s4 : Same (upd H2 d (.dK [])) (upd (upd H2 d (.dK [])) tn (.dK [])) := same_upd ntn
  have htd : t ≠ d := ne_of_none ht nd3
  have httn : t ≠ tn := ne_of_none (s3 _ _ ht) ntn
  have hdtn : d ≠ tn := ne_of_none (upd_same (H := H2) (a := d)) ntn
  refine ⟨Nat.zero_le _, fun l nl => ?_⟩
  have s5 : Same (upd (upd H2 d (.dK [])) tn (.dK [])) (upd (upd (upd H2 d (.dK [])) tn (.dK [])) l (.lst [])) := same_upd nl
  have sA : Same H2 (upd (upd (upd H2 d (.dK [])) tn (.dK [])) l (.lst [])) := s3.trans (s4.trans s5)
  refine ⟨_, rfl, (show 3 ≤ sizeLine by decide), fun b3 nb3 => ?_⟩
  have s6 := same_upd (o := .lst [.int 67, .int 71, .int 73]) nb3
  refine ⟨sc, b3, _, _, rfl, rfl, (s1.trans (s2.trans (sA.trans s6))).seq hsc, upd_same, ?_, fun qa nqa => ?_⟩
  · rw [List.length_map]
    exact Nat.le_of_lt (small1000 (by show ns.length + 3 ≤ 1000; omega))
  have s7 := same_upd (o := .lst (ns.map V.int ++ [.int 67, .int 71, .int 73])) nqa
  have sB := sA.trans (s6.trans s7)
  have ecs : (ns.map V.int ++ [.int 67, .int 71, .int 73]) = (ns ++ [67, 71, 73]).map V.int := by rw [List.map_append]; rfl
  refine ⟨qa, rfl, ⟨_, SqL.of upd_same⟩, ?_⟩
  have hcl : (ns ++ [67, 71, 73]).length ≤ 66 := by rw [List.length_append]; show ns.length + 3 ≤ 66; omega
  refine for_list (xs := ns.map V.int ++ [.int 67, .int 71, .int 73]) (fun i σ H' => ∃ (hs : Houses) (held : List Int) (l : Addr) (u6 u7 u8 u9 u10 u11 u12 u13 : Option V), LInv T C H' r pl d tn l qa t rows hs hs held (ns.map V.int ++ [.int 67, .int 71, .int 73]) i ∧
    σ = [some (.ref sc), some (.ref r), some (.ref pl), some (.ref d), some (.ref tn), some (.ref l), u6, u7, u8, u9, u10, u11, u12, u13]) ?_ (fun i σ H' _ h => ?_) (fun i x σ H' hx h => ?_) (fun σ H' h => ?_)
  · refine ⟨fun _ => none, [], l, _, _, _, _, _, _, _, _, ⟨(hR.ext (Ext.ofS s2)).ext (Ext.ofS sB), ⟨dx, wd, sB _ _ hpl⟩, sB _ _ ht, ⟨[], ?_, Nat.le_refl _, fun w => rfl⟩, ⟨[], ?_, Nat.le_refl _, fun w => rfl⟩, fun w u e => (by cases e), (s6.trans s7) _ _ upd_same, Nat.le_refl _, upd_same, (hT.ext (s1.trans s2)).ext sB⟩, rfl⟩
    · exact (s4.trans (s5.trans (s6.trans s7))) _ _ upd_same
    · exact (s5.trans (s6.trans s7)) _ _ upd_same
  · obtain ⟨hs, held, l, u6, u7, u8, u9, u10, u11, u12, u13, L, rfl⟩ := h
    exact SqL.of L.cells
  · obtain ⟨hs, held, l, u6, u7, u8, u9, u10, u11, u12, u13, L, rfl⟩ := h
    rw [ecs, List.getElem?_map] at hx
    obtain ⟨ce, hce, rfl⟩ := Option.map_eq_some_iff.mp hx
    have hi : i < 66 := Nat.lt_of_lt_of_le (List.getElem?_eq_some_iff.mp hce).1 hcl
    refine ⟨_, rfl, ce, 284, rfl, fun n1 _ _ => ⟨_, _, rfl, rfl, (by show (0 : Int) < _; decide), ?_⟩⟩
    refine ⟨_, rfl, ce, 285, rfl, fun n2 _ _ => ⟨_, _, rfl, rfl, (by show (0 : Int) < _; decide), ?_⟩⟩
    refine ⟨fun σ' H' => ∃ (hs : Houses) (held : List Int) (l : Addr) (u7 u9 u10 u11 u12 u13 : Option V), LInv T C H' r pl d tn l qa t rows hs hs held (ns.map V.int ++ [.int 67, .int 71, .int 73]) (i + 1) ∧
      σ' = [some (.ref sc), some (.ref r), some (.ref pl), some (.ref d), some (.ref tn), some (.ref l), some (.int ce), u7, some (.int (n2 % 10)), u9, u10, u11, u12, u13], ?_, ?_⟩
    · refine ⟨_, rfl, _, _, rfl, rfl, _, rfl, ite2 (fun _ => ?_) (fun _ => ?_)⟩
      · -- a house is set
        refine ⟨_, rfl, ce, rfl, fun a u H3 s3 uok hat => ?_⟩
        have L1 := L.same s3
        obtain ⟨kvs, k1, k2, k3⟩ := L1.houses.ex
        refine ⟨_, rfl, _, rfl, d, _, rfl, DPut.k (k := Sum.inl (n2 % 10)) k1 (small1000 (by omega)), ?_⟩
        have hl := length_putK kvs (Sum.inl (n2 % 10) : Key) (V.ref a)
        have L2' := L1.setH (j := i + 1) (h3 := setHs hs (n2 % 10) (some u)) htd hdtn.symm (Nat.le_succ i) (setHs_ok L1.hok fun v e => by cases e; exact uok) (kvs := putK kvs (Sum.inl (n2 % 10) : Key) (V.ref a)) (by omega) (fun x => by
          rw [valV_put]
          unfold setHs
          by_cases e : x = (n2 % 10)
          · rw [if_pos e, if_pos (by rw [e])]
            exact ⟨a, rfl, hat⟩
          · rw [if_neg e, if_neg (fun z => e (Sum.inl.inj z))]
            exact k3 x)
        have hat2 : ToldAt (upd H3 d (.dK (putK kvs (Sum.inl (n2 % 10) : Key) (V.ref a)))) a u := hat.extW (ExtW.upd k1)
        refine ⟨_, rfl, _, rfl, d, .ref a, rfl, ?_, ?_⟩
        · have hg := DGet.k (k := Sum.inl (n2 % 10)) (upd_same (H := H3) (a := d) (o := .dK (putK kvs (Sum.inl (n2 % 10) : Key) (V.ref a))))
          rw [valV_put, if_pos rfl] at hg
          exact hg
        refine ⟨a, u, rfl, hat2, uok, fun H4 rr s4 hrule => ?_⟩
        have L3 := L2'.same s4
        refine ⟨rr, rfl, L3.tabs, fun ft H5 e5 T5 hturn => ?_⟩
        have L4 := L3.ext e5 T5
        obtain ⟨kvt, t1, t2, t3⟩ := L4.turns.ex
        have t2b : kvt.length ≤ i := by
          obtain ⟨kvt0, y1, y2, _⟩ := L1.turns.ex
          have y3 := (extN_ofS s4).trans e5 tn _ (by rw [upd_ne hdtn.symm]; exact y1) (fun ps z => by cases z)
          rw [t1] at y3
          cases y3
          exact y2
        refine ⟨_, rfl, _, rfl, tn, _, rfl, DPut.k (k := Sum.inl (n2 % 10)) t1 (small1000 (by omega)), ?_⟩
        have hlt := length_putK kvt (Sum.inl (n2 % 10) : Key) (V.ref ft)
        have hrule5 := hrule.ext (Ext.ofN e5)
        refine ⟨setHs hs (n2 % 10) (some u), held, l, _, _, _, _, _, _, L4.setT (j := i + 1) (h3 := setHs hs (n2 % 10) (some u)) httn hdtn (Nat.le_refl _) (kvs := putK kvt (Sum.inl (n2 % 10) : Key) (V.ref ft)) (by omega) (fun x => by
          rw [valV_put]
          unfold setHs
          by_cases e : x = (n2 % 10)
          · rw [if_pos e, if_pos (by rw [e])]
            exact ⟨ft, rr, rfl, hturn, hrule5⟩
          · rw [if_neg e, if_neg (fun z => e (Sum.inl.inj z))]
            exact t3 x), rfl⟩
      · refine ⟨_, rfl, rfl, _, rfl, ite2 (fun _ => ?_) (fun _ => ?_)⟩
        · -- a house is taken away
          obtain ⟨kvs, k1, k2, k3⟩ := L.houses.ex
          refine ⟨fun σ' H' => LInv T C H' r pl d tn l qa t rows (setHs hs (n2 % 10) none) hs held (ns.map V.int ++ [.int 67, .int 71, .int 73]) i ∧
            σ' = [some (.ref sc), some (.ref r), some (.ref pl), some (.ref d), some (.ref tn), some (.ref l), some (.int ce), some (.int (n1 % 8)), some (.int (n2 % 10)), u9, u10, u11, u12, u13], ?_, ?_⟩
          · have key : ∀ x, match setHs hs (n2 % 10) none x with
                | none => valV (dropK kvs (Sum.inl (n2 % 10) : Key)) (Sum.inl x : Key) = none
                | some u => ∃ a, valV (dropK kvs (Sum.inl (n2 % 10) : Key)) (Sum.inl x : Key) = some (.ref a) ∧ ToldAt H' a u := fun x => by
              rw [val_drop]
              unfold setHs
              by_cases e : x = (n2 % 10)
              · rw [if_pos e, if_pos (by rw [e])]
              · rw [if_neg e, if_neg (fun z => e (Sum.inl.inj z))]
                exact k3 x
            refine ⟨_, rfl, d, rfl, .inl ⟨kvs, .inl k1⟩, _, rfl, kvs, Sum.inl (n2 % 10), k1, rfl, fun v hv => ?_, fun hn => ?_⟩
            · exact ⟨L.setH htd hdtn.symm (Nat.le_refl i) (setHs_ok L.hok fun v e => by cases e) (Nat.le_trans (dropK_le _ _) k2) key, rfl⟩
            · have ehs : setHs hs (n2 % 10) none = hs := by
                funext x
                unfold setHs
                by_cases e : x = (n2 % 10)
                · rw [if_pos e, e]
                  have z := k3 (n2 % 10)
                  cases y : hs (n2 % 10) with
                  | none => rfl
                  | some u =>
                    rw [y] at z
                    obtain ⟨a, z1, _⟩ := z
                    rw [hn] at z1
                    cases z1
                · rw [if_neg e]
              rw [ehs]
              exact ⟨L, rfl⟩
          · rintro σ' H2 ⟨L1, rfl⟩
            obtain ⟨kvt, t1, t2, t3⟩ := L1.turns.ex
            have key : ∀ x, match setHs hs (n2 % 10) none x with
                | none => valV (dropK kvt (Sum.inl (n2 % 10) : Key)) (Sum.inl x : Key) = none
                | some u => ∃ f r, valV (dropK kvt (Sum.inl (n2 % 10) : Key)) (Sum.inl x : Key) = some (.ref f) ∧ Turned H2 f r ∧ RuleAt C H2 r u := fun x => by
              rw [val_drop]
              unfold setHs
              by_cases e : x = (n2 % 10)
              · rw [if_pos e, if_pos (by rw [e])]
              · rw [if_neg e, if_neg (fun z => e (Sum.inl.inj z))]
                exact t3 x
            refine ⟨_, rfl, tn, rfl, .inl ⟨kvt, .inl t1⟩, _, rfl, kvt, Sum.inl (n2 % 10), t1, rfl, fun v hv => ?_, fun hn => ?_⟩
            · exact ⟨setHs hs (n2 % 10) none, held, l, _, _, _, _, _, _, L1.setT httn hdtn (Nat.le_succ i) (Nat.le_trans (dropK_le _ _) (Nat.le_succ_of_le t2)) key, rfl⟩
            · have ehs : setHs hs (n2 % 10) none = hs := by
                funext x
                unfold setHs
                by_cases e : x = (n2 % 10)
                · rw [if_pos e, e]
                  have z := t3 (n2 % 10)
                  cases y : hs (n2 % 10) with
                  | none => rfl
                  | some u =>
                    rw [y] at z
                    obtain ⟨a, b, z1, _⟩ := z
                    rw [hn] at z1
                    cases z1
                · rw [if_neg e]
              rw [ehs] at L1
              exact ⟨hs, held, l, _, _, _, _, _, _, L1.mono (Nat.le_succ i), rfl⟩
        · refine ⟨_, rfl, rfl, _, rfl, ite2 (fun _ => ?_) (fun _ => ?_)⟩
          · -- a wire is held, or held no more
            refine ⟨_, rfl, l, rfl, ⟨_, SqL.of L.heldA⟩, fun D nD => ?_⟩
            refine lc_list (xs := held.map V.int) (fun i H2 => Same H' H2 ∧ ∃ fs : List Int, H2 D = some (.lst (fs.map V.int)) ∧ fs.length ≤ i) ⟨same_upd nD, [], upd_same, Nat.le_refl _⟩ (fun i H2 _ hh => SqL.of (hh.1 _ _ L.heldA)) (fun j x H2 hx hh => ?_) (fun H2 hh => ?_)
            · obtain ⟨sm, fs, hD, hl⟩ := hh
              have hj : j < held.length := by
                have z := (List.getElem?_eq_some_iff.mp hx).1
                rw [List.length_map] at z
                exact z
              have hlen := L.hlen
              rw [List.getElem?_map] at hx
              obtain ⟨y, hy, rfl⟩ := Option.map_eq_some_iff.mp hx
              refine ⟨rfl, ?_⟩
              refine ⟨_, rfl, _, rfl, rfl, _, rfl, ite2 (fun _ => ?_) (fun _ => ?_)⟩
              · refine ⟨_, rfl, _, hD, by rw [List.length_map]; exact small1000 (by omega), upd_free sm nD, fs ++ [y], by rw [upd_same, List.map_append]; rfl, by rw [List.length_append]; show fs.length + 1 ≤ j + 1; omega⟩
              · exact ⟨sm, fs, hD, by omega⟩
            · obtain ⟨sm, fs, hD, hl⟩ := hh
              rw [List.length_map] at hl
              have hlen := L.hlen
              refine ⟨_, rfl, (show 1 ≤ sizeLine by decide), fun B nB => ?_⟩
              have sB1 := same_upd (o := .lst [.int (n2 % 10)]) nB
              refine ⟨_, rfl, _, rfl, l, _, rfl, .inl (SqL.of (sB1 _ _ (sm _ _ L.heldA))), rfl, flat_ints held, ?_⟩
              have fin : ∀ (g : List Int) (H4 : Hp) (p : Addr), Same (upd H2 B (.lst [.int (n2 % 10)])) H4 → H4 p = some (.lst (g.map V.int)) → g.length ≤ 1 → (∃ l b xs zs, V.ref D = .ref l ∧ V.ref p = .ref b ∧ H4 l = some (.lst xs) ∧ H4 b = some (.lst zs) ∧ xs.length + zs.length ≤ sizeLine ∧ xs ++ zs = (fs ++ g).map V.int) := fun g H4 p s4 hp hg => by
                refine ⟨D, p, _, _, rfl, rfl, s4 _ _ (sB1 _ _ hD), hp, ?_, by rw [List.map_append]⟩
                rw [List.length_map, List.length_map]
                exact Nat.le_of_lt (small1000 (by omega))
              cases hb : (!inV (.int (n2 % 10)) (held.map V.int)) with
              | true =>
                refine .inr ⟨true, rfl, ?_⟩
                refine ⟨B, 1, _, rfl, rfl, upd_same, by decide, by decide, by show 1 * 1 ≤ sizeLine; decide, fun p np => ?_⟩
                obtain ⟨l1, b1, xs, zs, e1, e2, x1, x2, x3, x4⟩ := fin [(n2 % 10)] _ p (same_upd np) upd_same (Nat.le_refl _)
                refine ⟨l1, b1, xs, zs, e1, e2, x1, x2, x3, fun g ng => ?_⟩
                rw [x4]
                refine ⟨hs, fs ++ [(n2 % 10)], g, _, _, _, _, _, _, ?_, rfl⟩
                have Lg := (((L.same sm).same sB1).same (same_upd np)).same (same_upd (o := .lst ((fs ++ [(n2 % 10)]).map V.int)) ng)
                have Lg2 := Lg.mono (Nat.le_succ i)
                exact ⟨Lg2.rws, Lg2.plan, Lg2.things, Lg2.houses, Lg2.turns, Lg2.hok, upd_same, by rw [List.length_append]; show fs.length + 1 ≤ i + 1; omega, Lg2.cells, Lg2.tabs⟩
              | false =>
                refine .inr ⟨false, rfl, ?_⟩
                refine ⟨B, 0, _, rfl, rfl, upd_same, by decide, by decide, by show 1 * 0 ≤ sizeLine; decide, fun p np => ?_⟩
                obtain ⟨l1, b1, xs, zs, e1, e2, x1, x2, x3, x4⟩ := fin [] _ p (same_upd np) upd_same (Nat.zero_le _)
                refine ⟨l1, b1, xs, zs, e1, e2, x1, x2, x3, fun g ng => ?_⟩
                rw [x4]
                refine ⟨hs, fs ++ [], g, _, _, _, _, _, _, ?_, rfl⟩
                have Lg := (((L.same sm).same sB1).same (same_upd np)).same (same_upd (o := .lst ((fs ++ []).map V.int)) ng)
                have Lg2 := Lg.mono (Nat.le_succ i)
                exact ⟨Lg2.rws, Lg2.plan, Lg2.things, Lg2.houses, Lg2.turns, Lg2.hok, upd_same, by rw [List.length_append]; show fs.length + 0 ≤ i + 1; omega, Lg2.cells, Lg2.tabs⟩
          · exact ⟨hs, held, l, _, _, _, _, _, _, L.mono (Nat.le_succ i), rfl⟩
    · rintro σ' H2 ⟨hs, held, l, u7, u9, u10, u11, u12, u13, L, rfl⟩
      refine ⟨_, rfl, ce, 286, rfl, fun n3 _ _ => ⟨_, _, rfl, rfl, (by show (0 : Int) < _; decide), ?_⟩⟩
      refine ⟨_, rfl, ce, 287, rfl, fun n4 _ _ => ?_⟩
      refine ⟨n4, 5, rfl, by decide, by decide, fun z H3 s3 fz => ?_⟩
      refine ⟨_, rfl, ce, rfl, fun tm H4 s4 => ?_⟩
      have L1 := (L.same s3).same s4
      refine ⟨_, rfl, _, rfl, L1.tabs, fun fl c' H5 e5 T5 hfl hc' => ⟨_, rfl, _, rfl, _, rfl, .ref l, rfl, fun o u ho ru n5 => ?_⟩⟩
      have L2' := L1.ext e5 T5
      obtain ⟨dx', wd', hpl'⟩ := L2'.plan
      have sL : Same H5 (upd H5 _ (cellO o)) := same_upd n5
      refine ⟨pl, tn, fl, n3 % 64, z, tm, rows, hs, i + 1, held, rfl, ⟨dx', t, wd', sL _ _ hpl', sL _ _ L2'.things⟩, ok, L2'.turns.ext (extN_ofS sL), L2'.hok, ⟨_, c', l, sL _ _ hfl, sL _ _ hc', ⟨o, u, upd_same, ho, ru⟩, sL _ _ L2'.heldA⟩, fz.mono (by decide), fun word come H6 x cm s6 hx6 hc6 hright => fun hcell => ?_⟩
      have sE : Same H5 (era H6 _) := fun b ob e => by
        have hb : b ≠ _ := ne_of_none e n5
        rw [era_ne hb]
        exact (sL.trans s6) b ob e
      have L3 := L2'.same sE
      have hxe : era H6 _ x = some (.tup [.str word, .ref cm]) := (era_ne (ne_of hx6 hcell (by intro y; cases y))).trans hx6
      have hce : era H6 _ cm = some (.lst (come.map V.int)) := (era_ne (ne_of hc6 hcell (by intro y; cases y))).trans hc6
      refine ⟨_, rfl, _, rfl, _, rfl, _, rfl, _, rfl, _, rfl, _, rfl, r, d, l, x, cm, n3 % 64, z, tm, rows, hs, i + 1, held, come, word, rfl, ⟨L3.rws, ok, L3.houses, L3.hok, L3.heldA, L3.tabs⟩, hxe, hce, hright, fun H7 e7 T7 => ?_⟩
      refine ⟨true, rfl, iteF ?_⟩
      exact ⟨hs, held, l, _, _, _, _, _, _, _, _, L3.ext e7 T7, rfl⟩
  · exact q H'
end
end K55
set_option maxHeartbeats 0
/-! k55: what the top leaves, by one kernel run -/
namespace K55
open PySem PySem.Spec PyProof.Rows L2
def dd (x : Str) (st : Stmt) : He.DefD := ⟨(x, none), x, x, defArgs st, defBody st, defScope st, [], []⟩
def dm (C m q : Str) (st : Stmt) : He.DefD := ⟨(C, some m), m, q, defArgs st, defBody st, defScope st, [], []⟩
def fn : List He.DefD := [dd "closed" sClosed, dd "rung" sRung, dd "is_figures" sIsFig, dd "is_between" sIsBet, dm "Plan" "__init__" "Plan.__init__" sPlanI, dm "Plan" "longest" "Plan.longest" sPlanL, dm "Plan" "found" "Plan.found" sPlanF,
  dd "need" sNeed, dm "Stays" "to" "Rule.to" sRuleTo, dm "Stays" "deep" "Rule.deep" sRuleDeep, dm "Always" "__init__" "Always.__init__" sAlwI, dm "Always" "to" "Always.to" sAlwTo, dm "Always" "deep" "Rule.deep" sRuleDeep,
  dm "Busy" "__init__" "Always.__init__" sAlwI, dm "Busy" "to" "Busy.to" sBusyTo, dm "Busy" "deep" "Rule.deep" sRuleDeep,
  dm "Hours" "__init__" "Hours.__init__" sHoursI, dm "Hours" "to" "Hours.to" sHoursTo, dm "Hours" "deep" "Rule.deep" sRuleDeep,
  dm "From" "__init__" "From.__init__" sFromI, dm "From" "to" "From.to" sFromTo, dm "From" "deep" "Rule.deep" sRuleDeep,
  dm "First" "__init__" "First.__init__" sFirstI, dm "First" "to" "First.to" sFirstTo, dm "First" "deep" "First.deep" sFirstDeep,
  dd "first_by" sFirstBy, dd "rule_by" sRuleBy, dd "rule_of" sRuleOf,
  dd "_law_mixed" sMixed, dd "_law_cell_at" sCellAt, dd "_law_time" sTime, dd "_law_figures" sFigures, dd "_law_plan_rows" sPlanRows, dd "_law_plain" sPlain, dd "_law_house" sHouse, dd "_law_to" sTo,
  dd "_law_found" sFound, dd "_law_next" sNext, dd "_law_followed" sFollowed, dd "_law_right" sRight, dd "law" sLaw]
def fa : List He.Fa := [.glo "closed", .glo "rung", .glo "is_figures", .glo "is_between", .glo "need", .glo "first_by", .glo "rule_by", .glo "rule_of",
  .glo "_law_mixed", .glo "_law_cell_at", .glo "_law_time", .glo "_law_figures", .glo "_law_plan_rows", .glo "_law_plain", .glo "_law_house", .glo "_law_to", .glo "_law_found", .glo "_law_next", .glo "_law_followed", .glo "_law_right", .glo "law",
  .glo "Plan", .glo "Rule", .glo "Stays", .glo "Always", .glo "Busy", .glo "Hours", .glo "From", .glo "First", .glo "SIZES",
  .free "isinstance", .free "str", .free "len", .free "all", .free "int", .free "bool", .free "range", .free "list", .free "max", .free "sorted", .free "tuple", .free "set",
  .int "MOST_FIGURES" 15, .int "MOST_ROWS" 200, .int "DAY" 86400, .int "MOST_WIRES" 20, .int "LAST_WIRE" 63, .int "MOST_RULES" 6, .int "MOST_DEEP" 3, .str "FIGURES" "0123456789",
  .cls "Plan", .cls "Stays", .cls "Always", .cls "Busy", .cls "Hours", .cls "From", .cls "First",
  .noat "Plan" "things", .noat "Plan" "ways", .noat "Always" "number", .noat "Busy" "number", .noat "Hours" "number", .noat "Hours" "begin", .noat "Hours" "end", .noat "From" "number", .noat "From" "askers", .noat "First" "rules",
  .meth "Plan" "longest", .meth "Plan" "found", .meth "Stays" "to", .meth "Stays" "deep", .meth "Always" "to", .meth "Always" "deep", .meth "Busy" "to", .meth "Busy" "deep", .meth "Hours" "to", .meth "Hours" "deep", .meth "From" "to", .meth "From" "deep", .meth "First" "to", .meth "First" "deep",
  .mkr "Plan", .mkr "Always", .mkr "Busy", .mkr "Hours", .mkr "From", .mkr "First", .keep "Always", .keep "Stays"]
def sizesKeys : List Str := ["stays", "always", "busy", "hours", "from", "first"]
def sizesVals : List (Str × He.Dv) := [("stays", .int 1), ("always", .int 2), ("busy", .int 2), ("hours", .int 4), ("from", .int 3), ("first", .int 2)]
def ts : List He.Tab := [((fun K => He.ga K "SIZES"), sizesKeys)]
def tf : List He.Defn := [("closed", none), ("_law_found", none), ("law", none)]
/-- an instance of the class x is what isinstance asks: it has object's own __class__ -/
def insB (K : PySem.W.Frag) (x : Str) : Bool := He.eqO (PySem.W.findIn K (.ref (He.ga K x)) "__class__") (some (some (.builtin "object.__class__"))) && (decide (PySem.W.mroIn K (He.ga K x) (.type "object") = some true) && decide (PySem.W.kitOne K (.ref (He.ga K x)) (.ref (He.ga K "Rule")) = some true))
def cclsB (K : PySem.W.Frag) : Bool := He.eqO (PySem.W.specialIn K (.builtin "object.__class__") "__get__") (some (some (.builtin "getset_descriptor.__get__"))) && decide (PySem.W.takesIn K (.builtin "object.__class__") = some true)
/-- Always.__init__ read off the class -/
def clsFnB (K : PySem.W.Frag) : Bool := PySem.W.readsIn K (He.ga K "Always") (.type "type") && (He.eqO (PySem.W.specialIn K (.ref (He.ga K "Always")) "__getattribute__") (some (some (.builtin "type.__getattribute__"))) &&
  (match PySem.W.findCls K (.ref (He.ga K "Always")) (.type "type") "__init__" with
    | some (.val (.ref f)) => decide (f = He.ma K (He.ga K "Always") "__init__")
    | _ => false))
/-- Stays() -/
def mk0B (K : PySem.W.Frag) : Bool := PySem.W.makesIn K (He.ga K "Stays") && He.eqO (PySem.W.findIn K (.ref (He.ga K "Stays")) "__init__") (some (some (.builtin "object.__init__")))
/-- the tables of the three defs that make functions are three -/
def disB (K : PySem.W.Frag) : Bool := decide ((He.cT K ("closed", none)).2 ≠ (He.cT K ("_law_found", none)).2) && (decide ((He.cT K ("closed", none)).2 ≠ (He.cT K ("law", none)).2) && decide ((He.cT K ("_law_found", none)).2 ≠ (He.cT K ("law", none)).2))
def ex (K : PySem.W.Frag) : Bool := disB K && (insB K "Stays" && (insB K "Always" && (insB K "Busy" && (insB K "Hours" && (insB K "From" && (insB K "First" && (cclsB K && (clsFnB K && (mk0B K && He.valsB K (He.ga K "SIZES") sizesVals)))))))))
/-! the Hook: as HeadHook4's, the statics' dict looked at too -/
def asY (g : Addr → Option Obj) (n : Nat) : List Addr := cStatics :: He.asD g n
def obsY (n : Nat) (g : Addr → Option Obj) : He.AlX := (He.obsT fa fn ts (He.frT g (asY g n)), ex (He.frT g (asY g n)) && He.tabsB g tf (He.frT g (asY g n)))
theorem saysY_of {n : Nat} {w : World} {h : Heap} (e : obsY n h.get? = He.valX fn ts w) : He.SaysX fa fn ts tf ex w h (He.frT h.get? (asY h.get? n)) := by
  have e1 : He.obsT fa fn ts (He.frT h.get? (asY h.get? n)) = He.valT fn ts w := congrArg (fun z : He.AlX => z.1) e
  have e2 : (ex (He.frT h.get? (asY h.get? n)) && He.tabsB h.get? tf (He.frT h.get? (asY h.get? n))) = true := congrArg (fun z : He.AlX => z.2) e
  obtain ⟨h1, h2⟩ := He.ba e2
  have key : ∀ p ∈ tf, PySem.W.codeHdIn (He.frT h.get? (asY h.get? n)) (He.cT (He.frT h.get? (asY h.get? n)) p).1 (He.cT (He.frT h.get? (asY h.get? n)) p).2 = true ∧ ∃ o, h.get? (He.cT (He.frT h.get? (asY h.get? n)) p).2 = some o ∧ He.emptyTab o = true := fun p hp => by
    obtain ⟨h3, h4⟩ := He.ba (List.all_eq_true.mp h2 p hp)
    refine ⟨h3, ?_⟩
    cases q : h.get? (He.cT (He.frT h.get? (asY h.get? n)) p).2 with
    | none =>
      rw [q] at h4
      cases h4
    | some o =>
      rw [q] at h4
      exact ⟨o, rfl, h4⟩
  exact ⟨e1, h1, fun p hp => (key p hp).1, fun p hp => by
    obtain ⟨_, o, q, z⟩ := key p hp
    exact He.frT_none q z, fun p hp => by
    obtain ⟨_, o, q, z⟩ := key p hp
    rw [q, He.emptyTab_eq z]⟩
def hookY (n : Nat) : PySem.W.Hook where
  α := He.AlX
  obs := fun s => obsY n s.heap.get?
  val := fun w => He.valX fn ts w
  says := fun w h => ∃ K : PySem.W.Frag, K.In h ∧ He.SaysX fa fn ts tf ex w h K
  of := fun _ _ e => ⟨_, He.frT_in, saysY_of e⟩
  keeps := fun _ _ _ ⟨K, hK, c⟩ k => ⟨K, PySem.W.Frag.In.keeps hK k, ⟨c.t, c.more, c.hd, c.out, fun p hp => k _ _ (c.empty p hp)⟩⟩
theorem obsY_eq {n : Nat} {g : Addr → Option Obj} {s : Shared} (h : ∀ a, g a = s.heap.get? a) : obsY n g = (hookY n).obs s := by
  have e : g = s.heap.get? := funext h
  rw [e] <;> rfl
abbrev R : PySem.W.OpenRow := PySem.W.OpenLaw.row PySem.Challenge.rw_wirehall_k55_whole_no_wire_twice
def ob (s : PySem.W.SharedT) : He.AlX := obsY 4 (HandSHeadRun.getT s)
theorem ob_eq (s : PySem.W.SharedT) : ob s = (hookY 4).obs s.abs := obsY_eq (HandSHeadRun.getT_eq s)
def loose : List Str := (["_wall", "__name__", "closed", "rung", "HallError", "NoFigures", "TooMany", "NoRule", "Twice", "FIGURES", "MOST_FIGURES", "is_figures", "is_between", "MOST_ROWS", "Plan", "DAY", "MOST_WIRES", "LAST_WIRE", "MOST_RULES", "MOST_DEEP", "SIZES", "need", "Rule", "Stays", "Always", "Busy", "Hours", "From", "First"] : List Str) ++
  (["first_by", "rule_by", "rule_of", "_law_mixed", "_law_cell_at", "_law_time", "_law_figures", "_law_plan_rows", "_law_plain", "_law_house", "_law_to", "_law_found", "_law_next", "_law_followed", "_law_right"] : List Str)
theorem run0 (w : World) : HandSHeadRun.RunEq R (PySem.W.view R.prog [49]) (hookY 4) ob 20000 loose (w.withFollow "special-get-raises" false) := by
  intro os
  kernel_rfl
theorem run1 (w : World) : HandSHeadRun.RunEq R (PySem.W.view R.prog [49]) (hookY 4) ob 20000 loose (w.withFollow "special-get-raises" true) := by
  intro os
  kernel_rfl
theorem run (w : World) : HandSHeadRun.RunEq R (PySem.W.view R.prog [49]) (hookY 4) ob 20000 loose w :=
  PySem.W.byRow2 "special-get-raises" (P := fun w => HandSHeadRun.RunEq R (PySem.W.view R.prog [49]) (hookY 4) ob 20000 loose w) run0 run1 w
end K55
set_option maxHeartbeats 4100000
/-! k55: the walk and the head, joined -/
namespace K55
open PySem PySem.Spec PyProof.Rows L2 LamX NdefX
def cK (K : PySem.W.Frag) : CA := ⟨He.ga K "Stays", He.ga K "Always", He.ga K "Busy", He.ga K "Hours", He.ga K "From", He.ga K "First", He.ga K "Plan", He.ga K "Rule"⟩
def tK (K : PySem.W.Frag) : List (Addr × Str) := [((He.cT K ("closed", none)).2, qTurned), ((He.cT K ("_law_found", none)).2, qKey), ((He.cT K ("law", none)).2, qHeld)]
section
variable {P : Program} {w : World} {K : PySem.W.Frag} {h : Heap} {mg : Str → Option Value}
theorem ins_of {x : Str} (e : insB K x = true) (c : Cls K (He.ga K x)) : Ins K (He.ga K x) (He.ga K "Rule") := by
  obtain ⟨h1, h2⟩ := He.ba e
  obtain ⟨h2, h3⟩ := He.ba h2
  exact ⟨c, He.eqO_ok h1, of_decide_eq_true h2, of_decide_eq_true h3⟩
structure More (K : PySem.W.Frag) : Prop where
  dis : disB K = true
  iStays : insB K "Stays" = true
  iAlw : insB K "Always" = true
  iBusy : insB K "Busy" = true
  iHours : insB K "Hours" = true
  iFrom : insB K "From" = true
  iFirst : insB K "First" = true
  cc : cclsB K = true
  cf : clsFnB K = true
  mk0 : mk0B K = true
  vals : He.valsB K (He.ga K "SIZES") sizesVals = true
theorem more_of (e : ex K = true) : More K := by
  unfold ex at e
  obtain ⟨h0, e⟩ := He.ba e
  obtain ⟨h1, e⟩ := He.ba e
  obtain ⟨h2, e⟩ := He.ba e
  obtain ⟨h3, e⟩ := He.ba e
  obtain ⟨h4, e⟩ := He.ba e
  obtain ⟨h5, e⟩ := He.ba e
  obtain ⟨h6, e⟩ := He.ba e
  obtain ⟨h7, e⟩ := He.ba e
  obtain ⟨h8, e⟩ := He.ba e
  obtain ⟨h9, e⟩ := He.ba e
  exact ⟨h0, h1, h2, h3, h4, h5, h6, h7, h8, h9, e⟩
theorem clsFn_of (e : clsFnB K = true) (kp : PySem.W.keepIn K (.ref (He.ma K (He.ga K "Always") "__init__")) = true) : ClsFn K (He.ga K "Always") (.type "type") "__init__" (He.ma K (He.ga K "Always") "__init__") := by
  unfold clsFnB at e
  obtain ⟨h1, e⟩ := He.ba e
  obtain ⟨h2, e⟩ := He.ba e
  refine ⟨⟨h1, He.eqO_ok h2⟩, ?_, kp⟩
  split at e
  · rename_i f hf
    rw [hf, of_decide_eq_true e]
  · cases e
theorem sizes_val (e : He.valsB K (He.ga K "SIZES") sizesVals = true) (q : Str × He.Dv) (hq : q ∈ sizesVals) : ∃ u, PySem.W.nsIn K (He.ga K "SIZES") q.1 = some (some u) ∧ RelV (q.2.v K) u := He.valsB_ok e hq
theorem txt_of (X : K.In h) (G : h.Ns mainGlobals mg) (c : He.SaysX fa fn ts tf ex w h K) : Txt w K mg (cK K) := by
  have m := more_of c.more
  obtain ⟨c1, c2⟩ := He.ba m.cc
  obtain ⟨k1, k2⟩ := He.ba m.mk0
  obtain ⟨es, n, kd⟩ := c.t.tab 0 (t := ((fun K => He.ga K "SIZES"), sizesKeys)) rfl
  have sv := fun q hq => sizes_val m.vals q hq
  exact {
    isi := He.free_ok X G (c.t.d.fact 30 (f := .free "isinstance") rfl)
    str := He.free_ok X G (c.t.d.fact 31 (f := .free "str") rfl)
    len := He.free_ok X G (c.t.d.fact 32 (f := .free "len") rfl)
    all := He.free_ok X G (c.t.d.fact 33 (f := .free "all") rfl)
    int := He.free_ok X G (c.t.d.fact 34 (f := .free "int") rfl)
    bool := He.free_ok X G (c.t.d.fact 35 (f := .free "bool") rfl)
    range := He.free_ok X G (c.t.d.fact 36 (f := .free "range") rfl)
    list := He.free_ok X G (c.t.d.fact 37 (f := .free "list") rfl)
    max := He.free_ok X G (c.t.d.fact 38 (f := .free "max") rfl)
    sorted := He.free_ok X G (c.t.d.fact 39 (f := .free "sorted") rfl)
    tuple := He.free_ok X G (c.t.d.fact 40 (f := .free "tuple") rfl)
    set := He.free_ok X G (c.t.d.fact 41 (f := .free "set") rfl)
    mFig := He.int_ok X G (c.t.d.fact 42 (f := .int "MOST_FIGURES" 15) rfl)
    mRows := He.int_ok X G (c.t.d.fact 43 (f := .int "MOST_ROWS" 200) rfl)
    mDay := He.int_ok X G (c.t.d.fact 44 (f := .int "DAY" 86400) rfl)
    mWires := He.int_ok X G (c.t.d.fact 45 (f := .int "MOST_WIRES" 20) rfl)
    mLast := He.int_ok X G (c.t.d.fact 46 (f := .int "LAST_WIRE" 63) rfl)
    mRules := He.int_ok X G (c.t.d.fact 47 (f := .int "MOST_RULES" 6) rfl)
    mDeep := He.int_ok X G (c.t.d.fact 48 (f := .int "MOST_DEEP" 3) rfl)
    mFigures := He.str_ok X G (c.t.d.fact 49 (f := .str "FIGURES" "0123456789") rfl)
    gPlan := He.glo_ok X G (c.t.d.fact 21 (f := .glo "Plan") rfl)
    gRule := He.glo_ok X G (c.t.d.fact 22 (f := .glo "Rule") rfl)
    gStays := He.glo_ok X G (c.t.d.fact 23 (f := .glo "Stays") rfl)
    gAlw := He.glo_ok X G (c.t.d.fact 24 (f := .glo "Always") rfl)
    gBusy := He.glo_ok X G (c.t.d.fact 25 (f := .glo "Busy") rfl)
    gHours := He.glo_ok X G (c.t.d.fact 26 (f := .glo "Hours") rfl)
    gFrom := He.glo_ok X G (c.t.d.fact 27 (f := .glo "From") rfl)
    gFirst := He.glo_ok X G (c.t.d.fact 28 (f := .glo "First") rfl)
    clPlan := He.cls_ok (c.t.d.fact 50 (f := .cls "Plan") rfl)
    iStays := ins_of m.iStays (He.cls_ok (c.t.d.fact 51 (f := .cls "Stays") rfl))
    iAlw := ins_of m.iAlw (He.cls_ok (c.t.d.fact 52 (f := .cls "Always") rfl))
    iBusy := ins_of m.iBusy (He.cls_ok (c.t.d.fact 53 (f := .cls "Busy") rfl))
    iHours := ins_of m.iHours (He.cls_ok (c.t.d.fact 54 (f := .cls "Hours") rfl))
    iFrom := ins_of m.iFrom (He.cls_ok (c.t.d.fact 55 (f := .cls "From") rfl))
    iFirst := ins_of m.iFirst (He.cls_ok (c.t.d.fact 56 (f := .cls "First") rfl))
    ccGet := He.eqO_ok c1
    ccTake := of_decide_eq_true c2
    nThings := He.noat_ok (c.t.d.fact 57 (f := .noat "Plan" "things") rfl)
    nWays := He.noat_ok (c.t.d.fact 58 (f := .noat "Plan" "ways") rfl)
    nNumA := He.noat_ok (c.t.d.fact 59 (f := .noat "Always" "number") rfl)
    nNumB := He.noat_ok (c.t.d.fact 60 (f := .noat "Busy" "number") rfl)
    nNumH := He.noat_ok (c.t.d.fact 61 (f := .noat "Hours" "number") rfl)
    nBegin := He.noat_ok (c.t.d.fact 62 (f := .noat "Hours" "begin") rfl)
    nEnd := He.noat_ok (c.t.d.fact 63 (f := .noat "Hours" "end") rfl)
    nNumF := He.noat_ok (c.t.d.fact 64 (f := .noat "From" "number") rfl)
    nAskers := He.noat_ok (c.t.d.fact 65 (f := .noat "From" "askers") rfl)
    nRules := He.noat_ok (c.t.d.fact 66 (f := .noat "First" "rules") rfl)
    mk0 := ⟨k1, He.eqO_ok k2, He.keep_ok (c.t.d.fact 88 (f := .keep "Stays") rfl), (ins_of m.iStays (He.cls_ok (c.t.d.fact 51 (f := .cls "Stays") rfl))).top⟩
    sizes := ⟨He.ga K "SIZES", es, n, He.glo_ok X G (c.t.d.fact 29 (f := .glo "SIZES") rfl), kd, sv ("stays", .int 1) (by simp [sizesVals]), sv ("always", .int 2) (by simp [sizesVals]), sv ("busy", .int 2) (by simp [sizesVals]), sv ("hours", .int 4) (by simp [sizesVals]), sv ("from", .int 3) (by simp [sizesVals]), sv ("first", .int 2) (by simp [sizesVals])⟩ }
theorem tab_hu (e : disB K = true) : (∀ p ∈ tK K, p.1 = (He.cT K ("closed", none)).2 → p.2 = qTurned) ∧ (∀ p ∈ tK K, p.1 = (He.cT K ("_law_found", none)).2 → p.2 = qKey) ∧ ∀ p ∈ tK K, p.1 = (He.cT K ("law", none)).2 → p.2 = qHeld := by
  obtain ⟨h1, e⟩ := He.ba e
  obtain ⟨h2, h3⟩ := He.ba e
  have h1 := of_decide_eq_true h1
  have h2 := of_decide_eq_true h2
  have h3 := of_decide_eq_true h3
  refine ⟨fun p hp z => ?_, fun p hp z => ?_, fun p hp z => ?_⟩
  · rcases List.mem_cons.mp hp with rfl | hp
    · rfl
    rcases List.mem_cons.mp hp with rfl | hp
    · exact absurd z.symm h1
    rw [List.mem_singleton.mp hp] at z
    exact absurd z.symm h2
  · rcases List.mem_cons.mp hp with rfl | hp
    · exact absurd z h1
    rcases List.mem_cons.mp hp with rfl | hp
    · rfl
    rw [List.mem_singleton.mp hp] at z
    exact absurd z.symm h3
  · rcases List.mem_cons.mp hp with rfl | hp
    · exact absurd z h2
    rcases List.mem_cons.mp hp with rfl | hp
    · exact absurd z h3
    rw [List.mem_singleton.mp hp]
theorem facts {f : Addr} (X : K.In h) (G : h.Ns mainGlobals mg) (hfa : mg ("law" : Str) = some (.ref f)) (c : He.SaysX fa fn ts tf ex w h K) :
    ∃ fd : FuncData, (∀ (s : Shared) (v : Value), BindsTo s fd ⟨[v], []⟩ [("_law_script", v)]) ∧ ∀ base : Heap, K.In base → base.Ns mainGlobals mg → (∀ p ∈ tf.map (He.cT K), TabB base mg p.1 p.2) → FnOk P w K mg base CX0 9 f fd ["_law_script"] (spLaw K (tK K)) := by
  have m := more_of c.more
  have T := txt_of X G c
  obtain ⟨u1, u2, u3⟩ := tab_hu m.dis
  obtain ⟨fdFclosed, Fclosed⟩ := c.t.d.def_ 0 (d := dd "closed" sClosed) rfl
  have Fclosed : FnP K "closed" "closed" sClosed (He.ga K "closed") fdFclosed := Fclosed
  obtain ⟨fdFrung, Frung⟩ := c.t.d.def_ 1 (d := dd "rung" sRung) rfl
  have Frung : FnP K "rung" "rung" sRung (He.ga K "rung") fdFrung := Frung
  obtain ⟨fdFisfigures, Fisfigures⟩ := c.t.d.def_ 2 (d := dd "is_figures" sIsFig) rfl
  have Fisfigures : FnP K "is_figures" "is_figures" sIsFig (He.ga K "is_figures") fdFisfigures := Fisfigures
  obtain ⟨fdFisbetween, Fisbetween⟩ := c.t.d.def_ 3 (d := dd "is_between" sIsBet) rfl
  have Fisbetween : FnP K "is_between" "is_between" sIsBet (He.ga K "is_between") fdFisbetween := Fisbetween
  obtain ⟨fdFneed, Fneed⟩ := c.t.d.def_ 7 (d := dd "need" sNeed) rfl
  have Fneed : FnP K "need" "need" sNeed (He.ga K "need") fdFneed := Fneed
  obtain ⟨fdFfirstby, Ffirstby⟩ := c.t.d.def_ 25 (d := dd "first_by" sFirstBy) rfl
  have Ffirstby : FnP K "first_by" "first_by" sFirstBy (He.ga K "first_by") fdFfirstby := Ffirstby
  obtain ⟨fdFruleby, Fruleby⟩ := c.t.d.def_ 26 (d := dd "rule_by" sRuleBy) rfl
  have Fruleby : FnP K "rule_by" "rule_by" sRuleBy (He.ga K "rule_by") fdFruleby := Fruleby
  obtain ⟨fdFruleof, Fruleof⟩ := c.t.d.def_ 27 (d := dd "rule_of" sRuleOf) rfl
  have Fruleof : FnP K "rule_of" "rule_of" sRuleOf (He.ga K "rule_of") fdFruleof := Fruleof
  obtain ⟨fdFlmixed, Flmixed⟩ := c.t.d.def_ 28 (d := dd "_law_mixed" sMixed) rfl
  have Flmixed : FnP K "_law_mixed" "_law_mixed" sMixed (He.ga K "_law_mixed") fdFlmixed := Flmixed
  obtain ⟨fdFlcellat, Flcellat⟩ := c.t.d.def_ 29 (d := dd "_law_cell_at" sCellAt) rfl
  have Flcellat : FnP K "_law_cell_at" "_law_cell_at" sCellAt (He.ga K "_law_cell_at") fdFlcellat := Flcellat
  obtain ⟨fdFltime, Fltime⟩ := c.t.d.def_ 30 (d := dd "_law_time" sTime) rfl
  have Fltime : FnP K "_law_time" "_law_time" sTime (He.ga K "_law_time") fdFltime := Fltime
  obtain ⟨fdFlfigures, Flfigures⟩ := c.t.d.def_ 31 (d := dd "_law_figures" sFigures) rfl
  have Flfigures : FnP K "_law_figures" "_law_figures" sFigures (He.ga K "_law_figures") fdFlfigures := Flfigures
  obtain ⟨fdFlplanrows, Flplanrows⟩ := c.t.d.def_ 32 (d := dd "_law_plan_rows" sPlanRows) rfl
  have Flplanrows : FnP K "_law_plan_rows" "_law_plan_rows" sPlanRows (He.ga K "_law_plan_rows") fdFlplanrows := Flplanrows
  obtain ⟨fdFlplain, Flplain⟩ := c.t.d.def_ 33 (d := dd "_law_plain" sPlain) rfl
  have Flplain : FnP K "_law_plain" "_law_plain" sPlain (He.ga K "_law_plain") fdFlplain := Flplain
  obtain ⟨fdFlhouse, Flhouse⟩ := c.t.d.def_ 34 (d := dd "_law_house" sHouse) rfl
  have Flhouse : FnP K "_law_house" "_law_house" sHouse (He.ga K "_law_house") fdFlhouse := Flhouse
  obtain ⟨fdFlto, Flto⟩ := c.t.d.def_ 35 (d := dd "_law_to" sTo) rfl
  have Flto : FnP K "_law_to" "_law_to" sTo (He.ga K "_law_to") fdFlto := Flto
  obtain ⟨fdFlfound, Flfound⟩ := c.t.d.def_ 36 (d := dd "_law_found" sFound) rfl
  have Flfound : FnP K "_law_found" "_law_found" sFound (He.ga K "_law_found") fdFlfound := Flfound
  obtain ⟨fdFlnext, Flnext⟩ := c.t.d.def_ 37 (d := dd "_law_next" sNext) rfl
  have Flnext : FnP K "_law_next" "_law_next" sNext (He.ga K "_law_next") fdFlnext := Flnext
  obtain ⟨fdFlfollowed, Flfollowed⟩ := c.t.d.def_ 38 (d := dd "_law_followed" sFollowed) rfl
  have Flfollowed : FnP K "_law_followed" "_law_followed" sFollowed (He.ga K "_law_followed") fdFlfollowed := Flfollowed
  obtain ⟨fdFlright, Flright⟩ := c.t.d.def_ 39 (d := dd "_law_right" sRight) rfl
  have Flright : FnP K "_law_right" "_law_right" sRight (He.ga K "_law_right") fdFlright := Flright
  obtain ⟨fdFlaw, Flaw⟩ := c.t.d.def_ 40 (d := dd "law" sLaw) rfl
  have Flaw : FnP K "law" "law" sLaw (He.ga K "law") fdFlaw := Flaw
  obtain ⟨fdMPlanI, MPlanI⟩ := c.t.d.def_ 4 (d := dm "Plan" "__init__" "Plan.__init__" sPlanI) rfl
  have MPlanI : FnP K "__init__" "Plan.__init__" sPlanI (He.ma K (He.ga K "Plan") "__init__") fdMPlanI := MPlanI
  obtain ⟨fdMPlanL, MPlanL⟩ := c.t.d.def_ 5 (d := dm "Plan" "longest" "Plan.longest" sPlanL) rfl
  have MPlanL : FnP K "longest" "Plan.longest" sPlanL (He.ma K (He.ga K "Plan") "longest") fdMPlanL := MPlanL
  obtain ⟨fdMPlanF, MPlanF⟩ := c.t.d.def_ 6 (d := dm "Plan" "found" "Plan.found" sPlanF) rfl
  have MPlanF : FnP K "found" "Plan.found" sPlanF (He.ma K (He.ga K "Plan") "found") fdMPlanF := MPlanF
  obtain ⟨fdMStaysT, MStaysT⟩ := c.t.d.def_ 8 (d := dm "Stays" "to" "Rule.to" sRuleTo) rfl
  have MStaysT : FnP K "to" "Rule.to" sRuleTo (He.ma K (He.ga K "Stays") "to") fdMStaysT := MStaysT
  obtain ⟨fdMStaysD, MStaysD⟩ := c.t.d.def_ 9 (d := dm "Stays" "deep" "Rule.deep" sRuleDeep) rfl
  have MStaysD : FnP K "deep" "Rule.deep" sRuleDeep (He.ma K (He.ga K "Stays") "deep") fdMStaysD := MStaysD
  obtain ⟨fdMAlwaysI, MAlwaysI⟩ := c.t.d.def_ 10 (d := dm "Always" "__init__" "Always.__init__" sAlwI) rfl
  have MAlwaysI : FnP K "__init__" "Always.__init__" sAlwI (He.ma K (He.ga K "Always") "__init__") fdMAlwaysI := MAlwaysI
  obtain ⟨fdMAlwaysT, MAlwaysT⟩ := c.t.d.def_ 11 (d := dm "Always" "to" "Always.to" sAlwTo) rfl
  have MAlwaysT : FnP K "to" "Always.to" sAlwTo (He.ma K (He.ga K "Always") "to") fdMAlwaysT := MAlwaysT
  obtain ⟨fdMAlwaysD, MAlwaysD⟩ := c.t.d.def_ 12 (d := dm "Always" "deep" "Rule.deep" sRuleDeep) rfl
  have MAlwaysD : FnP K "deep" "Rule.deep" sRuleDeep (He.ma K (He.ga K "Always") "deep") fdMAlwaysD := MAlwaysD
  obtain ⟨fdMBusyI, MBusyI⟩ := c.t.d.def_ 13 (d := dm "Busy" "__init__" "Always.__init__" sAlwI) rfl
  have MBusyI : FnP K "__init__" "Always.__init__" sAlwI (He.ma K (He.ga K "Busy") "__init__") fdMBusyI := MBusyI
  obtain ⟨fdMBusyT, MBusyT⟩ := c.t.d.def_ 14 (d := dm "Busy" "to" "Busy.to" sBusyTo) rfl
  have MBusyT : FnP K "to" "Busy.to" sBusyTo (He.ma K (He.ga K "Busy") "to") fdMBusyT := MBusyT
  obtain ⟨fdMBusyD, MBusyD⟩ := c.t.d.def_ 15 (d := dm "Busy" "deep" "Rule.deep" sRuleDeep) rfl
  have MBusyD : FnP K "deep" "Rule.deep" sRuleDeep (He.ma K (He.ga K "Busy") "deep") fdMBusyD := MBusyD
  obtain ⟨fdMHoursI, MHoursI⟩ := c.t.d.def_ 16 (d := dm "Hours" "__init__" "Hours.__init__" sHoursI) rfl
  have MHoursI : FnP K "__init__" "Hours.__init__" sHoursI (He.ma K (He.ga K "Hours") "__init__") fdMHoursI := MHoursI
  obtain ⟨fdMHoursT, MHoursT⟩ := c.t.d.def_ 17 (d := dm "Hours" "to" "Hours.to" sHoursTo) rfl
  have MHoursT : FnP K "to" "Hours.to" sHoursTo (He.ma K (He.ga K "Hours") "to") fdMHoursT := MHoursT
  obtain ⟨fdMHoursD, MHoursD⟩ := c.t.d.def_ 18 (d := dm "Hours" "deep" "Rule.deep" sRuleDeep) rfl
  have MHoursD : FnP K "deep" "Rule.deep" sRuleDeep (He.ma K (He.ga K "Hours") "deep") fdMHoursD := MHoursD
  obtain ⟨fdMFromI, MFromI⟩ := c.t.d.def_ 19 (d := dm "From" "__init__" "From.__init__" sFromI) rfl
  have MFromI : FnP K "__init__" "From.__init__" sFromI (He.ma K (He.ga K "From") "__init__") fdMFromI := MFromI
  obtain ⟨fdMFromT, MFromT⟩ := c.t.d.def_ 20 (d := dm "From" "to" "From.to" sFromTo) rfl
  have MFromT : FnP K "to" "From.to" sFromTo (He.ma K (He.ga K "From") "to") fdMFromT := MFromT
  obtain ⟨fdMFromD, MFromD⟩ := c.t.d.def_ 21 (d := dm "From" "deep" "Rule.deep" sRuleDeep) rfl
  have MFromD : FnP K "deep" "Rule.deep" sRuleDeep (He.ma K (He.ga K "From") "deep") fdMFromD := MFromD
  obtain ⟨fdMFirstI, MFirstI⟩ := c.t.d.def_ 22 (d := dm "First" "__init__" "First.__init__" sFirstI) rfl
  have MFirstI : FnP K "__init__" "First.__init__" sFirstI (He.ma K (He.ga K "First") "__init__") fdMFirstI := MFirstI
  obtain ⟨fdMFirstT, MFirstT⟩ := c.t.d.def_ 23 (d := dm "First" "to" "First.to" sFirstTo) rfl
  have MFirstT : FnP K "to" "First.to" sFirstTo (He.ma K (He.ga K "First") "to") fdMFirstT := MFirstT
  obtain ⟨fdMFirstD, MFirstD⟩ := c.t.d.def_ 24 (d := dm "First" "deep" "First.deep" sFirstDeep) rfl
  have MFirstD : FnP K "deep" "First.deep" sFirstDeep (He.ma K (He.ga K "First") "deep") fdMFirstD := MFirstD
  have ef := hfa.symm.trans (He.glo_ok X G (c.t.d.fact 20 (f := .glo "law") rfl))
  cases ef
  refine ⟨fdFlaw, fun s v => FunD.bindsA (ps := ["_law_script"]) Flaw (fun _ _ _ _ _ _ us hl => match us, hl with | [_], _ => rfl) s [v] rfl, fun base KB GB hTB => ?_⟩
  have GFisfigures : Glob P w K mg base 1 "is_figures" ["thing"] spFig := ⟨_, _, ok_fig Fisfigures T, He.glo_ok X G (c.t.d.fact 2 (f := .glo "is_figures") rfl), Fisfigures.kp, (FunD.bindsN (ps := ["thing"]) Fisfigures fun _ _ _ _ _ _ us hl => match us, hl with | [_], _ => rfl)⟩
  have GFisbetween : Glob P w K mg base 1 "is_between" ["thing", "least", "most"] spBet := ⟨_, _, ok_bet Fisbetween T, He.glo_ok X G (c.t.d.fact 3 (f := .glo "is_between") rfl), Fisbetween.kp, (FunD.bindsN (ps := ["thing", "least", "most"]) Fisbetween fun _ _ _ _ _ _ us hl => match us, hl with | [_, _, _], _ => rfl)⟩
  have GFneed : Glob P w K mg base 1 "need" ["good"] spNeed := ⟨_, _, ok_need Fneed, He.glo_ok X G (c.t.d.fact 4 (f := .glo "need") rfl), Fneed.kp, (FunD.bindsN (ps := ["good"]) Fneed fun _ _ _ _ _ _ us hl => match us, hl with | [_], _ => rfl)⟩
  have bAI := (FunD.bindsN (ps := ["self", "number"]) MAlwaysI fun _ _ _ _ _ _ us hl => match us, hl with | [_, _], _ => rfl)
  have oAI : FnOk P w K mg base CX0 2 _ _ ["self", "number"] (spAlwI K) := ok_alwI MAlwaysI T GFisfigures GFneed
  have cf := clsFn_of m.cf MAlwaysI.kp
  have mkA : MkOf P w K mg base 2 (cK K).alw ["self", "number"] (spAlwI K) := ⟨_, _, (He.mkr_ok (c.t.d.fact 82 (f := .mkr "Always") rfl)), oAI, bAI⟩
  have mkB : MkOf P w K mg base 2 (cK K).busy ["self", "number"] (spAlwI K) := ⟨_, _, (He.mkr_ok (c.t.d.fact 83 (f := .mkr "Busy") rfl)), ok_alwI MBusyI T GFisfigures GFneed, (FunD.bindsN (ps := ["self", "number"]) MBusyI fun _ _ _ _ _ _ us hl => match us, hl with | [_, _], _ => rfl)⟩
  have mkH : MkOf P w K mg base 3 (cK K).hours ["self", "begin", "end", "number"] (spHoursI (cK K)) := ⟨_, _, (He.mkr_ok (c.t.d.fact 84 (f := .mkr "Hours") rfl)), ok_hoursI MHoursI T cf oAI bAI GFisbetween GFneed, (FunD.bindsN (ps := ["self", "begin", "end", "number"]) MHoursI fun _ _ _ _ _ _ us hl => match us, hl with | [_, _, _, _], _ => rfl)⟩
  have mkF : MkOf P w K mg base 3 (cK K).frm ["self", "wires", "number"] (spFromI (cK K)) := ⟨_, _, (He.mkr_ok (c.t.d.fact 85 (f := .mkr "From") rfl)), ok_fromI MFromI T cf oAI bAI GFisbetween GFneed, (FunD.bindsN (ps := ["self", "wires", "number"]) MFromI fun _ _ _ _ _ _ us hl => match us, hl with | [_, _, _], _ => rfl)⟩
  have hD : ∀ D sp, SDeep (cK K) D sp → MethOf P w K mg base CX0 1 "deep" D sp := by
    rintro D sp ⟨⟨hO⟩, rfl⟩
    rcases hO with rfl | rfl | rfl | rfl | rfl
    · exact ⟨T.iStays.cl, _, _, ["self"], (He.meth_ok (c.t.d.fact 70 (f := .meth "Stays" "deep") rfl)), ok_deep0 MStaysD, (FunD.bindsN (ps := ["self"]) MStaysD fun _ _ _ _ _ _ us hl => match us, hl with | [_], _ => rfl)⟩
    · exact ⟨T.iAlw.cl, _, _, ["self"], (He.meth_ok (c.t.d.fact 72 (f := .meth "Always" "deep") rfl)), ok_deep0 MAlwaysD, (FunD.bindsN (ps := ["self"]) MAlwaysD fun _ _ _ _ _ _ us hl => match us, hl with | [_], _ => rfl)⟩
    · exact ⟨T.iBusy.cl, _, _, ["self"], (He.meth_ok (c.t.d.fact 74 (f := .meth "Busy" "deep") rfl)), ok_deep0 MBusyD, (FunD.bindsN (ps := ["self"]) MBusyD fun _ _ _ _ _ _ us hl => match us, hl with | [_], _ => rfl)⟩
    · exact ⟨T.iHours.cl, _, _, ["self"], (He.meth_ok (c.t.d.fact 76 (f := .meth "Hours" "deep") rfl)), ok_deep0 MHoursD, (FunD.bindsN (ps := ["self"]) MHoursD fun _ _ _ _ _ _ us hl => match us, hl with | [_], _ => rfl)⟩
    · exact ⟨T.iFrom.cl, _, _, ["self"], (He.meth_ok (c.t.d.fact 78 (f := .meth "From" "deep") rfl)), ok_deep0 MFromD, (FunD.bindsN (ps := ["self"]) MFromD fun _ _ _ _ _ _ us hl => match us, hl with | [_], _ => rfl)⟩
  have oFD : FnOk P w K mg base CX0 2 _ _ ["self"] (spDeep1 (cK K)) := ok_firstD MFirstD T hD
  have bFD := (FunD.bindsN (ps := ["self"]) MFirstD fun _ _ _ _ _ _ us hl => match us, hl with | [_], _ => rfl)
  have mkR : MkOf P w K mg base 3 (cK K).first ["self", "rules"] (spFirstI (cK K)) := ⟨_, _, (He.mkr_ok (c.t.d.fact 86 (f := .mkr "First") rfl)), ok_firstI MFirstI T (He.meth_ok (c.t.d.fact 80 (f := .meth "First" "deep") rfl)) oFD bFD GFneed, (FunD.bindsN (ps := ["self", "rules"]) MFirstI fun _ _ _ _ _ _ us hl => match us, hl with | [_, _], _ => rfl)⟩
  have MK : Makers P w K mg base (cK K) := ⟨GFneed, mkA, mkB, mkH, mkF, mkR⟩
  have hT1 : ∀ D sp, SToP (cK K) D sp → MethOf P w K mg base CX0 1 "to" D sp := by
    rintro D sp (⟨rfl, rfl⟩ | ⟨rfl, rfl⟩ | ⟨rfl, rfl⟩ | ⟨rfl, rfl⟩ | ⟨rfl, rfl⟩)
    · exact ⟨T.iStays.cl, _, _, psTo, (He.meth_ok (c.t.d.fact 69 (f := .meth "Stays" "to") rfl)), ok_staysTo MStaysT, (FunD.bindsN (ps := psTo) MStaysT fun _ _ _ _ _ _ us hl => match us, hl with | [_, _, _, _], _ => rfl)⟩
    · exact ⟨T.iAlw.cl, _, _, psTo, (He.meth_ok (c.t.d.fact 71 (f := .meth "Always" "to") rfl)), ok_alwTo MAlwaysT T, (FunD.bindsN (ps := psTo) MAlwaysT fun _ _ _ _ _ _ us hl => match us, hl with | [_, _, _, _], _ => rfl)⟩
    · exact ⟨T.iBusy.cl, _, _, psTo, (He.meth_ok (c.t.d.fact 73 (f := .meth "Busy" "to") rfl)), ok_busyTo MBusyT T, (FunD.bindsN (ps := psTo) MBusyT fun _ _ _ _ _ _ us hl => match us, hl with | [_, _, _, _], _ => rfl)⟩
    · exact ⟨T.iHours.cl, _, _, psTo, (He.meth_ok (c.t.d.fact 75 (f := .meth "Hours" "to") rfl)), ok_hoursTo MHoursT T, (FunD.bindsN (ps := psTo) MHoursT fun _ _ _ _ _ _ us hl => match us, hl with | [_, _, _, _], _ => rfl)⟩
    · exact ⟨T.iFrom.cl, _, _, psTo, (He.meth_ok (c.t.d.fact 77 (f := .meth "From" "to") rfl)), ok_fromTo MFromT T, (FunD.bindsN (ps := psTo) MFromT fun _ _ _ _ _ _ us hl => match us, hl with | [_, _, _, _], _ => rfl)⟩
  have hT2 : ∀ D sp, STo (cK K) D sp → MethOf P w K mg base CX0 2 "to" D sp := by
    rintro D sp (hp | ⟨rfl, rfl⟩)
    · obtain ⟨cl, ff, fdd, pss, mm, oo, bb⟩ := hT1 D sp hp
      exact ⟨cl, ff, fdd, pss, mm, oo.mono (by decide), bb⟩
    · exact ⟨T.iFirst.cl, _, _, psTo, (He.meth_ok (c.t.d.fact 79 (f := .meth "First" "to") rfl)), ok_firstTo MFirstT T hT1, (FunD.bindsN (ps := psTo) MFirstT fun _ _ _ _ _ _ us hl => match us, hl with | [_, _, _, _], _ => rfl)⟩
  have mkP : MkOf P w K mg base 2 (cK K).plan ["self", "rows"] (spPlanI (cK K)) := ⟨_, _, (He.mkr_ok (c.t.d.fact 81 (f := .mkr "Plan") rfl)), ok_planI MPlanI T GFisfigures, (FunD.bindsN (ps := ["self", "rows"]) MPlanI fun _ _ _ _ _ _ us hl => match us, hl with | [_, _], _ => rfl)⟩
  have oPF : FnOk P w K mg base CX0 2 _ _ ["self", "number"] (spPlanF (cK K)) := ok_planF MPlanF T (He.meth_ok (c.t.d.fact 67 (f := .meth "Plan" "longest") rfl)) (ok_planL MPlanL T) (FunD.bindsN (ps := ["self", "number"]) MPlanL fun _ _ _ _ _ _ us hl => match us, hl with | [_, _], _ => rfl)
  have bPF := (FunD.bindsN (ps := ["self", "number"]) MPlanF fun _ _ _ _ _ _ us hl => match us, hl with | [_, _], _ => rfl)
  have gRB1 : Glob P w K mg base 5 "rule_by" ["told", "deep"] (spRuleBy1 (cK K)) := ⟨_, _, ok_ruleBy1 Fruleby T MK, He.glo_ok X G (c.t.d.fact 6 (f := .glo "rule_by") rfl), Fruleby.kp, (FunD.bindsN (ps := ["told", "deep"]) Fruleby fun _ _ _ _ _ _ us hl => match us, hl with | [_, _], _ => rfl)⟩
  have GFfirstby : Glob P w K mg base 6 "first_by" ["rows", "deep"] (spFirstBy (cK K)) := ⟨_, _, ok_firstBy Ffirstby T MK gRB1, He.glo_ok X G (c.t.d.fact 5 (f := .glo "first_by") rfl), Ffirstby.kp, (FunD.bindsN (ps := ["rows", "deep"]) Ffirstby fun _ _ _ _ _ _ us hl => match us, hl with | [_, _], _ => rfl)⟩
  have gRB0 : Glob P w K mg base 7 "rule_by" ["told", "deep"] (spRuleBy0 (cK K)) := ⟨_, _, ok_ruleBy0 (ok_ruleBy1 Fruleby T MK) (ok_ruleByF Fruleby T GFneed GFfirstby), He.glo_ok X G (c.t.d.fact 6 (f := .glo "rule_by") rfl), Fruleby.kp, (FunD.bindsN (ps := ["told", "deep"]) Fruleby fun _ _ _ _ _ _ us hl => match us, hl with | [_, _], _ => rfl)⟩
  have GFruleof : Glob P w K mg base 8 "rule_of" ["told"] (spRuleOf (cK K)) := ⟨_, _, ok_ruleOf Fruleof gRB0, He.glo_ok X G (c.t.d.fact 7 (f := .glo "rule_of") rfl), Fruleof.kp, (FunD.bindsN (ps := ["told"]) Fruleof fun _ _ _ _ _ _ us hl => match us, hl with | [_], _ => rfl)⟩
  have GFclosed : Glob P w K mg base 1 "closed" ["rule"] (spClosed (tK K)) := ⟨_, _, ok_closed Fclosed (code_of (p := ("closed", none)) Fclosed) (hTB (He.cT K ("closed", none)) (List.mem_map.mpr ⟨("closed", none), by simp [tf], rfl⟩)) (by simp [tK]) u1, He.glo_ok X G (c.t.d.fact 0 (f := .glo "closed") rfl), Fclosed.kp, (FunD.bindsN (ps := ["rule"]) Fclosed fun _ _ _ _ _ _ us hl => match us, hl with | [_], _ => rfl)⟩
  have GFrung : Glob P w K mg base 4 "rung" ["plan", "turns", "is_busy", "asker", "number", "time"] (spRung (cK K)) := ⟨_, _, ok_rung Frung T (He.meth_ok (c.t.d.fact 68 (f := .meth "Plan" "found") rfl)) oPF bPF hT2, He.glo_ok X G (c.t.d.fact 1 (f := .glo "rung") rfl), Frung.kp, (FunD.bindsN (ps := ["plan", "turns", "is_busy", "asker", "number", "time"]) Frung fun _ _ _ _ _ _ us hl => match us, hl with | [_, _, _, _, _, _], _ => rfl)⟩
  have GFlmixed : Glob P w K mg base 1 "_law_mixed" ["_law_cell", "_law_k"] spMixed := ⟨_, _, ok_mixed Flmixed, He.glo_ok X G (c.t.d.fact 8 (f := .glo "_law_mixed") rfl), Flmixed.kp, (FunD.bindsN (ps := ["_law_cell", "_law_k"]) Flmixed fun _ _ _ _ _ _ us hl => match us, hl with | [_, _], _ => rfl)⟩
  have GFlcellat : Glob P w K mg base 2 "_law_cell_at" ["_law_script", "_law_k"] (spCellAt K) := ⟨_, _, ok_cellAt Flcellat T GFlmixed, He.glo_ok X G (c.t.d.fact 9 (f := .glo "_law_cell_at") rfl), Flcellat.kp, (FunD.bindsN (ps := ["_law_script", "_law_k"]) Flcellat fun _ _ _ _ _ _ us hl => match us, hl with | [_, _], _ => rfl)⟩
  have GFltime : Glob P w K mg base 2 "_law_time" ["_law_cell"] spTime := ⟨_, _, ok_time Fltime T GFlmixed, He.glo_ok X G (c.t.d.fact 10 (f := .glo "_law_time") rfl), Fltime.kp, (FunD.bindsN (ps := ["_law_cell"]) Fltime fun _ _ _ _ _ _ us hl => match us, hl with | [_], _ => rfl)⟩
  have GFlfigures : Glob P w K mg base 2 "_law_figures" ["_law_cell", "_law_most"] spFigures := ⟨_, _, ok_figures Flfigures T GFlmixed, He.glo_ok X G (c.t.d.fact 11 (f := .glo "_law_figures") rfl), Flfigures.kp, (FunD.bindsN (ps := ["_law_cell", "_law_most"]) Flfigures fun _ _ _ _ _ _ us hl => match us, hl with | [_, _], _ => rfl)⟩
  have GFlplanrows : Glob P w K mg base 3 "_law_plan_rows" ["_law_cell"] spPlanRows := ⟨_, _, ok_planRows Flplanrows T GFlmixed GFlfigures, He.glo_ok X G (c.t.d.fact 12 (f := .glo "_law_plan_rows") rfl), Flplanrows.kp, (FunD.bindsN (ps := ["_law_cell"]) Flplanrows fun _ _ _ _ _ _ us hl => match us, hl with | [_], _ => rfl)⟩
  have GFlplain : Glob P w K mg base 2 "_law_plain" ["_law_cell", "_law_number"] spPlain := ⟨_, _, ok_plain Flplain T GFlmixed, He.glo_ok X G (c.t.d.fact 13 (f := .glo "_law_plain") rfl), Flplain.kp, (FunD.bindsN (ps := ["_law_cell", "_law_number"]) Flplain fun _ _ _ _ _ _ us hl => match us, hl with | [_, _], _ => rfl)⟩
  have GFlhouse : Glob P w K mg base 3 "_law_house" ["_law_cell"] spHouse := ⟨_, _, ok_house Flhouse T GFlmixed GFlfigures GFlplain, He.glo_ok X G (c.t.d.fact 14 (f := .glo "_law_house") rfl), Flhouse.kp, (FunD.bindsN (ps := ["_law_cell"]) Flhouse fun _ _ _ _ _ _ us hl => match us, hl with | [_], _ => rfl)⟩
  have gTP : Glob P w K mg base 1 "_law_to" ["_law_told", "_law_asker", "_law_busy", "_law_time_here"] spToP := ⟨_, _, ok_toP Flto T, He.glo_ok X G (c.t.d.fact 15 (f := .glo "_law_to") rfl), Flto.kp, (FunD.bindsN (ps := ["_law_told", "_law_asker", "_law_busy", "_law_time_here"]) Flto fun _ _ _ _ _ _ us hl => match us, hl with | [_, _, _, _], _ => rfl)⟩
  have gT2 : Glob P w K mg base 2 "_law_to" ["_law_told", "_law_asker", "_law_busy", "_law_time_here"] spTo := ⟨_, _, ok_to (ok_toP Flto T) (ok_toF Flto T gTP), He.glo_ok X G (c.t.d.fact 15 (f := .glo "_law_to") rfl), Flto.kp, (FunD.bindsN (ps := ["_law_told", "_law_asker", "_law_busy", "_law_time_here"]) Flto fun _ _ _ _ _ _ us hl => match us, hl with | [_, _, _, _], _ => rfl)⟩
  have GFlfound : Glob P w K mg base 2 "_law_found" ["_law_rows", "_law_number"] (spFound (tK K)) := ⟨_, _, ok_found Flfound (code_of (p := ("_law_found", none)) Flfound) T (hTB (He.cT K ("_law_found", none)) (List.mem_map.mpr ⟨("_law_found", none), by simp [tf], rfl⟩)) (by simp [tK]) u2, He.glo_ok X G (c.t.d.fact 16 (f := .glo "_law_found") rfl), Flfound.kp, (FunD.bindsN (ps := ["_law_rows", "_law_number"]) Flfound fun _ _ _ _ _ _ us hl => match us, hl with | [_, _], _ => rfl)⟩
  have GFlnext : Glob P w K mg base 3 "_law_next" ["_law_houses", "_law_held", "_law_wire", "_law_asker", "_law_time_here"] spNext := ⟨_, _, ok_next Flnext gT2, He.glo_ok X G (c.t.d.fact 17 (f := .glo "_law_next") rfl), Flnext.kp, (FunD.bindsN (ps := ["_law_houses", "_law_held", "_law_wire", "_law_asker", "_law_time_here"]) Flnext fun _ _ _ _ _ _ us hl => match us, hl with | [_, _, _, _, _], _ => rfl)⟩
  have GFlfollowed : Glob P w K mg base 4 "_law_followed" ["_law_rows", "_law_houses", "_law_held", "_law_come", "_law_asker", "_law_number", "_law_time_here"] (spFollowed (tK K)) := ⟨_, _, ok_followed Flfollowed GFlfound GFlnext, He.glo_ok X G (c.t.d.fact 18 (f := .glo "_law_followed") rfl), Flfollowed.kp, (FunD.bindsN (ps := ["_law_rows", "_law_houses", "_law_held", "_law_come", "_law_asker", "_law_number", "_law_time_here"]) Flfollowed fun _ _ _ _ _ _ us hl => match us, hl with | [_, _, _, _, _, _, _], _ => rfl)⟩
  have GFlright : Glob P w K mg base 5 "_law_right" ["_law_rows", "_law_houses", "_law_held", "_law_found_here", "_law_asker", "_law_number", "_law_time_here"] (spRight (tK K)) := ⟨_, _, ok_right Flright T GFlfound GFlfollowed, He.glo_ok X G (c.t.d.fact 19 (f := .glo "_law_right") rfl), Flright.kp, (FunD.bindsN (ps := ["_law_rows", "_law_houses", "_law_held", "_law_found_here", "_law_asker", "_law_number", "_law_time_here"]) Flright fun _ _ _ _ _ _ us hl => match us, hl with | [_, _, _, _, _, _, _], _ => rfl)⟩
  exact ok_law Flaw (code_of (p := ("law", none)) Flaw) T ⟨GFlmixed, GFlcellat, GFlfigures, GFltime, GFlplanrows, GFlhouse, mkP, GFclosed, GFruleof, GFrung, GFlright⟩ (hTB (He.cT K ("law", none)) (List.mem_map.mpr ⟨("law", none), by simp [tf], rfl⟩)) (by simp [tK]) u3
end
end K55
open PySem PySem.W PySem.Calls PyProof.Rows
theorem PySem.Challenge.cw_wirehall_k55_whole_no_wire_twice_holds : PySem.Challenge.rw_wirehall_k55_whole_no_wire_twice.Holds := by
  w_on; o_law
  refine HandSHeadRun.head_any (r := OpenLaw.row PySem.Challenge.rw_wirehall_k55_whole_no_wire_twice) (q := view (OpenLaw.row PySem.Challenge.rw_wirehall_k55_whole_no_wire_twice).prog [49]) (H := K55.hookY 4) (ob := K55.ob) (M := 20000) (loose := K55.loose)
    (d := HandSHeadRun.topDef (OpenLaw.row PySem.Challenge.rw_wirehall_k55_whole_no_wire_twice).prog 49) (kwd := []) K55.ob_eq
    (by kernel_rfl) (fun s => by kernel_rfl) K55.run (by kernel_rfl) (by kernel_rfl) (by kernel_rfl) (by rfl) (by first | assumption | decide +kernel) (by decide +kernel) ⟨rfl, rfl, rfl, rfl, rfl, by decide +kernel⟩ ?hw ?hc
  case hw => w_witness2
  case hc =>
    refine LamX.walk_ofTsE (l := PySem.Challenge.rw_wirehall_k55_whole_no_wire_twice) (n := 63) (k := 9) (x := "_law_script") (CX := fun _ => L2.CX0) rfl (by decide) (by kernel_rfl) ⟨rfl, by decide, by decide⟩ ?F (fun _ _ _ _ _ z => z)
    intro w mg fa h Y G hmg0
    obtain ⟨K, KX, c⟩ := Y
    have hmg : mg ("law" : PySem.Str) = some (.ref fa) := by
      have e : (HandSHeadRun.topDef (OpenLaw.row PySem.Challenge.rw_wirehall_k55_whole_no_wire_twice).prog 49).name = ("law" : PySem.Str) := by kernel_rfl
      rw [← e]
      exact hmg0
    obtain ⟨fd, hb, hF⟩ := K55.facts (P := (PySem.Challenge.rw_wirehall_k55_whole_no_wire_twice).prog) (w := w) KX G hmg c
    refine ⟨K, KX, fd, K55.tf.map (He.cT K), K55.spLaw K (K55.tK K), ?_, ?_, ?_, hb, ?_, hF⟩
    · intro p hp
      obtain ⟨q, hq, rfl⟩ := List.mem_map.mp hp
      exact c.empty q hq
    · intro p hp
      obtain ⟨q, hq, rfl⟩ := List.mem_map.mp hp
      exact c.out q hq
    · intro p hp
      obtain ⟨q, hq, rfl⟩ := List.mem_map.mp hp
      exact PySem.W.codeHd_of_K KX (c.hd q hq)
    · intro H a ns hl _ hcs hS
      refine ⟨a, ns, rfl, hS, hl, fun p hp => ?_, fun _ => rfl⟩
      have hin : p.1 ∈ (K55.tf.map (He.cT K)).map (·.2) := by
        unfold K55.tK at hp
        rcases List.mem_cons.mp hp with rfl | hp
        · simp [K55.tf]
        rcases List.mem_cons.mp hp with rfl | hp
        · simp [K55.tf]
        rw [List.mem_singleton.mp hp]
        simp [K55.tf]
      obtain ⟨q, hq, eq⟩ := List.mem_map.mp hin
      refine ⟨#[], by rw [← eq]; exact hcs q hq, ?_, ?_⟩
      · trivial
      · intro pos cv hcv
        cases hcv
